/-
  Lemmas of this claim: a layer over the kit's calls, contracts of the functions that the law reaches, and the law's row. No condition of its own.
-/
import Derived.Below
import Derived.Laws.Entries
import Derived.Laws.MakeOwn
import Derived.Laws.OwnMore
import Derived.Laws.Build
import Derived.WalkKit
import Derived.Laws.BytesString
import Derived.Lib.AppendZeros
import Derived.Shelf.Abstract
import Derived.Laws.StructEq
set_option linter.unusedSectionVars false
set_option linter.unusedSimpArgs false
set_option linter.unusedVariables false
namespace Go.Lift
open Go Go.RowKit
inductive AV where
 |und
 |b (x:Bool)
 |i (k:IntKind) (n:Int)
 |s (x:ByteArray)
 |sl (k:Nat) (nl:Bool) (xs:List AV)
 |own (id off len:Nat)
 |st (fs:List AV)
 |tup (fs:List AV)
 |pt (cs:List AV)
 |loc (id j o:Nat)
 |fn (f:FuncId) (caps:List AV)
 |nilp
 |nilf
 |raw (v:Value)
 deriving Inhabited
def AV.cells:AV→List AV
 | .st fs=>fs
 |x=>[x]
structure MF where
 g:Nat
 cap:Nat
 k:Nat
structure Mu where
 f:Nat→Option (Option MF)
 Y:Nat→Prop
instance:CoeFun Mu (fun _=>Nat→Option (Option MF)):=⟨Mu.f⟩
def Mu.own (μ:Mu) (g:Nat):Prop:= ∃id s,μ id=some (some s)∧s.g=g
def Mu.mut (μ:Mu) (g:Nat):Prop:=μ.Y g∨μ.own g
def Gb:Nat:=281474976710656
def fnV (f:Nat) (cs:Array Value) (v:Value):Prop:=
 (f<1000000∧v= .func (.func f) #[] cs)∨(1000000≤f∧cs.size=f /1000000∧v= .func (.func (f % 1000000)) cs #[])
def Rd (w:World) (μ:Mu) (a:Addr) (u:Value):Prop:=w.cell? a=some u∧ ¬μ.mut a.block∧u.oneCell'=true
def OO {α:Type} (f:Nat):List α→Nat
 | []=>f
 |_::xs=>OO f xs+1000000
theorem Nr {α:Type} (f:Nat): ∀xs:List α,OO f xs=f+1000000*xs.length
 | []=>rfl
 |x::xs=>by rw [OO,Nr f xs,List.length_cons];omega
theorem fnV.ex {f:Nat} {cs:Array Value} {v:Value} (h:fnV f cs v): ∃g a b,v= .func (.func g) a b:=by
 rcases h with ⟨_,h⟩|⟨_,_,h⟩<;>exact ⟨_,_,_,h⟩
mutual
def CR (w:World) (μ:Mu):AV→Value→Prop
 | .und,_=>True
 | .b x,v=>v= .bool x
 | .i k n,v=>v= .int k n
 | .s x,v=>v= .string x∧x.size≤Gb
 | .sl k nl xs,v=>(xs=[]∧v= .slice none 0 0)∨
  (nl=false∧ ∃a c,v= .slice (some a) xs.length c∧xs.length≤c∧xs.length≤Gb∧BR w μ k xs a)
 | .own _ _ _,_=>False
 | .st fs,v=> ∃cs,v= .agg cs∧FL w μ fs cs.toList
 | .tup fs,v=> ∃cs,v= .tuple cs∧FL w μ fs cs.toList
 | .pt cs,v=> ∃a,v= .pointer (some a)∧BL w μ cs a
 | .loc _ _ _,_=>False
 | .fn f caps,v=> ∃cs,fnV f cs v∧FL w μ caps cs.toList
 | .nilp,v=>v= .pointer none
 | .nilf,v=>v= .nilFunc
 | .raw u,v=>v=u
def FL (w:World) (μ:Mu):List AV→List Value→Prop
 | [],vs=>vs=[]
 |x::xs,vs=> ∃v r,vs=v::r∧CR w μ x v∧FL w μ xs r
def BL (w:World) (μ:Mu):List AV→Addr→Prop
 | [],_=>True
 |x::xs,a=>(∃u,Rd w μ a u∧CR w μ x u)∧BL w μ xs (a.add 1)
def BR (w:World) (μ:Mu) (k:Nat):List AV→Addr→Prop
 | [],_=>True
 |x::xs,a=>(match x with
   | .st fs=>fs.length=k∧BL w μ fs a
   |y=>k=1∧ ∃u,Rd w μ a u∧CR w μ y u)∧BR w μ k xs (a.add k)
end
mutual
def VR (w:World) (μ:Mu):AV→Value→Prop
 | .own id off len,v=>match μ id with
  |none=>False
  |some none=>True
  |some (some s)=> ∃a c,v= .slice (some a) len c∧len≤c∧off+c=s.cap∧a.block=s.g∧(0<c→a=⟨s.g,off*s.k,none⟩)
 | .loc id j o,v=>match μ id with
  |none=>False
  |some none=>True
  |some (some s)=>v= .pointer (some ⟨s.g,j*s.k+o,none⟩)
 | .st fs,v=> ∃cs,v= .agg cs∧D2 w μ fs cs.toList
 | .tup fs,v=> ∃cs,v= .tuple cs∧D2 w μ fs cs.toList
 | .fn f caps,v=> ∃cs,fnV f cs v∧D2 w μ caps cs.toList
 | .und,_=>True
 | .b x,v=>CR w μ (.b x) v
 | .i k n,v=>CR w μ (.i k n) v
 | .s x,v=>CR w μ (.s x) v
 | .sl k nl xs,v=>CR w μ (.sl k nl xs) v
 | .pt cs,v=>CR w μ (.pt cs) v
 | .nilp,v=>v= .pointer none
 | .nilf,v=>v= .nilFunc
 | .raw u,v=>v=u
def D2 (w:World) (μ:Mu):List AV→List Value→Prop
 | [],vs=>vs=[]
 |x::xs,vs=> ∃v r,vs=v::r∧VR w μ x v∧D2 w μ xs r
end
theorem H6 (a:Addr) (i j:Nat):(a.add i).add j=a.add (i+j):=by
 unfold Addr.add
 by_cases hi:i=0
 ·subst hi;simp
 ·by_cases hj:j=0
  ·subst hj;simp
  ·simp [hi,hj];omega
theorem add_zero (a:Addr):a.add 0=a:=by simp [Addr.add]
theorem HG (a:Addr) (i:Nat):(a.add i).block=a.block:=by unfold Addr.add;split<;>rfl
theorem Er (g o n:Nat):(⟨g,o,none⟩:Addr).add n=⟨g,o+n,none⟩:=by
 unfold Addr.add;split<;>simp_all
section
variable {w:World} {μ:Mu}
theorem GJ: ∀ {xs:List AV} {vs:List Value},FL w μ xs vs→vs.length=xs.length
 | [],vs,h=>by simp [FL] at h;simp [h]
 |x::xs,vs,h=>by
  simp only [FL] at h
  obtain ⟨v,r,rfl,_,h2⟩:=h
  simp [GJ h2]
theorem Dm: ∀ {xs:List AV} {vs:List Value},D2 w μ xs vs→vs.length=xs.length
 | [],vs,h=>by simp [D2] at h;simp [h]
 |x::xs,vs,h=>by
  simp only [D2] at h
  obtain ⟨v,r,rfl,_,h2⟩:=h
  simp [Dm h2]
theorem GC: ∀ {xs:List AV} {vs:List Value} (_:D2 w μ xs vs) (i:Nat) (x:AV),xs[i]? =some x→ ∃v,vs[i]? =some v∧VR w μ x v
 | [],vs,h,i,x,hx=>by simp at hx
 |y::xs,vs,h,i,x,hx=>by
  simp only [D2] at h
  obtain ⟨v,r,rfl,h1,h2⟩:=h
  cases i with
  |zero=>simp at hx;subst hx;exact ⟨v,rfl,h1⟩
  |succ i=>simp at hx;obtain ⟨u,hu,hv⟩:=GC h2 i x hx;exact ⟨u,by simpa using hu,hv⟩
theorem GK: ∀ {xs:List AV} {vs:List Value},vs.length=xs.length→(∀(i:Nat) (x:AV) (v:Value),xs[i]? =some x→vs[i]? =some v→VR w μ x v)→D2 w μ xs vs
 | [],vs,hl,h=>by simp only [D2];exact List.length_eq_zero_iff.1 (by simpa using hl)
 |y::xs,[],hl,h=>by simp at hl
 |y::xs,v::vs,hl,h=>by
  simp only [D2]
  exact ⟨v,vs,rfl,h 0 y v rfl rfl,GK (by simpa using hl) fun i x u hx hu=>h (i+1) x u (by simpa using hx) (by simpa using hu)⟩
theorem KH {xs ys:List AV} {vs us:List Value} (h:D2 w μ xs vs) (k:D2 w μ ys us):D2 w μ (xs++ys) (vs++us):=by
 induction xs generalizing vs with
 |nil=>simp only [D2] at h;subst h;simpa using k
 |cons x xs ih=>
  simp only [D2] at h
  obtain ⟨v,r,rfl,h1,h2⟩:=h
  simp only [List.cons_append,D2]
  exact ⟨v,r++us,rfl,h1,ih h2⟩
theorem OJ {xs:List AV} {vs:List Value} (h:D2 w μ xs vs) (n:Nat):D2 w μ (xs.drop n) (vs.drop n):=by
 refine GK (by simp [Dm h]) fun i x v hx hv=> ?_
 rw [List.getElem?_drop] at hx hv
 obtain ⟨u,hu,hr⟩:=GC h _ _ hx
 rw [hu] at hv;cases hv;exact hr
theorem St {xs:List AV} {vs:List Value} (h:D2 w μ xs vs) (n:Nat):D2 w μ (xs.take n) (vs.take n):=by
 refine GK (by simp [Dm h]) fun i x v hx hv=> ?_
 rw [List.getElem?_take] at hx hv
 split at hx
 ·rename_i hi
  rw [if_pos hi] at hv
  obtain ⟨u,hu,hr⟩:=GC h _ _ hx
  rw [hu] at hv;cases hv;exact hr
 ·simp at hx
theorem GT: ∀ {cs:List AV} {a:Addr} (_:BL w μ cs a) (i:Nat) (x:AV),cs[i]? =some x→ ∃u,Rd w μ (a.add i) u∧CR w μ x u
 | [],a,h,i,x,hx=>by simp at hx
 |y::cs,a,h,i,x,hx=>by
  simp only [BL] at h
  obtain ⟨h1,h2⟩:=h
  cases i with
  |zero=>simp at hx;subst hx;rw [add_zero];exact h1
  |succ i=>
   simp at hx
   have:=GT h2 i x hx
   rwa [H6,Nat.add_comm] at this
theorem Mf: ∀ {cs:List AV} {a:Addr},(∀(i:Nat) (x:AV),cs[i]? =some x→ ∃u,Rd w μ (a.add i) u∧CR w μ x u)→BL w μ cs a
 | [],a,h=>by simp only [BL]
 |y::cs,a,h=>by
  simp only [BL]
  refine ⟨by have:=h 0 y rfl;rwa [add_zero] at this,Mf fun i x hx=> ?_⟩
  have:=h (i+1) x (by simpa using hx)
  rwa [H6,Nat.add_comm]
theorem Rb {cs:List AV} {a:Addr} (h:BL w μ cs a) (o:Nat):BL w μ (cs.drop o) (a.add o):=
 Mf fun i x hx=>by
  rw [List.getElem?_drop] at hx
  have:=GT h _ _ hx
  rwa [H6]
theorem Rc {cs:List AV} {a:Addr} (h:BL w μ cs a) (o:Nat):BL w μ (cs.take o) a:=
 Mf fun i x hx=>by
  rw [List.getElem?_take] at hx
  split at hx
  ·exact GT h _ _ hx
  ·simp at hx
theorem Jq {k:Nat} {x:AV} {xs:List AV} {a:Addr}:BR w μ k (x::xs) a↔x.cells.length=k∧BL w μ x.cells a∧BR w μ k xs (a.add k):=by
 cases x<;>simp only [BR,AV.cells,BL,List.length_cons,List.length_nil,and_true,Nat.zero_add,and_assoc,eq_comm (a:=(1:Nat))]
theorem HE: ∀ {k:Nat} {xs:List AV} {a:Addr} (_:BR w μ k xs a) (j:Nat) (x:AV),xs[j]? =some x→x.cells.length=k∧BL w μ x.cells (a.add (j*k))
 |k,[],a,h,j,x,hx=>by simp at hx
 |k,y::xs,a,h,j,x,hx=>by
  rw [Jq] at h
  obtain ⟨h1,h2,h3⟩:=h
  cases j with
  |zero=>simp at hx;subst hx;rw [Nat.zero_mul,add_zero];exact ⟨h1,h2⟩
  |succ j=>
   simp at hx
   have:=HE h3 j x hx
   rwa [H6,show k+j*k=(j+1)*k by rw [Nat.add_mul];omega] at this
theorem LO: ∀ {k:Nat} {xs:List AV} {a:Addr},(∀(j:Nat) (x:AV),xs[j]? =some x→x.cells.length=k∧BL w μ x.cells (a.add (j*k)))→BR w μ k xs a
 |k,[],a,h=>by simp only [BR]
 |k,y::xs,a,h=>by
  rw [Jq]
  have h0:=h 0 y rfl
  rw [Nat.zero_mul,add_zero] at h0
  refine ⟨h0.1,h0.2,LO fun j x hx=> ?_⟩
  have:=h (j+1) x (by simpa using hx)
  rwa [H6,show k+j*k=(j+1)*k by rw [Nat.add_mul];omega]
theorem Sf {k:Nat} {xs:List AV} {a:Addr} (h:BR w μ k xs a) (n:Nat):BR w μ k (xs.drop n) (a.add (n*k)):=
 LO fun j x hx=>by
  rw [List.getElem?_drop] at hx
  have:=HE h _ _ hx
  rwa [H6,←Nat.add_mul]
theorem Sg {k:Nat} {xs:List AV} {a:Addr} (h:BR w μ k xs a) (n:Nat):BR w μ k (xs.take n) a:=
 LO fun j x hx=>by
  rw [List.getElem?_take] at hx
  split at hx
  ·exact HE h _ _ hx
  ·simp at hx
end
structure ID (w:World) (μ:Mu) (w':World) (μ':Mu):Prop where
 rd: ∀a u,Rd w μ a u→Rd w' μ' a u
 mu: ∀id s,μ id=some s→μ' id=some s∨μ' id=some none
 bl: ∀g,g<w.heap.size→ ¬μ.mut g→w'.heap[g]? =w.heap[g]?
 mt: ∀g,μ'.mut g→μ.mut g∨w.heap.size≤g
mutual
theorem Du {w w':World} {μ μ':Mu} (h: ∀a u,Rd w μ a u→Rd w' μ' a u): ∀(x:AV) (v:Value),CR w μ x v→CR w' μ' x v
 | .und,_,_=>by simp only [CR]
 | .b _,_,k=>by simpa only [CR] using k
 | .i _ _,_,k=>by simpa only [CR] using k
 | .s _,_,k=>by simpa only [CR] using k
 | .sl n nl xs,v,k=>by
   simp only [CR] at k ⊢
   rcases k with k|⟨k1,a,c,k2,k3,k4,k5⟩
   ·exact Or.inl k
   ·exact Or.inr ⟨k1,a,c,k2,k3,k4,MB h n xs a k5⟩
 | .own _ _ _,_,k=>by simp only [CR] at k
 | .st fs,v,k=>by
   simp only [CR] at k ⊢
   obtain ⟨cs,e,k⟩:=k
   exact ⟨cs,e,J1 h fs _ k⟩
 | .tup fs,v,k=>by
   simp only [CR] at k ⊢
   obtain ⟨cs,e,k⟩:=k
   exact ⟨cs,e,J1 h fs _ k⟩
 | .pt cs,v,k=>by
   simp only [CR] at k ⊢
   obtain ⟨a,e,k⟩:=k
   exact ⟨a,e,Gr h cs a k⟩
 | .loc _ _ _,_,k=>by simp only [CR] at k
 | .fn f fs,v,k=>by
   simp only [CR] at k ⊢
   obtain ⟨cs,e,k⟩:=k
   exact ⟨cs,e,J1 h fs _ k⟩
 | .nilp,_,k=>by simpa only [CR] using k
 | .nilf,_,k=>by simpa only [CR] using k
 | .raw _,_,k=>by simpa only [CR] using k
theorem J1 {w w':World} {μ μ':Mu} (h: ∀a u,Rd w μ a u→Rd w' μ' a u): ∀(xs:List AV) (vs:List Value),FL w μ xs vs→FL w' μ' xs vs
 | [],vs,k=>by simpa only [FL] using k
 |x::xs,vs,k=>by
  simp only [FL] at k ⊢
  obtain ⟨v,r,e,k1,k2⟩:=k
  exact ⟨v,r,e,Du h x v k1,J1 h xs r k2⟩
theorem Gr {w w':World} {μ μ':Mu} (h: ∀a u,Rd w μ a u→Rd w' μ' a u): ∀(cs:List AV) (a:Addr),BL w μ cs a→BL w' μ' cs a
 | [],a,k=>by simp only [BL]
 |x::xs,a,k=>by
  simp only [BL] at k ⊢
  obtain ⟨⟨u,k1,k2⟩,k3⟩:=k
  exact ⟨⟨u,h _ _ k1,Du h x u k2⟩,Gr h xs _ k3⟩
theorem MB {w w':World} {μ μ':Mu} (h: ∀a u,Rd w μ a u→Rd w' μ' a u) (n:Nat): ∀(cs:List AV) (a:Addr),BR w μ n cs a→BR w' μ' n cs a
 | [],a,k=>by simp only [BR]
 |x::xs,a,k=>by
  rw [Jq] at k ⊢
  obtain ⟨k1,k2,k3⟩:=k
  refine ⟨k1,?_,MB h n xs _ k3⟩
  cases x with
  |st fs=>exact Gr h fs a k2
  |und=>simp only [AV.cells,BL] at k2 ⊢;obtain ⟨⟨u,q1,q2⟩,_⟩:=k2;exact ⟨⟨u,h _ _ q1,Du h _ u q2⟩,trivial⟩
  |b x=>simp only [AV.cells,BL] at k2 ⊢;obtain ⟨⟨u,q1,q2⟩,_⟩:=k2;exact ⟨⟨u,h _ _ q1,Du h _ u q2⟩,trivial⟩
  |i x y=>simp only [AV.cells,BL] at k2 ⊢;obtain ⟨⟨u,q1,q2⟩,_⟩:=k2;exact ⟨⟨u,h _ _ q1,Du h _ u q2⟩,trivial⟩
  |s x=>simp only [AV.cells,BL] at k2 ⊢;obtain ⟨⟨u,q1,q2⟩,_⟩:=k2;exact ⟨⟨u,h _ _ q1,Du h _ u q2⟩,trivial⟩
  |sl p q zs=>simp only [AV.cells,BL] at k2 ⊢;obtain ⟨⟨u,q1,q2⟩,_⟩:=k2;exact ⟨⟨u,h _ _ q1,Du h (.sl p q zs) u q2⟩,trivial⟩
  |own p q r=>simp only [AV.cells,BL,CR] at k2;obtain ⟨⟨u,_,q2⟩,_⟩:=k2;exact q2.elim
  |tup zs=>simp only [AV.cells,BL] at k2 ⊢;obtain ⟨⟨u,q1,q2⟩,_⟩:=k2;exact ⟨⟨u,h _ _ q1,Du h (.tup zs) u q2⟩,trivial⟩
  |pt zs=>simp only [AV.cells,BL] at k2 ⊢;obtain ⟨⟨u,q1,q2⟩,_⟩:=k2;exact ⟨⟨u,h _ _ q1,Du h (.pt zs) u q2⟩,trivial⟩
  |loc p q r=>simp only [AV.cells,BL,CR] at k2;obtain ⟨⟨u,_,q2⟩,_⟩:=k2;exact q2.elim
  |fn f zs=>simp only [AV.cells,BL] at k2 ⊢;obtain ⟨⟨u,q1,q2⟩,_⟩:=k2;exact ⟨⟨u,h _ _ q1,Du h (.fn f zs) u q2⟩,trivial⟩
  |nilp=>simp only [AV.cells,BL] at k2 ⊢;obtain ⟨⟨u,q1,q2⟩,_⟩:=k2;exact ⟨⟨u,h _ _ q1,Du h _ u q2⟩,trivial⟩
  |nilf=>simp only [AV.cells,BL] at k2 ⊢;obtain ⟨⟨u,q1,q2⟩,_⟩:=k2;exact ⟨⟨u,h _ _ q1,Du h _ u q2⟩,trivial⟩
  |raw _=>simp only [AV.cells,BL] at k2 ⊢;obtain ⟨⟨u,q1,q2⟩,_⟩:=k2;exact ⟨⟨u,h _ _ q1,Du h _ u q2⟩,trivial⟩
end
theorem KD {w w':World} {μ μ':Mu} (h:ID w μ w' μ') (x:AV) (v:Value):CR w μ x v→CR w' μ' x v:=Du h.rd x v
mutual
theorem IQ {w w':World} {μ μ':Mu} (h:ID w μ w' μ'): ∀(x:AV) (v:Value),VR w μ x v→VR w' μ' x v
 | .und,_,_=>by simp only [VR]
 | .b x,v,k=>by simp only [VR] at k ⊢;exact KD h _ _ k
 | .i x y,v,k=>by simp only [VR] at k ⊢;exact KD h _ _ k
 | .s x,v,k=>by simp only [VR] at k ⊢;exact KD h _ _ k
 | .sl n nl xs,v,k=>by simp only [VR] at k ⊢;exact KD h _ _ k
 | .pt cs,v,k=>by simp only [VR] at k ⊢;exact KD h _ _ k
 | .own id off len,v,k=>by
   simp only [VR] at k ⊢
   cases hm:μ id with
   |none=>simp only [hm] at k
   |some s=>rcases h.mu id s hm with e|e<;>cases s<;>simp_all
 | .loc id j o,v,k=>by
   simp only [VR] at k ⊢
   cases hm:μ id with
   |none=>simp only [hm] at k
   |some s=>rcases h.mu id s hm with e|e<;>cases s<;>simp_all
 | .st fs,v,k=>by
   simp only [VR] at k ⊢
   obtain ⟨cs,e,k⟩:=k
   exact ⟨cs,e,Lb h fs _ k⟩
 | .tup fs,v,k=>by
   simp only [VR] at k ⊢
   obtain ⟨cs,e,k⟩:=k
   exact ⟨cs,e,Lb h fs _ k⟩
 | .fn f fs,v,k=>by
   simp only [VR] at k ⊢
   obtain ⟨cs,e,k⟩:=k
   exact ⟨cs,e,Lb h fs _ k⟩
 | .nilp,_,k=>by simpa only [VR] using k
 | .nilf,_,k=>by simpa only [VR] using k
 | .raw _,_,k=>by simpa only [VR] using k
theorem Lb {w w':World} {μ μ':Mu} (h:ID w μ w' μ'): ∀(xs:List AV) (vs:List Value),D2 w μ xs vs→D2 w' μ' xs vs
 | [],vs,k=>by simpa only [D2] using k
 |x::xs,vs,k=>by
  simp only [D2] at k ⊢
  obtain ⟨v,r,e,k1,k2⟩:=k
  exact ⟨v,r,e,IQ h x v k1,Lb h xs r k2⟩
end
mutual
theorem Eb {w:World} {μ:Mu}: ∀(x:AV) (v:Value),CR w μ x v→VR w μ x v
 | .und,_,_=>by simp only [VR]
 | .b x,v,k=>by simpa only [VR] using k
 | .i x y,v,k=>by simpa only [VR] using k
 | .s x,v,k=>by simpa only [VR] using k
 | .sl n nl xs,v,k=>by simpa only [VR] using k
 | .pt cs,v,k=>by simpa only [VR] using k
 | .own id off len,v,k=>by simp only [CR] at k
 | .loc id j o,v,k=>by simp only [CR] at k
 | .st fs,v,k=>by
   simp only [VR,CR] at k ⊢
   obtain ⟨cs,e,k⟩:=k
   exact ⟨cs,e,CV fs _ k⟩
 | .tup fs,v,k=>by
   simp only [VR,CR] at k ⊢
   obtain ⟨cs,e,k⟩:=k
   exact ⟨cs,e,CV fs _ k⟩
 | .fn f fs,v,k=>by
   simp only [VR,CR] at k ⊢
   obtain ⟨cs,e,k⟩:=k
   exact ⟨cs,e,CV fs _ k⟩
 | .nilp,_,k=>by simpa only [VR,CR] using k
 | .nilf,_,k=>by simpa only [VR,CR] using k
 | .raw _,_,k=>by simpa only [VR,CR] using k
theorem CV {w:World} {μ:Mu}: ∀(xs:List AV) (vs:List Value),FL w μ xs vs→D2 w μ xs vs
 | [],vs,k=>by simpa only [FL,D2] using k
 |x::xs,vs,k=>by
  simp only [FL,D2] at k ⊢
  obtain ⟨v,r,e,k1,k2⟩:=k
  exact ⟨v,r,e,Eb x v k1,CV xs r k2⟩
end
theorem Js {w:World} {a:Addr} {u:Value} (h:w.cell? a=some u):a.block<w.heap.size:=by
 unfold World.cell? at h
 cases hb:w.heap[a.block]? with
 |none=>simp [hb] at h
 |some o=>exact (Array.getElem?_eq_some_iff.1 hb).1
theorem Fe {w w':World} {a:Addr} (h:w'.heap[a.block]? =w.heap[a.block]?):w'.cell? a=w.cell? a:=by
 unfold World.cell?;rw [h]
theorem ID.of {w w':World} {μ μ':Mu} (hb: ∀g,g<w.heap.size→ ¬μ.mut g→w'.heap[g]? =w.heap[g]?)
  (hm: ∀id s,μ id=some s→μ' id=some s∨μ' id=some none) (hn: ∀g,μ'.mut g→μ.mut g∨w.heap.size≤g):ID w μ w' μ' where
 rd:=fun a u ⟨h1,h2,h3⟩=>by
  have hl:=Js h1
  refine ⟨by rw [Fe (hb _ hl h2)];exact h1,fun h=> ?_,h3⟩
  rcases hn _ h with h|h
  ·exact h2 h
  ·omega
 mu:=hm
 bl:=hb
 mt:=hn
theorem ID.refl (w:World) (μ:Mu):ID w μ w μ:=⟨fun _ _ h=>h,fun _ _ h=>Or.inl h,fun _ _ _=>rfl,fun _ h=>Or.inl h⟩
theorem ID.trans {w w' w'':World} {μ μ' μ'':Mu} (h:ID w μ w' μ') (k:ID w' μ' w'' μ''):ID w μ w'' μ'' where
 rd:=fun a u hr=>k.rd a u (h.rd a u hr)
 mu:=fun id s hs=>by
  rcases h.mu id s hs with e|e
  ·exact k.mu id s e
  ·rcases k.mu id none e with e'|e'
   ·exact Or.inr e'
   ·exact Or.inr e'
 bl:=fun g hg hm=>by
  have e:=h.bl g hg hm
  have hg':g<w'.heap.size:=by
   rcases Nat.lt_or_ge g w'.heap.size with q|q
   ·exact q
   ·rw [Array.getElem?_eq_none q,Array.getElem?_eq_getElem hg] at e;cases e
  rw [k.bl g hg' (fun q=>by rcases h.mt g q with q|q<;>first|exact hm q|omega),e]
 mt:=fun g q=>by
  rcases k.mt g q with q|q
  ·exact h.mt g q
  ·by_cases hm:μ.mut g
   ·exact Or.inl hm
   ·refine Or.inr ?_
    rcases Nat.lt_or_ge g w.heap.size with hg|hg
    ·have e:=h.bl g hg hm
     rw [Array.getElem?_eq_none q,Array.getElem?_eq_getElem hg] at e;cases e
    ·exact hg
end Go.Lift
namespace Go.Lift
open Go Go.RowKit
structure Obj where
 e:TypeId
 k:Nat
 els:List AV
structure A7 where
 next:Nat
 objs:List (Nat×Option Obj)
noncomputable def AJ {α:Type} (l:List (Nat×α)) (i:Nat):Option α:=
 List.rec (motive:=fun _=>Option α) none (fun p _ ih=>Bool.rec (motive:=fun _=>Option α) ih (some p.2) (Nat.beq i p.1)) l
theorem Lk {α:Type} (i:Nat):AJ ([]:List (Nat×α)) i=none:=rfl
noncomputable def A7.get (h:A7) (id:Nat):Option Obj:=if id<h.next then (AJ h.objs id).join else none
noncomputable def Vv (l:List (Nat×Option Obj)) (i:Nat) (o:Option Obj):List (Nat×Option Obj):=
 List.rec (motive:=fun _=>List (Nat×Option Obj)) [(i,o)] (fun p r ih=>Bool.rec (motive:=fun _=>List (Nat×Option Obj)) (p::ih) ((i,o)::r) (Nat.beq i p.1)) l
theorem Tc (i:Nat) (o:Option Obj):Vv [] i o=[(i,o)]:=rfl
theorem QO (j:Nat) (x:Option Obj) (r:List (Nat×Option Obj)) (i:Nat) (o:Option Obj):Vv ((j,x)::r) i o=if i=j then (i,o)::r else (j,x)::Vv r i o:=by
 show Bool.rec (motive:=fun _=>List (Nat×Option Obj)) ((j,x)::Vv r i o) ((i,o)::r) (Nat.beq i j)=_
 cases e:Nat.beq i j with
 |true=>rw [if_pos (Nat.eq_of_beq_eq_true e)]
 |false=>rw [if_neg (Nat.ne_of_beq_eq_false e)]
noncomputable def A7.put (h:A7) (id:Nat) (o:Option Obj):A7:=⟨h.next,Vv h.objs id o⟩
def A7.new (h:A7) (o:Obj):A7:=⟨h.next+1,(h.next,some o)::h.objs⟩
theorem Cg {α:Type} (j:Nat) (x:α) (r:List (Nat×α)) (i:Nat):AJ ((j,x)::r) i=if i=j then some x else AJ r i:=by
 show Bool.rec (motive:=fun _=>Option α) (AJ r i) (some x) (Nat.beq i j)=_
 cases e:Nat.beq i j with
 |true=>rw [if_pos (Nat.eq_of_beq_eq_true e)]
 |false=>rw [if_neg (Nat.ne_of_beq_eq_false e)]
theorem H5 {h:A7} {id:Nat} {o:Obj} (k:h.get id=some o):id<h.next:=by
 unfold A7.get at k
 split at k
 ·assumption
 ·cases k
theorem QH (i:Nat) (o:Option Obj) (j:Nat): ∀l:List (Nat×Option Obj),AJ (Vv l i o) j=if j=i then some o else AJ l j
 | []=>by rw [Tc,Cg,Lk]
 |(q,x)::r=>by
  rw [QO]
  by_cases h:i=q
  ·subst h
   rw [if_pos rfl,Cg,Cg]
   by_cases e:j=i
   ·rw [if_pos e,if_pos e]
   ·rw [if_neg e,if_neg e,if_neg e]
  ·rw [if_neg h,Cg,Cg,QH i o j r]
   by_cases e:j=i
   ·subst e;rw [if_neg h,if_pos rfl,if_pos rfl]
   ·rw [if_neg e,if_neg e]
theorem A7.get_put (h:A7) (id j:Nat) (o:Option Obj) (hid:id<h.next∨o=none):(h.put id o).get j=if j=id then o else h.get j:=by
 unfold A7.get A7.put;simp only [QH]
 by_cases hj:j=id
 ·subst hj
  rw [if_pos rfl,if_pos rfl]
  rcases hid with q|q
  ·rw [if_pos q];simp
  ·subst q;simp
 ·rw [if_neg hj,if_neg hj]
theorem Gt (h:A7) (o:Obj) (j:Nat):(h.new o).get j=if j=h.next then some o else h.get j:=by
 unfold A7.get A7.new;simp only [Cg]
 by_cases hj:j=h.next
 ·subst hj;simp
 ·rw [if_neg hj,if_neg hj]
  by_cases hl:j<h.next
  ·rw [if_pos hl,if_pos (by omega)]
  ·rw [if_neg hl,if_neg (by omega)]
abbrev C7:=List (Nat×AV)
noncomputable def C7.get (env:C7) (t:Nat):AV:=(AJ env t).getD .und
structure KW (w:World) (μ:Mu) (o:Obj) (s:MF):Prop where
 k:s.k=o.k
 pos:0<o.k
 len:o.els.length≤s.cap
 cap:s.cap≤maxLen
 blk: ∃cs,w.heap[s.g]? =some (.cells cs o.e (0,0))∧cs.size=s.cap*o.k∧
  ∀j x,o.els[j]? =some x→x.cells.length=o.k∧ ∀i y,x.cells[i]? =some y→ ∃u,cs[j*o.k+i]? =some u∧VR w μ y u∧u.oneCell'=true
structure FM (w0:World) (μ:Mu) (w:World) (h:A7):Prop where
 below:Below w0.heap.size w0 w
 lt: ∀id s,μ id=some (some s)→w0.heap.size≤s.g∧s.g<w.heap.size
 inj: ∀id id' s s',μ id=some (some s)→μ id'=some (some s')→s.g=s'.g→id=id'
 live: ∀id o,h.get id=some o→μ id≠some none
 ylt: ∀g,μ.Y g→g<w0.heap.size
 blk: ∀id o s,h.get id=some o→μ id=some (some s)→KW w μ o s
structure Ga (W w:World):Prop where
 size:W.heap.size≤w.heap.size
 block: ∀k,k<W.heap.size→w.heap[k]? =W.heap[k]?
theorem Ga.mono {W w0 w:World} (g:Ga W w0) (b:Below w0.heap.size w0 w):Ga W w:=
 ⟨Nat.le_trans g.size b.size,fun k hk=>by rw [b.block k (by have:=g.size;omega)];exact g.block k hk⟩
theorem Ga.refl (W:World):Ga W W:=⟨Nat.le_refl _,fun _ _=>rfl⟩
structure HD where
 W:World
 w:World
 μ:Mu
 N:Nat
structure OH (B:HD) (μ:Mu) (w:World):Prop where
 ext:ID B.w B.μ w μ
 y:μ.Y=B.μ.Y
 dom: ∀id,id<B.N→B.μ id=none→μ id=none
 top: ∀id,B.N≤id→B.μ id=none
structure ER (n:Nat) (B:HD) (w0:World) (μ:Mu) (env:C7) (h:A7) (a:Act) (w:World):Prop where
 glob:Ga B.W w0
 snc:OH B μ w
 low:B.N≤h.next
 sim:FM w0 μ w h
 env: ∀t,VR w μ (env.get t) (a.tmps.getD t undef)
 sz:a.tmps.size=n
 dfr:a.defers=[]
 fresh: ∀id,h.next≤id→μ id=none
structure Hw (w0:World) (μ:Mu) (w:World) (h:A7) (μ':Mu) (w':World) (h':A7):Prop where
 sim:FM w0 μ' w' h'
 old: ∀g,g<w.heap.size→w'.heap[g]? =w.heap[g]?
 keep: ∀id s,μ id=some s→μ' id=some s
 dom: ∀id s,μ' id=some s→μ id=some s∨(h.next≤id∧id<h'.next∧ ∃t,s=some t∧w.heap.size≤t.g)
 next:h.next≤h'.next
 y:μ'.Y=μ.Y
theorem Hw.mut {w0 μ w h μ' w' h'} (k:Hw w0 μ w h μ' w' h'): ∀g,μ'.mut g→μ.mut g∨w.heap.size≤g:=by
 rintro g (hy|⟨id,s,hs,rfl⟩)
 ·rw [k.y] at hy;exact Or.inl (Or.inl hy)
 rcases k.dom id _ hs with e|⟨_,_,t,e,ht⟩
 ·exact Or.inl (Or.inr ⟨id,s,e,rfl⟩)
 ·cases e;exact Or.inr ht
theorem Hw.ext {w0 μ w h μ' w' h'} (k:Hw w0 μ w h μ' w' h'):ID w μ w' μ':=
 ID.of (fun g hg _=>k.old g hg) (fun id s hs=>Or.inl (k.keep id s hs)) k.mut
theorem Hw.refl {w0 μ w h} (s:FM w0 μ w h):Hw w0 μ w h μ w h:=
 ⟨s,fun _ _=>rfl,fun _ _ h=>h,fun _ _ h=>Or.inl h,Nat.le_refl _,rfl⟩
theorem KW.mono {w w':World} {μ μ':Mu} {o:Obj} {s:MF} (h:KW w μ o s) (e:ID w μ w' μ') (hb:w'.heap[s.g]? =w.heap[s.g]?):KW w' μ' o s where
 k:=h.k
 pos:=h.pos
 len:=h.len
 cap:=h.cap
 blk:=by
  obtain ⟨cs,h1,h2,h3⟩:=h.blk
  refine ⟨cs,by rw [hb];exact h1,h2,fun j x hx=> ?_⟩
  obtain ⟨q1,q2⟩:=h3 j x hx
  refine ⟨q1,fun i y hy=> ?_⟩
  obtain ⟨u,u1,u2,u3⟩:=q2 i y hy
  exact ⟨u,u1,IQ e y u u2,u3⟩
theorem O5 {w0 w w':World} {μ:Mu} {h:A7} (s:FM w0 μ w h) (hh:w'.heap=w.heap) (h1:w'.os=w.os) (h2:w'.tape=w.tape) (h3:w'.output=w.output):FM w0 μ w' h:=by
 have e:ID w μ w' μ:=ID.of (fun g _ _=>by rw [hh]) (fun id s hs=>Or.inl hs) (fun g hg=>Or.inl hg)
 refine ⟨⟨h1.trans s.below.os,h2.trans s.below.tape,h3.trans s.below.output,by rw [hh];exact s.below.size,fun k hk=>by rw [hh];exact s.below.block k hk⟩,fun id t ht=>by rw [hh];exact s.lt id t ht,s.inj,s.live,s.ylt,fun id o t ho ht=>(s.blk id o t ho ht).mono e (by rw [hh])⟩
theorem Gw (w:World) (o:Go.Obj) (g:Nat) (h:g<w.heap.size):(w.alloc o).heap[g]? =w.heap[g]? :=Below.heap_alloc w o g h
theorem K2 (w:World) (o:Go.Obj):(w.alloc o).heap[w.heap.size]? =some o:=by
 show (w.heap.push o)[w.heap.size]? =_
 simp
def Mu.new (μ:Mu) (id:Nat) (s:MF):Mu:=⟨fun i=>if i=id then some (some s) else μ i,μ.Y⟩
theorem Wq {w0 w:World} {μ:Mu} {h:A7} (s:FM w0 μ w h) (hf:μ h.next=none) (o:Obj) (cs:Array Value) (cap:Nat)
  (hk:0<o.k) (hl:o.els.length≤cap) (hc:cap≤maxLen) (hs:cs.size=cap*o.k)
  (hv: ∀j x,o.els[j]? =some x→x.cells.length=o.k∧ ∀i y,x.cells[i]? =some y→ ∃u,cs[j*o.k+i]? =some u∧VR w μ y u∧u.oneCell'=true):
  Hw w0 μ w h (μ.new h.next ⟨w.heap.size,cap,o.k⟩) (w.alloc (.cells cs o.e)) (h.new o):=by
 have e:ID w μ (w.alloc (.cells cs o.e)) (μ.new h.next ⟨w.heap.size,cap,o.k⟩):=by
  refine ID.of (fun g hg _=>Gw _ _ _ hg) (fun id t ht=>Or.inl ?_) ?_
  ·dsimp only [Mu.new];split
   ·rename_i hi;subst hi;rw [hf] at ht;cases ht
   ·exact ht
  ·rintro g (hy|⟨id,t,ht,rfl⟩)
   ·exact Or.inl (Or.inl hy)
   dsimp only [Mu.new] at ht;split at ht
   ·cases ht;exact Or.inr (Nat.le_refl _)
   ·exact Or.inl (Or.inr ⟨id,t,ht,rfl⟩)
 refine ⟨⟨below_alloc' s.below,?_,?_,?_,s.ylt,?_⟩,fun g hg=>Gw _ _ _ hg,?_,?_,Nat.le_succ _,rfl⟩
 ·intro id t ht
  dsimp only [Mu.new] at ht;split at ht
  ·cases ht;simp [s.below.size]
  ·have:=s.lt id t ht;simp;omega
 ·intro id id' t t' ht ht' hg
  dsimp only [Mu.new] at ht ht'
  split at ht<;>split at ht'
  ·simp_all
  ·cases ht;have:=s.lt id' t' ht';simp only at hg;omega
  ·cases ht';have:=s.lt id t ht;simp only at hg;omega
  ·exact s.inj id id' t t' ht ht' hg
 ·intro id p hp
  rw [Gt] at hp
  dsimp only [Mu.new]
  split
  ·simp
  ·rename_i hi;rw [if_neg hi] at hp;exact s.live id p hp
 ·intro id p t hp ht
  rw [Gt] at hp
  dsimp only [Mu.new] at ht
  split at ht
  ·rename_i hi
   rw [if_pos hi] at hp;cases hp;cases ht
   refine ⟨rfl,hk,hl,hc,cs,K2 _ _,hs,fun j x hx=> ?_⟩
   obtain ⟨q1,q2⟩:=hv j x hx
   exact ⟨q1,fun i y hy=>let ⟨u,u1,u2,u3⟩:=q2 i y hy;⟨u,u1,IQ e y u u2,u3⟩⟩
  ·rename_i hi
   rw [if_neg hi] at hp
   exact (s.blk id p t hp ht).mono e (Gw _ _ _ (s.lt id t ht).2)
 ·intro id t ht
  dsimp only [Mu.new];split
  ·rename_i hi;subst hi;rw [hf] at ht;cases ht
  ·exact ht
 ·intro id t ht
  dsimp only [Mu.new] at ht;split at ht
  ·rename_i hi;subst hi;cases ht
   exact Or.inr ⟨Nat.le_refl _,Nat.lt_succ_self _,_,rfl,Nat.le_refl _⟩
  ·exact Or.inl ht
where below_alloc' {w0 w:World} {o:Go.Obj} (h:Below w0.heap.size w0 w):Below w0.heap.size w0 (w.alloc o):=h.alloc h.size o
end Go.Lift
namespace Go.Lift
open Go Go.RowKit
inductive TD where
 |bool|int (k:IntKind)|str|slice (e:TypeId)|struct (fs:List (Nat×TypeId))|arr (n:Nat) (e:TypeId)|other
 deriving DecidableEq
structure TI where
 size:Nat
 bytes:Nat
 zero:AV
 desc:TD
abbrev Ep:=List (Nat×TI)
def TD.agg:TD→Bool
 | .struct _| .arr _ _=>true
 |_=>false
mutual
def zOk:AV→Value→Bool
 | .b x,.bool y=>x==y
 | .i k n,.int k' m=>k==k'&&n==m
 | .s x,.string y=>x.size==0&&y.size==0
 | .sl _ true [],.slice none 0 0=>true
 | .nilp,.pointer none=>true
 | .nilf,.nilFunc=>true
 | .st fs,.agg cs=>zOks fs cs.toList
 |_,_=>false
def zOks:List AV→List Value→Bool
 | [],[]=>true
 |x::xs,v::vs=>zOk x v&&zOks xs vs
 |_,_=>false
end
mutual
theorem Uc {w:World} {μ:Mu}: ∀(x:AV) (v:Value),zOk x v=true→CR w μ x v
 | .b x,.bool y,h=>by simp [zOk] at h;simp [CR,h]
 | .i k n,.int k' m,h=>by simp [zOk] at h;simp [CR,h.1,h.2]
 | .s x,.string y,h=>by
   simp [zOk] at h
   simp only [CR,h.1,h.2,true_and];exact Nat.zero_le _
 | .sl k true [],.slice none 0 0,h=>by simp [CR]
 | .nilp,.pointer none,h=>by simp [CR]
 | .nilf,.nilFunc,h=>by simp [CR]
 | .st fs,.agg cs,h=>by
   simp only [zOk] at h
   simp only [CR]
   exact ⟨cs,rfl,Si fs _ h⟩
theorem Si {w:World} {μ:Mu}: ∀(xs:List AV) (vs:List Value),zOks xs vs=true→FL w μ xs vs
 | [],[],_=>by simp [FL]
 |x::xs,v::vs,h=>by
  simp only [zOks,Bool.and_eq_true] at h
  simp only [FL]
  exact ⟨v,vs,rfl,Uc x v h.1,Si xs vs h.2⟩
end
def Gm:Option TypeDesc→TD→Bool
 |some .bool,.bool=>true
 |some (.int k),.int k'=>k==k'
 |some .string,.str=>true
 |some (.slice e),.slice e'=>e==e'
 |some (.struct fs),.struct gs=>fs.toList.map (fun f=>(f.offset,f.type))==gs
 |some (.array n e),.arr n' e'=>n==n'&&e==e'
 |some (.pointer _),.other=>true
 |some (.func _ _ _),.other=>true
 |some (.interface _),.other=>true
 |some (.map _ _),.other=>true
 |_,_=>false
def Kr:List Value→Bool
 | []=>true
 |v::r=>v.oneCell'&&Kr r
def tyOk (P:Program) (t:TypeId) (i:TI):Bool:=
 (match P.info? t with
  |some f=>f.size==i.size&&f.bytes==i.bytes&&(match f.zero with
   |some z=>zOk i.zero z&&z.cells.size==i.size&&Kr z.cells.toList
   |none=>false)
  |none=>false)&&Gm (P.underlying t) i.desc
def Dh (P:Program) (T:Ep):Bool:=T.all fun p=>tyOk P p.1 p.2
theorem Wx {α:Type} {l:List (Nat×α)} {i:Nat} {x:α} (h:AJ l i=some x):(i,x)∈l:=by
 induction l with
 |nil=>simp [Lk] at h
 |cons p l ih=>
  obtain ⟨j,y⟩:=p
  rw [Cg] at h
  split at h
  ·rename_i e;subst e;cases h;simp
  ·exact List.mem_cons_of_mem _ (ih h)
section
variable {P:Program} {T:Ep} (hT:Dh P T=true) {t:TypeId} {i:TI} (ht:AJ T t=some i)
include hT ht
theorem X3:tyOk P t i=true:=by
 have:=List.all_eq_true.1 hT _ (Wx ht)
 exact this
theorem Hr: ∃f z,P.info? t=some f∧f.size=i.size∧f.bytes=i.bytes∧f.zero=some z∧zOk i.zero z=true∧z.cells.size=i.size∧Kr z.cells.toList=true:=by
 have h:=X3 hT ht
 simp only [tyOk,Bool.and_eq_true] at h
 obtain ⟨h,_⟩:=h
 split at h
 ·rename_i f hf
  simp only [Bool.and_eq_true,beq_iff_eq] at h
  obtain ⟨⟨h1,h2⟩,h3⟩:=h
  split at h3
  ·rename_i z hz
   simp only [Bool.and_eq_true,beq_iff_eq] at h3
   exact ⟨f,z,hf,h1,h2,hz,h3.1.1,h3.1.2,h3.2⟩
  ·simp at h3
 ·simp at h
theorem Jk:Gm (P.underlying t) i.desc=true:=by
 have h:=X3 hT ht
 simp only [tyOk,Bool.and_eq_true] at h
 exact h.2
theorem LY {e:TypeId} (hd:i.desc= .slice e):P.underlying t=some (.slice e):=by
 have h:=Jk hT ht
 rw [hd] at h
 cases hu:P.underlying t with
 |none=>rw [hu] at h;simp [Gm] at h
 |some d=>rw [hu] at h;cases d<;>simp [Gm] at h;subst h;rfl
theorem S2 {k:IntKind} (hd:i.desc= .int k):P.underlying t=some (.int k):=by
 have h:=Jk hT ht
 rw [hd] at h
 cases hu:P.underlying t with
 |none=>rw [hu] at h;simp [Gm] at h
 |some d=>rw [hu] at h;cases d<;>simp [Gm] at h;subst h;rfl
theorem PK (hd:i.desc= .bool):P.underlying t=some .bool:=by
 have h:=Jk hT ht
 rw [hd] at h
 cases hu:P.underlying t with
 |none=>rw [hu] at h;simp [Gm] at h
 |some d=>rw [hu] at h;cases d<;>simp [Gm] at h;rfl
theorem S3 (hd:i.desc= .str):P.underlying t=some .string:=by
 have h:=Jk hT ht
 rw [hd] at h
 cases hu:P.underlying t with
 |none=>rw [hu] at h;simp [Gm] at h
 |some d=>rw [hu] at h;cases d<;>simp [Gm] at h;rfl
theorem Jl {gs:List (Nat×TypeId)} (hd:i.desc= .struct gs): ∃fs,P.underlying t=some (.struct fs)∧fs.toList.map (fun f=>(f.offset,f.type))=gs:=by
 have h:=Jk hT ht
 rw [hd] at h
 cases hu:P.underlying t with
 |none=>rw [hu] at h;simp [Gm] at h
 |some d=>rw [hu] at h;cases d<;>simp [Gm] at h;exact ⟨_,rfl,h⟩
theorem tab_arr {n:Nat} {e:TypeId} (hd:i.desc= .arr n e):P.underlying t=some (.array n e):=by
 have h:=Jk hT ht
 rw [hd] at h
 cases hu:P.underlying t with
 |none=>rw [hu] at h;simp [Gm] at h
 |some d=>rw [hu] at h;cases d<;>simp [Gm] at h;obtain ⟨rfl,rfl⟩:=h;rfl
theorem GZ (w:World):(sizeOf t).run P w= .ok i.size w:=by
 obtain ⟨f,z,h1,h2,_⟩:=Hr hT ht
 simp [sizeOf,typeInfo,h1,h2]
theorem Ji (w:World):(isAgg t).run P w= .ok i.desc.agg w:=by
 cases hd:i.desc with
 |bool=>simp [isAgg,run_underlying (PK hT ht hd),TD.agg]
 |int k=>simp [isAgg,run_underlying (S2 hT ht hd),TD.agg]
 |str=>simp [isAgg,run_underlying (S3 hT ht hd),TD.agg]
 |slice e=>simp [isAgg,run_underlying (LY hT ht hd),TD.agg]
 |struct gs=>
  obtain ⟨fs,h,_⟩:=Jl hT ht hd
  simp [isAgg,run_underlying h,TD.agg]
 |arr n e=>simp [isAgg,run_underlying (tab_arr hT ht hd),TD.agg]
 |other=>
  have h:=Jk hT ht
  rw [hd] at h
  cases hu:P.underlying t with
  |none=>rw [hu] at h;simp [Gm] at h
  |some d=>rw [hu] at h;cases d<;>simp [Gm] at h<;>simp [isAgg,run_underlying hu,TD.agg]
theorem QW (w:World) (μ:Mu): ∃z,(zeroValue t).run P w= .ok z w∧CR w μ i.zero z∧z.cells.size=i.size∧Kr z.cells.toList=true:=by
 obtain ⟨f,z,h1,_,_,h4,h5,h6,h7⟩:=Hr hT ht
 exact ⟨z,by simp [zeroValue,typeInfo,h1,h4],Uc _ _ h5,h6,h7⟩
end
end Go.Lift
namespace Go.Lift
noncomputable section
open Go Go.RowKit
def Ao (op:BinOp) (k:IntKind) (a b:Int):Int:=
 match op with
 | .and=>k.wrap (BitVec.ofInt k.bits a&&&BitVec.ofInt k.bits b).toNat
 | .or=>k.wrap (BitVec.ofInt k.bits a|||BitVec.ofInt k.bits b).toNat
 | .xor=>k.wrap (BitVec.ofInt k.bits a^^^BitVec.ofInt k.bits b).toNat
 |_=>k.wrap (BitVec.ofInt k.bits a&&& ~~~ BitVec.ofInt k.bits b).toNat
def RT (op:BinOp) (k k':IntKind) (a b:Int):Option AV:=
 match op with
 | .shl=>if b<0 then none else some (.i k (k.wrap (a*2^(min b.toNat k.bits))))
 | .shr=>if b<0 then none else some (.i k (a.fdiv (2^(min b.toNat k.bits))))
 | .add=>if k=k' then some (.i k (k.wrap (a+b))) else none
 | .sub=>if k=k' then some (.i k (k.wrap (a-b))) else none
 | .mul=>if k=k' then some (.i k (k.wrap (a*b))) else none
 | .quo=>if k=k' then (if b=0 then none else some (.i k (k.wrap (a.tdiv b)))) else none
 | .rem=>if k=k' then (if b=0 then none else some (.i k (a.tmod b))) else none
 | .and=>if k=k' then some (.i k (Ao .and k a b)) else none
 | .or=>if k=k' then some (.i k (Ao .or k a b)) else none
 | .xor=>if k=k' then some (.i k (Ao .xor k a b)) else none
 | .andNot=>if k=k' then some (.i k (Ao .andNot k a b)) else none
 | .eql=>if k=k' then some (.b (decide (a=b))) else none
 | .neq=>if k=k' then some (.b (!decide (a=b))) else none
 | .lss=>if k=k' then some (.b (decide (a<b))) else none
 | .leq=>if k=k' then some (.b (decide (a≤b))) else none
 | .gtr=>if k=k' then some (.b (decide (b<a))) else none
 | .geq=>if k=k' then some (.b (decide (b≤a))) else none
def WQ (op:BinOp) (a b:ByteArray):Option AV:=
 match op with
 | .add=>if a.size+b.size≤Gb then some (.s (a++b)) else none
 | .eql=>some (.b (decide (a=b)))
 | .neq=>some (.b (!decide (a=b)))
 | .lss=>some (.b (Op.bytesLess a.toList b.toList))
 | .leq=>some (.b (Op.bytesLess a.toList b.toList||decide (a=b)))
 | .gtr=>some (.b (!(Op.bytesLess a.toList b.toList||decide (a=b))))
 | .geq=>some (.b (!Op.bytesLess a.toList b.toList))
 |_=>none
def Ci (T:Ep) (t:TypeId):TD:=match AJ T t with|some i=>i.desc|none=> .other
def Qg (T:Ep) (op:BinOp) (xt:TypeId) (x y:AV):Option AV:=
 match x,y with
 | .i k a,.i k' b=>RT op k k' a b
 | .s a,.s b=>WQ op a b
 | .b a,.b b=>match Ci T xt,op with
   | .bool,.eql=>some (.b (a==b))
   | .bool,.neq=>some (.b (!(a==b)))
   |_,_=>none
 | .sl _ nl xs,.sl _ true []=>if nl=false∧xs=[] then none else match Ci T xt,op with
   | .slice _,.eql=>some (.b nl)
   | .slice _,.neq=>some (.b (!nl))
   |_,_=>none
 |_,_=>none
theorem PM (a b:ByteArray):(a.toList==b.toList)=decide (a=b):=by
 rw [Bool.eq_iff_iff]
 simp only [beq_iff_eq,decide_eq_true_eq]
 constructor
 ·intro h
  have:=congrArg (fun l:List UInt8=>(⟨l.toArray⟩:ByteArray)) h
  have h2:a.data=b.data:=by simpa [ByteArray.toList_eq] using this
  cases a;cases b;simp_all
 ·rintro rfl;rfl
section
variable {P:Program} {w:World} {μ:Mu}
theorem pint_ok {op:BinOp} {k k':IntKind} {a b:Int} {r:AV} (h:RT op k k' a b=some r) (xt:TypeId) (ox oy:Operand):
  ∃z,(do eqGuard op xt ox oy (.int k a) (.int k' b);binOp op xt (.int k a) (.int k' b):Sem Value).run P w= .ok z w∧VR w μ r z:=by
 have hg: ∀op,(eqGuard op xt ox oy (.int k a) (.int k' b)).run P w= .ok () w:=by
  intro op;cases op<;>simp [eqGuard]
 simp only [Sem.run_bind,hg,Result.andThen_ok]
 cases op<;>simp only [RT] at h
 case shl=>
  split at h
  ·cases h
  ·cases h;rename_i hb;exact ⟨.int k (k.wrap (a*2^(min b.toNat k.bits))),by simp [binOp,Op.shift,hb],by simp [VR,CR]⟩
 case shr=>
  split at h
  ·cases h
  ·cases h;rename_i hb;exact ⟨_,by simp only [binOp,Op.shift,hb,if_false];rfl,by simp [VR,CR]⟩
 all_goals
  split at h
  case isFalse=>cases h
  rename_i hk
  subst hk
 case quo=>
  split at h
  ·cases h
  ·cases h;rename_i hb;exact ⟨_,by simp only [binOp,ne_eq,not_true,if_false,Op.intDiv,hb];rfl,by simp [VR,CR]⟩
 case rem=>
  split at h
  ·cases h
  ·cases h;rename_i hb;exact ⟨_,by simp only [binOp,ne_eq,not_true,if_false,Op.intDiv,hb];rfl,by simp [VR,CR]⟩
 all_goals
  cases h
  refine ⟨_,by simp only [binOp,ne_eq,not_true,if_false,Op.intArith,Op.intBits,Op.intCmp];rfl,?_⟩
  first|(simp [VR,CR,Ao,bne];done)|(simp [VR,CR,Ao,bne];rfl)
theorem pstr_ok {op:BinOp} {a b:ByteArray} {r:AV} (h:WQ op a b=some r) (xt:TypeId) (ox oy:Operand):
  ∃z,(do eqGuard op xt ox oy (.string a) (.string b);binOp op xt (.string a) (.string b):Sem Value).run P w= .ok z w∧VR w μ r z:=by
 have hg: ∀op,(eqGuard op xt ox oy (.string a) (.string b)).run P w= .ok () w:=by
  intro op;cases op<;>simp [eqGuard]
 simp only [Sem.run_bind,hg,Result.andThen_ok]
 cases op<;>simp only [WQ] at h
 case add=>
  split at h
  ·rename_i hs
   cases h
   have h1: ¬(((a.size+b.size:Nat):Int)>IntKind.i64.max):=by
    have:IntKind.i64.max=9223372036854775807:=by decide
    rw [this];unfold Gb at hs;omega
   refine ⟨.string (a++b),by simp only [binOp,Op.stringOp,h1,if_false];rfl,?_⟩
   simp only [VR,CR,true_and,ByteArray.size_append];exact hs
  ·cases h
 all_goals first
  |cases h;done
  |(cases h
    refine ⟨_,by simp only [binOp,Op.stringOp];rfl,?_⟩
    simp [VR,CR,PM])
theorem pbin_ok {T:Ep} (hT:Dh P T=true) {op:BinOp} {xt:TypeId} {x y r:AV} (h:Qg T op xt x y=some r) (ox oy:Operand) {u v:Value}
  (hu:VR w μ x u) (hv:VR w μ y v): ∃z,(do eqGuard op xt ox oy u v;binOp op xt u v:Sem Value).run P w= .ok z w∧VR w μ r z:=by
 unfold Qg at h
 split at h
 ·simp only [VR,CR] at hu hv;subst hu;subst hv;exact pint_ok h xt ox oy
 ·simp only [VR,CR] at hu hv;rw [hu.1,hv.1];exact pstr_ok h xt ox oy
 ·rename_i a b
  simp only [VR,CR] at hu hv;subst hu;subst hv
  have hd:Ci T xt= .bool→P.underlying xt=some .bool:=by
   intro hd;unfold Ci at hd;split at hd
   ·rename_i i hi;exact PK hT hi hd
   ·cases hd
  have he:P.underlying xt=some .bool→(Op.equal xt (.bool a) (.bool b)).run P w= .ok (a==b) w:=by
   intro he
   unfold Op.equal Op.maxDepth
   rw [Op.equalIn]
   simp only [Sem.run_bind,run_underlying he,Result.andThen_ok];rfl
  have hg: ∀op,(eqGuard op xt ox oy (.bool a) (.bool b)).run P w= .ok () w:=by
   intro op;cases op<;>simp [eqGuard]
  split at h
  ·rename_i e;cases h
   exact ⟨.bool (a==b),by simp only [Sem.run_bind,hg,Result.andThen_ok,binOp];rw [he (hd e)];rfl,by simp only [VR,CR]⟩
  ·rename_i e;cases h
   exact ⟨.bool (!(a==b)),by simp only [Sem.run_bind,hg,Result.andThen_ok,binOp];rw [he (hd e)];rfl,by simp only [VR,CR]⟩
  ·cases h
 ·rename_i k nl xs k'
  have hd: ∀e,Ci T xt= .slice e→P.underlying xt=some (.slice e):=by
   intro e hd;unfold Ci at hd;split at hd
   ·rename_i i hi;exact LY hT hi hd
   ·cases hd
  have hv':v= .slice none 0 0:=by
   simp only [VR,CR] at hv;rcases hv with ⟨_,e⟩|⟨e,_⟩
   ·exact e
   ·cases e
  subst hv'
  split at h
  ·cases h
  rename_i hnx
  have hu':(nl=true∧u= .slice none 0 0)∨(nl=false∧ ∃a n c,u= .slice (some a) n c):=by
   simp only [VR,CR] at hu;rcases hu with ⟨e1,e⟩|⟨e1,a,c,e,_⟩
   ·cases nl
    ·exact absurd ⟨rfl,e1⟩ hnx
    ·exact Or.inl ⟨rfl,e⟩
   ·exact Or.inr ⟨e1,a,_,c,e⟩
  have he: ∀e,P.underlying xt=some (.slice e)→(Op.equal xt u (.slice none 0 0)).run P w= .ok nl w:=by
   intro e he
   unfold Op.equal Op.maxDepth
   rw [Op.equalIn]
   rcases hu' with ⟨rfl,rfl⟩|⟨rfl,a,n,c,rfl⟩<;>simp only [Sem.run_bind,run_underlying he,Result.andThen_ok]<;>rfl
  have hs: ∃a n c,u= .slice a n c:=by
   rcases hu' with ⟨rfl,rfl⟩|⟨rfl,a,n,c,rfl⟩
   ·exact ⟨_,_,_,rfl⟩
   ·exact ⟨_,_,_,rfl⟩
  obtain ⟨a,n,c,rfl⟩:=hs
  have hg: ∀op,(eqGuard op xt ox oy (.slice a n c) (.slice none 0 0)).run P w= .ok () w:=by
   intro op;cases op<;>simp [eqGuard]
  split at h
  ·rename_i e e2;cases h
   refine ⟨.bool nl,?_,by simp only [VR,CR]⟩
   simp only [Sem.run_bind,hg,Result.andThen_ok,binOp]
   rw [he _ (hd _ e2)];rfl
  ·rename_i e e2;cases h
   refine ⟨.bool (!nl),?_,by simp only [VR,CR]⟩
   simp only [Sem.run_bind,hg,Result.andThen_ok,binOp]
   rw [he _ (hd _ e2)];rfl
  ·cases h
 ·cases h
end
end
end Go.Lift
namespace Go.Lift
noncomputable section
open Go Go.RowKit
abbrev E3:=Nat→Operand→Option AV
def Eg (T:Ep) (t:TypeId):Nat:=match AJ T t with|some i=>i.size|none=>0
def En (T:Ep) (t:TypeId):Option TypeId:=match AJ T t with|some ⟨_,_,_,.slice e⟩=>some e|_=>none
def Kb (T:Ep) (t:TypeId):Nat:=match En T t with|some e=>Eg T e|none=>0
def Lr (h:A7):AV→Option (List AV)
 | .pt cs=>some cs
 | .loc id j o=>match h.get id with
   |some ob=>match ob.els[j]? with
    |some x=>some (x.cells.drop o)
    |none=>none
   |none=>none
 |_=>none
def NJ (agg:Bool) (size:Nat) (cs:List AV):Option AV:=
 if agg then (if size≤cs.length then some (.st (cs.take size)) else none) else cs[0]?
def UK (lo:Int) (hi:Nat):Option Nat:=if 0≤lo∧lo≤hi then some lo.toNat else none
def Ki (h:A7) (x:AV) (lo hi:Option Int):Option AV:=
 match x with
 | .s s=>(UK (hi.getD s.size) s.size).bind fun b=>(UK (lo.getD 0) b).map fun a=> .s (s.extract a b)
 | .sl k nl xs=>(UK (hi.getD xs.length) xs.length).bind fun b=>(UK (lo.getD 0) b).map fun a=> .sl k nl ((xs.take b).drop a)
 | .own id off len=>match h.get id with
   |some ob=>(UK (hi.getD len) (ob.els.length-off)).bind fun b=>(UK (lo.getD 0) b).map fun a=> .own id (off+a) (b-a)
   |none=>none
 |_=>none
def RK:Option AV→Option Int
 |some (.i _ n)=>some n
 |_=>none
def JW (ρ:E3):Option Operand→Option (Option Int)
 |none=>some none
 |some x=>(RK (ρ 0 x)).map some
def UC (T:Ep) (src dst:TypeId) (x:AV):Option AV:=
 match Ci T src,Ci T dst,x with
 | .int _,.int k,.i _ n=>some (.i k (k.wrap n))
 | .str,.str,.s b=>some (.s b)
 |_,_,_=>none
def puny (op:UnOp) (x:AV):Option AV:=
 match op,x with
 | .not,.b t=>some (.b (!t))
 | .neg,.i k n=>some (.i k (k.wrap (0-n)))
 |_,_=>none
def evs (ρ:E3):List Operand→Option (List AV)
 | []=>some []
 |x::xs=>match ρ 0 x,evs ρ xs with
  |some y,some ys=>some (y::ys)
  |_,_=>none
def QP (T:Ep) (ρ:E3) (h:A7) (c:Call):Option AV:=
 match c.callee with
 | .builtin .len=>match c.args.toList,c.argTypes.toList with
   | [x],[t]=>match ρ 0 x with
     |some u=>match u,Ci T t with
      | .s s,.str=>some (.i .i64 s.size)
      | .sl _ _ xs,.slice _=>some (.i .i64 xs.length)
      | .own id _ len,.slice _=>if (h.get id).isSome then some (.i .i64 len) else none
      |_,_=>none
     |none=>none
   |_,_=>none
 | .builtin .cap=>match c.args.toList,c.argTypes.toList with
   | [x],[t]=>match ρ 0 x,Ci T t with
     |some (.sl _ true []),.slice _=>some (.i .i64 0)
     |_,_=>none
   |_,_=>none
 | .builtin .min=>match c.args.toList with
   | [x,y]=>match ρ 0 x,ρ 0 y with
     |some (.i k m),some (.i _ n)=>some (.i k (if n<m then n else m))
     |_,_=>none
   |_=>none
 | .builtin .max=>match c.args.toList with
   | [x,y]=>match ρ 0 x,ρ 0 y with
     |some (.i k m),some (.i _ n)=>some (.i k (if n>m then n else m))
     |_,_=>none
   |_=>none
 |_=>none
def Iz (T:Ep) (ρ:E3) (h:A7) (o:Oper):Option AV:=
 match o.op with
 | .move x| .assign x=>ρ (Kb T o.type) x
 | .pick c a b=>match ρ 0 c,ρ 0 a,ρ 0 b with
   |some (.b t),some (.b x),some (.b y)=>some (.b (if t then x else y))
   |some (.b t),some x,some y=>some (if t then x else y)
   |_,_,_=>none
 | .binOp op xt x y _=>match ρ (Kb T xt) x,ρ (Kb T xt) y with
   |some u,some v=>Qg T op xt u v
   |_,_=>none
 | .unOp op _ x=>match ρ 0 x with
   |some u=>puny op u
   |none=>none
 | .convert s d x=>match ρ 0 x with
   |some u=>UC T s d u
   |none=>none
 | .nilCheck x=>match ρ 0 x with
   |some (.pt cs)=>some (.pt cs)
   |some (.loc id j o)=>if (h.get id).isSome then some (.loc id j o) else none
   |_=>none
 | .load t x=>match AJ T t,(ρ 0 x).bind (Lr h) with
   |some i,some cs=>NJ i.desc.agg i.size cs
   |_,_=>none
 | .fieldAddr t x f=>match AJ T t,ρ 0 x with
   |some ⟨_,_,_,.struct gs⟩,some p=>match gs[f]? with
    |some (off,ft)=>if Eg T ft=0 then none else
     match p with
     | .pt cs=>some (.pt (cs.drop off))
     | .loc id j o=>if (h.get id).isSome then some (.loc id j (o+off)) else none
     |_=>none
    |none=>none
   |_,_=>none
 | .field t x f=>match AJ T t,ρ 0 x with
   |some ⟨_,_,_,.struct gs⟩,some (.st fs)=>match gs[f]? with
    |some (off,ft)=>match AJ T ft with
     |some i=>if i.desc.agg then (if off+i.size≤fs.length then some (.st ((fs.drop off).take i.size)) else none) else fs[off]?
     |none=>none
    |none=>none
   |_,_=>none
 | .indexAddr t x ix=>match En T t,ρ 0 x,ρ 0 ix with
   |some e,some (.sl k nl xs),some (.i _ n)=>
    if k=Eg T e∧k≠0∧0≤n then (match xs[n.toNat]? with|some y=>some (.pt y.cells)|none=>none) else none
   |some e,some (.own id off len),some (.i _ n)=>match h.get id with
    |some ob=>if ob.k=Eg T e∧0≤n∧n<len then some (.loc id (off+n.toNat) 0) else none
    |none=>none
   |_,_,_=>none
 | .index t x ix=>match Ci T t,ρ 0 x,ρ 0 ix with
   | .str,some (.s s),some (.i _ n)=>if 0≤n then (match s.data[n.toNat]? with|some b=>some (.i .u8 b.toNat)|none=>none) else none
   |_,_,_=>none
 | .slice t x lo hi mx=>if mx.isSome then none else match ρ 0 x,JW ρ lo,JW ρ hi with
   |some u,some l,some g=>match u with
    | .s _=>if Ci T t= .str then Ki h u l g else none
    | .sl k _ _=>match En T t with
      |some e=>if k=Eg T e∧k≠0 then Ki h u l g else none
      |none=>none
    | .own id _ _=>match h.get id with
      |some ob=>match En T t with
       |some e=>if ob.k=Eg T e then Ki h u l g else none
       |none=>none
      |none=>none
    |_=>none
   |_,_,_=>none
 | .extract x n=>match ρ 0 x with
   |some (.tup xs)=>xs[n]?
   |_=>none
 | .makeFunc (.func f) first caps=>match first.toList with
   | []=>match evs ρ caps.toList,Nat.ble f 999999 with
     |some ys,true=>some (.fn f ys)
     |_,_=>none
   |x::xs=>match caps.toList,evs ρ first.toList,Nat.ble f 999999 with
    | [],some ys,true=>some (.fn (OO f (x::xs)) ys)
    |_,_,_=>none
 | .call c=>QP T ρ h c
 |_=>none
def Nl (P:Program) (o:Oper) (ρ:E3) (h:A7) (r:AV) (h':A7):Prop:=
 ∀w0 μ w (c:Operand→Value),FM w0 μ w h→(∀id,h.next≤id→id<h'.next→μ id=none)→
  (∀x∈o.op.operands,∀k y,ρ k x=some y→VR w μ y (c x))→
  ∃v w' μ',(execOp c o).run P w= .ok (.value v) w'∧VR w' μ' r v∧Hw w0 μ w h μ' w' h'
theorem Mg {P:Program} {o:Oper} {ρ:E3} {h:A7} {r:AV}
  (hq: ∀w0 μ w (c:Operand→Value),FM w0 μ w h→(∀x∈o.op.operands,∀k y,ρ k x=some y→VR w μ y (c x))→
    ∃v,(execOp c o).run P w= .ok (.value v) w∧VR w μ r v):Nl P o ρ h r h:=
 fun w0 μ w c s _ hx=>let ⟨v,h1,h2⟩:=hq w0 μ w c s hx;⟨v,w,μ,h1,h2,Hw.refl s⟩
theorem Fm {P:Program} {m:Sem Value} {w w':World} {v:Value} (h:m.run P w= .ok v w'):
  (do pure (.value (←m)):Sem Next).run P w= .ok (.value v) w':=by
 simp [h]
section
variable {P:Program} {T:Ep} (hT:Dh P T=true)
include hT
theorem CW {t e:TypeId} (h:En T t=some e):P.underlying t=some (.slice e):=by
 unfold En at h
 split at h
 ·rename_i hl;cases h;exact LY hT hl rfl
 ·cases h
theorem Kj {t:TypeId} (h:Ci T t= .str):P.underlying t=some .string:=by
 unfold Ci at h;split at h
 ·rename_i i hi;exact S3 hT hi h
 ·cases h
theorem ML {t:TypeId} {k:IntKind} (h:Ci T t= .int k):P.underlying t=some (.int k):=by
 unfold Ci at h;split at h
 ·rename_i i hi;exact S2 hT hi h
 ·cases h
theorem KK {t e:TypeId} (h:Ci T t= .slice e):P.underlying t=some (.slice e):=by
 unfold Ci at h;split at h
 ·rename_i i hi;exact LY hT hi h
 ·cases h
theorem KB {t:TypeId} {n:Nat} (h:Eg T t=n) (hn:n≠0) (w:World):(sizeOf t).run P w= .ok n w:=by
 unfold Eg at h;split at h
 ·rename_i i hi;rw [GZ hT hi w,h]
 ·exact absurd h.symm hn
theorem WA {w0 w:World} {μ:Mu} {h:A7} (s:FM w0 μ w h) {p:AV} {cs:List AV} (hp:Lr h p=some cs) {v:Value} (hv:VR w μ p v):
  ∃a,v= .pointer (some a)∧ ∀i x,cs[i]? =some x→ ∃u,w.cell? (a.add i)=some u∧VR w μ x u∧u.oneCell'=true:=by
 cases p with
 |pt ds=>
  simp only [Lr,Option.some.injEq] at hp;subst hp
  simp only [VR,CR] at hv
  obtain ⟨a,rfl,ha⟩:=hv
  refine ⟨a,rfl,fun i x hx=> ?_⟩
  obtain ⟨u,⟨u1,_,u2⟩,u3⟩:=GT ha i x hx
  exact ⟨u,u1,Eb _ _ u3,u2⟩
 |loc id j o=>
  simp only [Lr] at hp
  split at hp
  ·rename_i ob hob
   split at hp
   ·rename_i x hx
    cases hp
    simp only [VR] at hv
    have hl:=s.live id ob hob
    cases hm:μ id with
    |none=>simp only [hm] at hv
    |some t=>
     cases t with
     |none=>exact absurd hm hl
     |some sl=>
      simp only [hm] at hv
      subst hv
      have B:=s.blk id ob sl hob hm
      obtain ⟨cur,c1,c2,c3⟩:=B.blk
      obtain ⟨_,q⟩:=c3 j x hx
      refine ⟨_,rfl,fun i y hy=> ?_⟩
      rw [List.getElem?_drop] at hy
      obtain ⟨u,u1,u2,u3⟩:=q _ _ hy
      refine ⟨u,?_,u2,u3⟩
      rw [Er]
      simp only [World.cell?,c1,Option.isSome_none,Bool.false_eq_true,if_false]
      rw [B.k,Nat.add_assoc];exact u1
   ·cases hp
  ·cases hp
 |_=>simp [Lr] at hp
omit hT in
theorem LC {w:World} {a:Addr} (vs:List Value) (h: ∀i u,vs[i]? =some u→w.cell? (a.add i)=some u):(loadCells a vs.length).run P w= .ok vs.toArray w:=by
 have:=run_loadCells_list (P:=P) (w:=w) a vs h
 simpa using this
theorem Uv {w0 w:World} {μ:Mu} {h:A7} (s:FM w0 μ w h) {t:TypeId} {i:TI} (ht:AJ T t=some i) {p:AV} {cs:List AV} (hp:Lr h p=some cs) {r:AV}
  (hr:NJ i.desc.agg i.size cs=some r) {v:Value} (hv:VR w μ p v): ∃u,(Instr.loadAt t v).run P w= .ok u w∧VR w μ r u:=by
 obtain ⟨a,rfl,ha⟩:=WA hT s hp hv
 unfold NJ at hr
 cases hag:i.desc.agg with
 |false=>
  rw [hag] at hr
  simp only [Bool.false_eq_true,if_false] at hr
  obtain ⟨u,u1,u2,_⟩:=ha 0 r hr
  rw [add_zero] at u1
  refine ⟨u,?_,u2⟩
  simp [Instr.loadAt,Instr.sureAddr,loadVar,Ji hT ht,hag,u1]
 |true=>
  rw [hag] at hr
  simp only [if_true] at hr
  split at hr
  ·rename_i hsz
   cases hr
   have: ∃vs:List Value,vs.length=i.size∧(∀j u,vs[j]? =some u→w.cell? (a.add j)=some u)∧D2 w μ (cs.take i.size) vs:=by
    clear hag ht
    generalize i.size=n at hsz
    induction n with
    |zero=>exact ⟨[],rfl,by simp,by simp [D2]⟩
    |succ n ih=>
     obtain ⟨vs,v1,v2,v3⟩:=ih (by omega)
     have hlt:n<cs.length:=by omega
     obtain ⟨u,u1,u2,_⟩:=ha n cs[n] (by simp [hlt])
     refine ⟨vs++[u],by simp [v1],fun j q hq=> ?_,?_⟩
     ·rw [List.getElem?_append] at hq
      split at hq
      ·exact v2 j q hq
      ·rename_i hj
       have:j=n:=by
        rcases Nat.lt_or_ge (j-vs.length) 1 with h1|h1
        ·omega
        ·rw [List.getElem?_eq_none (by simpa using h1)] at hq;cases hq
       subst this
       simp [v1] at hq
       rw [←hq];exact u1
     ·rw [List.take_succ_eq_append_getElem hlt]
      refine KH v3 ?_
      simp only [D2]
      exact ⟨u,[],rfl,u2,rfl⟩
   obtain ⟨vs,v1,v2,v3⟩:=this
   refine ⟨.agg vs.toArray,?_,by simp only [VR];exact ⟨_,rfl,v3⟩⟩
   have hc:=LC (P:=P) vs v2
   rw [v1] at hc
   simp [Instr.loadAt,Instr.sureAddr,loadVar,Ji hT ht,hag,GZ hT ht,hc]
  ·cases hr
end
end
end Go.Lift
namespace Go.Lift
noncomputable section
open Go Go.RowKit
section
variable {P:Program} {T:Ep} (hT:Dh P T=true)
include hT
theorem Mi {w:World} {μ:Mu} {k:IntKind} {n:Int} {v:Value} (h:VR w μ (.i k n) v):v= .int k n:=by simpa only [VR,CR] using h
theorem UJ {w:World} {μ:Mu} {t:Bool} {v:Value} (h:VR w μ (.b t) v):v= .bool t:=by simpa only [VR,CR] using h
theorem VQ {w:World} {μ:Mu} {s:ByteArray} {v:Value} (h:VR w μ (.s s) v):v= .string s∧s.size≤Gb:=by simpa only [VR,CR] using h
omit hT in
theorem IP {w:World} {μ:Mu} {k:IntKind} {n:Int}:VR w μ (.i k n) (.int k n):=by simp only [VR,CR]
omit hT in
theorem Ue {w:World} {μ:Mu} {t:Bool}:VR w μ (.b t) (.bool t):=by simp only [VR,CR]
theorem WO {w:World} {μ:Mu} {s d:TypeId} {x r:AV} (h:UC T s d x=some r) {v:Value} (hv:VR w μ x v): ∃z,(convert s d v).run P w= .ok z w∧VR w μ r z:=by
 unfold UC at h
 split at h
 ·rename_i k0 k k' n e1 e2
  cases h
  have:=Mi hT hv;subst this
  exact ⟨.int k (k.wrap n),by simp [convert,run_underlying (ML hT e1),run_underlying (ML hT e2),Conv.intToInt],IP⟩
 ·rename_i b e1 e2
  cases h
  have h2:=VQ hT hv
  obtain ⟨rfl,_⟩:=h2
  exact ⟨.string b,by simp [convert,run_underlying (Kj hT e1),run_underlying (Kj hT e2)],hv⟩
 ·cases h
theorem puny_ok {w:World} {μ:Mu} {op:UnOp} {x r:AV} (h:puny op x=some r) {v:Value} (hv:VR w μ x v): ∃z,(Op.unary op v).run P w= .ok z w∧VR w μ r z:=by
 unfold puny at h
 split at h
 ·cases h;have:=UJ hT hv;subst this;exact ⟨_,rfl,Ue⟩
 ·cases h;have:=Mi hT hv;subst this;exact ⟨_,rfl,IP⟩
 ·cases h
theorem Nq {lo:Int} {hi n:Nat} (h:UK lo hi=some n):0≤lo∧lo≤hi∧n=lo.toNat:=by
 unfold UK at h;split at h
 ·rename_i e;cases h;exact ⟨e.1,e.2,rfl⟩
 ·cases h
theorem LD {w:World} {k:IntKind} {i:Int} {y:Nat} {code:BoundsCode} (h0:0≤i) (h1:i≤y):(Instr.sliceBound (.int k i) y code).run P w= .ok i.toNat w:=by
 simp [Instr.sliceBound,asIntOf,h0,h1]
theorem Ui {ρ:E3} {o:Option Operand} {l:Option Int} (h:JW ρ o=some l) {w:World} {μ:Mu} {c:Operand→Value}
  (hc: ∀x,o=some x→ ∀k y,ρ k x=some y→VR w μ y (c x)):(o=none∧l=none)∨ ∃x k n,o=some x∧l=some n∧c x= .int k n:=by
 cases o with
 |none=>simp [JW] at h;exact Or.inl ⟨rfl,h.symm⟩
 |some x=>
  simp only [JW,Option.map_eq_some_iff] at h
  obtain ⟨n,hn,rfl⟩:=h
  unfold RK at hn
  split at hn
  ·rename_i k m e
   cases hn
   exact Or.inr ⟨x,k,_,rfl,rfl,Mi hT (hc x rfl 0 _ e)⟩
  ·cases hn
theorem KS {w:World} {μ:Mu} {c:Operand→Value} {ρ:E3} {lo hi:Option Operand} {l g:Option Int} {isSl:Bool} {len cap hiN a b:Nat}
  (hl:JW ρ lo=some l) (hg:JW ρ hi=some g)
  (hcl: ∀x,lo=some x→ ∀k y,ρ k x=some y→VR w μ y (c x)) (hcg: ∀x,hi=some x→ ∀k y,ρ k x=some y→VR w μ y (c x))
  (hlen:len≤cap) (hle:hiN≤cap) (h1:UK (g.getD len) hiN=some b) (h2:UK (l.getD 0) b=some a):
  (Instr.sliceBounds isSl len cap (lo.map c) (hi.map c) none).run P w= .ok (a,b,cap) w:=by
 obtain ⟨p1,p2,rfl⟩:=Nq hT h1
 obtain ⟨q1,q2,rfl⟩:=Nq hT h2
 have hh:(match (hi.map c:Option Value),(none:Option Value) with
   |some v,some _=>Instr.sliceBound v cap .slice3B
   |some v,none=>Instr.sliceBound v cap (if isSl then .sliceAcap else .sliceAlen)
   |none,none=>pure len
   |none,some _=>stuck "Slice: max without high" :Sem Nat).run P w= .ok (g.getD len).toNat w:=by
  rcases Ui hT hg hcg with ⟨rfl,rfl⟩|⟨x,k,n,rfl,rfl,hx⟩
  ·simp
  ·simp only [Option.map_some,hx,Option.getD_some] at p1 p2 ⊢
   exact LD hT p1 (by omega)
 have hlo:(match (lo.map c:Option Value) with
   |some v=>Instr.sliceBound v (g.getD len).toNat .sliceB
   |none=>pure 0:Sem Nat).run P w= .ok (l.getD 0).toNat w:=by
  rcases Ui hT hl hcl with ⟨rfl,rfl⟩|⟨x,k,n,rfl,rfl,hx⟩
  ·simp
  ·simp only [Option.map_some,hx,Option.getD_some] at q1 q2 ⊢
   exact LD hT q1 (by omega)
 generalize (g.getD (len:Int)).toNat=G at*
 generalize (l.getD 0).toNat=L at*
 unfold Instr.sliceBounds
 cases hi with
 |none=>
  simp only [Option.map_none,Sem.run_pure] at hh
  injection hh with e1 _
  subst e1
  cases lo with
  |none=>
   simp only [Option.map_none,Sem.run_pure] at hlo
   injection hlo with e2 _
   subst e2
   simp
  |some x=>
   simp only [Option.map_some] at hlo
   simp [hlo]
 |some y=>
  simp only [Option.map_some] at hh
  cases lo with
  |none=>
   simp only [Option.map_none,Sem.run_pure] at hlo
   injection hlo with e2 _
   subst e2
   simp [hh]
  |some x=>
   simp only [Option.map_some] at hlo
   simp [hh,hlo]
end
end
end Go.Lift
namespace Go.Lift
noncomputable section
open Go Go.RowKit
section
variable {P:Program} {T:Ep} (hT:Dh P T=true)
include hT
theorem QG {w0 w:World} {μ:Mu} {h:A7} (s:FM w0 μ w h) {id:Nat} {ob:Obj} (hg:h.get id=some ob) (hm:μ id≠none):
  ∃sl,μ id=some (some sl)∧KW w μ ob sl:=by
 cases e:μ id with
 |none=>exact absurd e hm
 |some t=>cases t with
  |none=>exact absurd e (s.live id ob hg)
  |some sl=>exact ⟨sl,rfl,s.blk id ob sl hg e⟩
theorem Jb {w0 w:World} {μ:Mu} {h:A7} (s:FM w0 μ w h) {id off len:Nat} {ob:Obj} (hg:h.get id=some ob) {v:Value} (hv:VR w μ (.own id off len) v):
  ∃sl a c,μ id=some (some sl)∧KW w μ ob sl∧v= .slice (some a) len c∧len≤c∧off+c=sl.cap∧a.block=sl.g∧(0<c→a=⟨sl.g,off*sl.k,none⟩):=by
 have hm:μ id≠none:=by intro e;simp only [VR,e] at hv
 obtain ⟨sl,e,B⟩:=QG hT s hg hm
 simp only [VR,e] at hv
 obtain ⟨a,c,h1,h2,h3,h4,h5⟩:=hv
 exact ⟨sl,a,c,e,B,h1,h2,h3,h4,h5⟩
theorem MQ {w0 w:World} {μ:Mu} {h:A7} (s:FM w0 μ w h) {id j o:Nat} {ob:Obj} (hg:h.get id=some ob) {v:Value} (hv:VR w μ (.loc id j o) v):
  ∃sl,μ id=some (some sl)∧KW w μ ob sl∧v= .pointer (some ⟨sl.g,j*sl.k+o,none⟩):=by
 have hm:μ id≠none:=by intro e;simp only [VR,e] at hv
 obtain ⟨sl,e,B⟩:=QG hT s hg hm
 simp only [VR,e] at hv
 exact ⟨sl,e,B,hv⟩
theorem part_ok {w:World} {μ:Mu} {fs:List AV} {cs:Array Value} (hf:D2 w μ fs cs.toList) {ft:TypeId} {i:TI} (hi:AJ T ft=some i) {off:Nat} {r:AV}
  (hr:(if i.desc.agg then (if off+i.size≤fs.length then some (AV.st ((fs.drop off).take i.size)) else none) else fs[off]?)=some r):
  ∃u,(part ft cs off).run P w= .ok u w∧VR w μ r u:=by
 cases hag:i.desc.agg with
 |true=>
  rw [hag] at hr
  simp only [if_true] at hr
  split at hr
  ·cases hr
   refine ⟨.agg (cs.extract off (off+i.size)),by simp [part,Ji hT hi,hag,GZ hT hi],?_⟩
   simp only [VR]
   refine ⟨_,rfl,?_⟩
   have:=St (OJ hf off) i.size
   rw [Array.toList_extract]
   simpa [List.extract_eq_take_drop] using this
  ·cases hr
 |false=>
  rw [hag] at hr
  simp only [Bool.false_eq_true,if_false] at hr
  obtain ⟨u,u1,u2⟩:=GC hf _ _ hr
  refine ⟨u,?_,u2⟩
  have:cs[off]? =some u:=by simpa using u1
  simp [part,Ji hT hi,hag,this]
theorem cut_s {w0 w:World} {μ:Mu} {h:A7} (s:FM w0 μ w h) {ρ:E3} {c:Operand→Value} {t:TypeId} {lo hi:Option Operand} {l g:Option Int} {b:ByteArray} {r:AV}
  (hd:Ci T t= .str) (hl:JW ρ lo=some l) (hg:JW ρ hi=some g) (hcl: ∀x,lo=some x→ ∀k y,ρ k x=some y→VR w μ y (c x)) (hcg: ∀x,hi=some x→ ∀k y,ρ k x=some y→VR w μ y (c x))
  (hr:Ki h (.s b) l g=some r) {v:Value} (hv:VR w μ (.s b) v): ∃u,(Instr.sliceAt t v (lo.map c) (hi.map c) none).run P w= .ok u w∧VR w μ r u:=by
 obtain ⟨rfl,hsz⟩:=VQ hT hv
 simp only [Ki,Option.bind_eq_some_iff,Option.map_eq_some_iff] at hr
 obtain ⟨e,h1,a,h2,rfl⟩:=hr
 have hb:=KS (isSl:=false) hT hl hg hcl hcg (Nat.le_refl b.size) (Nat.le_refl _) h1 h2
 refine ⟨.string (b.extract a e),by simp [Instr.sliceAt,Instr.slice,run_underlying (Kj hT hd),hb],?_⟩
 simp only [VR,CR,true_and,ByteArray.size_extract]
 omega
theorem cut_sl {w0 w:World} {μ:Mu} {h:A7} (s:FM w0 μ w h) {ρ:E3} {c:Operand→Value} {t e:TypeId} {lo hi:Option Operand} {l g:Option Int} {k:Nat} {nl:Bool} {xs:List AV} {r:AV}
  (hd:En T t=some e) (hk:k=Eg T e) (hk0:Eg T e≠0) (hl:JW ρ lo=some l) (hg:JW ρ hi=some g) (hcl: ∀x,lo=some x→ ∀k y,ρ k x=some y→VR w μ y (c x)) (hcg: ∀x,hi=some x→ ∀k y,ρ k x=some y→VR w μ y (c x))
  (hr:Ki h (.sl k nl xs) l g=some r) {v:Value} (hv:VR w μ (.sl k nl xs) v): ∃u,(Instr.sliceAt t v (lo.map c) (hi.map c) none).run P w= .ok u w∧VR w μ r u:=by
 simp only [Ki,Option.bind_eq_some_iff,Option.map_eq_some_iff] at hr
 obtain ⟨b,h1,a,h2,rfl⟩:=hr
 have hsz:=KB hT (t:=e) rfl hk0 w
 obtain ⟨p1,p2,p3⟩:=Nq hT h1
 obtain ⟨q1,q2,q3⟩:=Nq hT h2
 simp only [VR,CR] at hv ⊢
 rcases hv with ⟨rfl,rfl⟩|⟨rfl,A,C,rfl,hc,hlim,hrows⟩
 ·have hb:=KS (isSl:=true) hT hl hg hcl hcg (Nat.le_refl 0) (Nat.le_refl 0) h1 h2
  have hb0:b=0:=by simp only [List.length_nil] at p2 p3;omega
  have ha0:a=0:=by omega
  subst hb0;subst ha0
  refine ⟨.slice none 0 0,by simp [Instr.sliceAt,Instr.slice,run_underlying (CW hT hd),hb,hsz],Or.inl ⟨by simp,rfl⟩⟩
 ·have hb:=KS (isSl:=true) hT hl hg hcl hcg hc hc h1 h2
  have hl1:((xs.take b).drop a).length=b-a:=by simp;omega
  refine ⟨.slice (if C=a then some A else (some A).map (·.add (a*Eg T e))) (b-a) (C-a),by simp [Instr.sliceAt,Instr.slice,run_underlying (CW hT hd),hb,hsz],Or.inr ⟨rfl,?_⟩⟩
  by_cases hCa:C=a
  ·rw [if_pos hCa]
   refine ⟨A,C-a,by rw [hl1],by rw [hl1];omega,by rw [hl1];omega,?_⟩
   have:(xs.take b).drop a=[]:=List.length_eq_zero_iff.1 (by rw [hl1];omega)
   rw [this];simp only [BR]
  ·rw [if_neg hCa]
   refine ⟨A.add (a*Eg T e),C-a,by rw [hl1];rfl,by rw [hl1];omega,by rw [hl1];omega,?_⟩
   rw [←hk]
   exact Sf (Sg hrows b) a
theorem cut_own {w0 w:World} {μ:Mu} {h:A7} (s:FM w0 μ w h) {ρ:E3} {c:Operand→Value} {t e:TypeId} {lo hi:Option Operand} {l g:Option Int} {id off len:Nat} {ob:Obj} {r:AV}
  (hd:En T t=some e) (hob:h.get id=some ob) (hk:ob.k=Eg T e) (hl:JW ρ lo=some l) (hg:JW ρ hi=some g) (hcl: ∀x,lo=some x→ ∀k y,ρ k x=some y→VR w μ y (c x)) (hcg: ∀x,hi=some x→ ∀k y,ρ k x=some y→VR w μ y (c x))
  (hr:Ki h (.own id off len) l g=some r) {v:Value} (hv:VR w μ (.own id off len) v): ∃u,(Instr.sliceAt t v (lo.map c) (hi.map c) none).run P w= .ok u w∧VR w μ r u:=by
 simp only [Ki,hob,Option.bind_eq_some_iff,Option.map_eq_some_iff] at hr
 obtain ⟨b,h1,a,h2,rfl⟩:=hr
 obtain ⟨sl,A,C,hm,B,rfl,hc,hcap,hblk,hadr⟩:=Jb hT s hob hv
 have hk0:Eg T e≠0:=by have:=B.pos;omega
 have hsz:=KB hT (t:=e) rfl hk0 w
 obtain ⟨p1,p2,p3⟩:=Nq hT h1
 obtain ⟨q1,q2,q3⟩:=Nq hT h2
 have hle:ob.els.length-off≤C:=by have:=B.len;omega
 have hb:=KS (isSl:=true) hT hl hg hcl hcg hc hle h1 h2
 have hbC:b≤C:=by omega
 have hab:a≤b:=by omega
 refine ⟨.slice (if C=a then some A else (some A).map (·.add (a*Eg T e))) (b-a) (C-a),by simp [Instr.sliceAt,Instr.slice,run_underlying (CW hT hd),hb,hsz],?_⟩
 simp only [VR,hm]
 by_cases hCa:C=a
 ·rw [if_pos hCa]
  exact ⟨A,C-a,rfl,by omega,by omega,hblk,fun hp=>by omega⟩
 ·rw [if_neg hCa]
  have hA:=hadr (by omega)
  subst hA
  refine ⟨_,C-a,rfl,by omega,by omega,by rw [HG],fun _=> ?_⟩
  show Addr.add _ _=_
  rw [Er,←hk,←B.k,←Nat.add_mul]
end
end
end Go.Lift
namespace Go.Lift
noncomputable section
open Go Go.RowKit
section
variable {P:Program} {T:Ep} (hT:Dh P T=true)
include hT
theorem TM {w:World} {μ:Mu} {ρ:E3} {c:Operand→Value}: ∀(xs:List Operand) (ys:List AV),evs ρ xs=some ys→(∀x∈xs,∀k y,ρ k x=some y→VR w μ y (c x))→D2 w μ ys (xs.map c)
 | [],ys,h,_=>by simp [evs] at h;subst h;simp [D2]
 |x::xs,ys,h,hc=>by
  simp only [evs] at h
  split at h
  ·rename_i y zs h1 h2
   cases h
   simp only [List.map_cons,D2]
   exact ⟨_,_,rfl,hc x (by simp) 0 y h1,TM xs zs h2 fun z hz=>hc z (by simp [hz])⟩
  ·cases h
set_option maxHeartbeats 1000000 in
theorem QQ {ρ:E3} {h:A7} {o:Oper} {r:AV} (hq:Iz T ρ h o=some r) (w0:World) (μ:Mu) (w:World) (c:Operand→Value) (s:FM w0 μ w h) (hc: ∀x∈o.op.operands,∀k y,ρ k x=some y→VR w μ y (c x)):
  ∃v,(execOp c o).run P w= .ok (.value v) w∧VR w μ r v:=by
 obtain ⟨dst,op,ty,pos,after,guard⟩:=o
 unfold Iz at hq
 simp only at hq hc ⊢
 split at hq
 ·
  rename_i x
  exact ⟨c x,rfl,hc x (by simp [Op.operands]) _ _ hq⟩
 ·rename_i x
  exact ⟨c x,rfl,hc x (by simp [Op.operands]) _ _ hq⟩
 ·
  rename_i x y z
  split at hq
  ·rename_i t u v e1 e2 e3
   cases hq
   have h1:=UJ hT (hc x (by simp [Op.operands]) _ _ e1)
   have h2:=UJ hT (hc y (by simp [Op.operands]) _ _ e2)
   have h3:=UJ hT (hc z (by simp [Op.operands]) _ _ e3)
   refine ⟨.bool (if t then u else v),?_,Ue⟩
   simp only [execOp,h1,h2,h3]
   cases t<;>simp [asBool]
  ·rename_i t u v ng e1 e2 e3
   cases hq
   have h1:=UJ hT (hc x (by simp [Op.operands]) _ _ e1)
   refine ⟨if t then c y else c z,?_,?_⟩
   ·simp only [execOp,h1]
    cases t<;>simp [asBool]
   ·cases t
    ·exact hc z (by simp [Op.operands]) _ _ e3
    ·exact hc y (by simp [Op.operands]) _ _ e2
  ·cases hq
 ·
  rename_i op xt x y _
  split at hq
  ·rename_i u v e1 e2
   obtain ⟨z,h1,h2⟩:=pbin_ok (w:=w) hT hq x y (hc x (by simp [Op.operands]) _ _ e1) (hc y (by simp [Op.operands]) _ _ e2)
   exact ⟨z,Fm h1,h2⟩
  ·cases hq
 ·rename_i op _ x
  split at hq
  ·rename_i u e1
   obtain ⟨z,h1,h2⟩:=puny_ok (w:=w) hT hq (hc x (by simp [Op.operands]) _ _ e1)
   exact ⟨z,Fm h1,h2⟩
  ·cases hq
 ·rename_i sr d x
  split at hq
  ·rename_i u e1
   obtain ⟨z,h1,h2⟩:=WO (w:=w) hT hq (hc x (by simp [Op.operands]) _ _ e1)
   exact ⟨z,Fm h1,h2⟩
  ·cases hq
 ·
  rename_i x
  split at hq
  ·rename_i cs e1
   cases hq
   have h1:=hc x (by simp [Op.operands]) _ _ e1
   have h2:=h1
   simp only [VR,CR] at h1
   obtain ⟨a,e,_⟩:=h1
   rw [e] at h2
   exact ⟨_,by simp only [execOp,e];rfl,h2⟩
  ·rename_i id j of e1
   split at hq
   ·rename_i hs
    cases hq
    have h1:=hc x (by simp [Op.operands]) _ _ e1
    obtain ⟨ob,hob⟩:=Option.isSome_iff_exists.1 hs
    obtain ⟨sl,_,_,e⟩:=MQ hT s hob h1
    rw [e] at h1
    exact ⟨_,by simp only [execOp,e];rfl,h1⟩
   ·cases hq
  ·cases hq
 ·
  rename_i t x
  split at hq
  ·rename_i i cs e1 e2
   obtain ⟨y,e3,e4⟩:=Option.bind_eq_some_iff.1 e2
   obtain ⟨u,h1,h2⟩:=Uv hT s e1 e4 hq (hc x (by simp [Op.operands]) _ _ e3)
   exact ⟨u,Fm h1,h2⟩
  ·cases hq
 ·
  rename_i t x f
  split at hq
  ·rename_i sz by' ze gs p e1 e2
   split at hq
   ·rename_i off ft e3
    split at hq
    ·cases hq
    ·rename_i hz
     obtain ⟨fs,hu,hfs⟩:=Jl hT e1 rfl
     have hf: ∃fd,fs[f]? =some fd∧fd.offset=off∧fd.type=ft:=by
      rw [←hfs] at e3
      rw [List.getElem?_map] at e3
      obtain ⟨fd,h1,h2⟩:=Option.map_eq_some_iff.1 e3
      refine ⟨fd,by simpa using h1,?_,?_⟩
      ·exact congrArg Prod.fst h2
      ·exact congrArg Prod.snd h2
     obtain ⟨fd,hfd,rfl,rfl⟩:=hf
     have hsz:=KB hT (t:=fd.type) rfl hz w
     have hx:=hc x (by simp [Op.operands]) _ _ e2
     split at hq
     ·rename_i cs
      cases hq
      simp only [VR,CR] at hx
      obtain ⟨a,e,hcs⟩:=hx
      refine ⟨.pointer (some (a.add fd.offset)),?_,?_⟩
      ·refine Fm ?_
       simp [Instr.fieldAt,run_underlying hu,hfd,e,Instr.sureAddr,fieldPlace,hsz,hz]
      ·simp only [VR,CR];exact ⟨_,rfl,Rb hcs _⟩
     ·rename_i id j of
      split at hq
      ·rename_i hs
       cases hq
       obtain ⟨ob,hob⟩:=Option.isSome_iff_exists.1 hs
       obtain ⟨sl,hm,_,e⟩:=MQ hT s hob hx
       refine ⟨.pointer (some ⟨sl.g,j*sl.k+(of+fd.offset),none⟩),?_,?_⟩
       ·refine Fm ?_
        simp [Instr.fieldAt,run_underlying hu,hfd,e,Instr.sureAddr,fieldPlace,hsz,hz,Er,Nat.add_assoc]
       ·simp only [VR,hm]
      ·cases hq
     ·cases hq
   ·cases hq
  ·cases hq
 ·
  rename_i t x f
  split at hq
  ·rename_i sz by' ze gs vs e1 e2
   split at hq
   ·rename_i off ft e3
    split at hq
    ·rename_i i hi
     obtain ⟨fs,hu,hfs⟩:=Jl hT e1 rfl
     have hf: ∃fd,fs[f]? =some fd∧fd.offset=off∧fd.type=ft:=by
      rw [←hfs] at e3
      rw [List.getElem?_map] at e3
      obtain ⟨fd,h1,h2⟩:=Option.map_eq_some_iff.1 e3
      refine ⟨fd,by simpa using h1,?_,?_⟩
      ·exact congrArg Prod.fst h2
      ·exact congrArg Prod.snd h2
     obtain ⟨fd,hfd,rfl,rfl⟩:=hf
     have hx:=hc x (by simp [Op.operands]) _ _ e2
     simp only [VR] at hx
     obtain ⟨cs,e,hcs⟩:=hx
     obtain ⟨u,h1,h2⟩:=part_ok (P:=P) hT hcs hi hq
     exact ⟨u,Fm (by simp [Instr.field,run_underlying hu,hfd,e,asAgg,h1]),h2⟩
    ·cases hq
   ·cases hq
  ·cases hq
 ·
  rename_i t x ix
  split at hq
  ·rename_i e k nl xs kk n e1 e2 e3
   split at hq
   ·rename_i hk
    obtain ⟨hk,hk0,hn⟩:=hk
    split at hq
    ·rename_i y hy
     cases hq
     have hlt:n.toNat<xs.length:=(List.getElem?_eq_some_iff.1 hy).1
     have hx:=hc x (by simp [Op.operands]) _ _ e2
     have hi:=Mi hT (hc ix (by simp [Op.operands]) _ _ e3)
     simp only [VR,CR] at hx
     rcases hx with ⟨hxs,_⟩|⟨_,a,C,ex,h1,h2,h3⟩
     ·subst hxs;simp at hlt
     ·obtain ⟨q1,q2⟩:=HE h3 _ _ hy
      have hnl:n<xs.length:=by omega
      have hsz:=KB hT (t:=e) rfl (by omega) w
      refine ⟨.pointer (some (a.add (n.toNat*k))),?_,?_⟩
      ·refine Fm ?_
       rw [hk]
       simp [Instr.indexAt,asIntOf,hi,ex,run_underlying (CW hT e1),hn,hnl,hsz]
      ·simp only [VR,CR];exact ⟨_,rfl,q2⟩
    ·cases hq
   ·cases hq
  ·rename_i e id off len kk n e1 e2 e3
   split at hq
   ·rename_i ob hob
    split at hq
    ·rename_i hk
     obtain ⟨hk,hn,hnl⟩:=hk
     cases hq
     have hx:=hc x (by simp [Op.operands]) _ _ e2
     have hi:=Mi hT (hc ix (by simp [Op.operands]) _ _ e3)
     obtain ⟨sl,A,C,hm,B,rfl',hC,hcap,hblk,hadr⟩:=Jb hT s hob hx
     have h0:Eg T e≠0:=by have:=B.pos;rw [←hk];omega
     have hsz:=KB hT (t:=e) rfl h0 w
     have hA:=hadr (by omega)
     refine ⟨.pointer (some (A.add (n.toNat*ob.k))),?_,?_⟩
     ·refine Fm ?_
      rw [hk]
      simp [Instr.indexAt,asIntOf,hi,rfl',run_underlying (CW hT e1),hn,hnl,hsz]
     ·simp only [VR,hm]
      rw [hA,Er,←B.k,←Nat.add_mul,Nat.add_zero]
    ·cases hq
   ·cases hq
  ·cases hq
 ·
  rename_i t x ix
  split at hq
  ·rename_i sb kk n e1 e2 e3
   split at hq
   ·rename_i hn
    split at hq
    ·rename_i b hb
     cases hq
     obtain ⟨ex,_⟩:=VQ hT (hc x (by simp [Op.operands]) _ _ e2)
     have hi:=Mi hT (hc ix (by simp [Op.operands]) _ _ e3)
     have hb':sb[n.toNat]? =some b:=by
      have hl:n.toNat<sb.data.size:=(Array.getElem?_eq_some_iff.1 hb).1
      have hl':n.toNat<sb.size:=hl
      have he:=(Array.getElem?_eq_some_iff.1 hb).2
      rw [getElem?_pos sb n.toNat hl']
      exact congrArg some he
     exact ⟨.int .u8 b.toNat,Fm (by simp [Instr.index,asIntOf,hi,ex,run_underlying (Kj hT e1),hn,hb']),IP⟩
    ·cases hq
   ·cases hq
  ·cases hq
 ·
  rename_i t x lo hi mx
  split at hq
  ·cases hq
  rename_i hmx
  have hmx':mx=none:=by simpa using hmx
  subst hmx'
  have hcl: ∀y,lo=some y→ ∀k z,ρ k y=some z→VR w μ z (c y):=fun y hy=>hc y (by subst hy;simp [Op.operands])
  have hcg: ∀y,hi=some y→ ∀k z,ρ k y=some z→VR w μ z (c y):=fun y hy=>hc y (by subst hy;simp [Op.operands])
  split at hq
  ·rename_i u l g e1 e2 e3
   have hx:=hc x (by simp [Op.operands]) _ _ e1
   split at hq
   ·split at hq
    ·rename_i hd
     obtain ⟨z,h1,h2⟩:=cut_s hT s hd e2 e3 hcl hcg hq hx
     exact ⟨z,Fm h1,h2⟩
    ·cases hq
   ·split at hq
    ·rename_i e4
     split at hq
     ·rename_i hk
      obtain ⟨z,h1,h2⟩:=cut_sl hT s e4 hk.1 (by omega) e2 e3 hcl hcg hq hx
      exact ⟨z,Fm h1,h2⟩
     ·cases hq
    ·cases hq
   ·split at hq
    ·rename_i ob hob
     split at hq
     ·rename_i e4
      split at hq
      ·rename_i hk
       obtain ⟨z,h1,h2⟩:=cut_own hT s e4 hob hk e2 e3 hcl hcg hq hx
       exact ⟨z,Fm h1,h2⟩
      ·cases hq
     ·cases hq
    ·cases hq
   ·cases hq
  ·cases hq
 ·
  rename_i x n
  split at hq
  ·rename_i xs e1
   have hx:=hc x (by simp [Op.operands]) _ _ e1
   simp only [VR] at hx
   obtain ⟨cs,e,hcs⟩:=hx
   obtain ⟨v,h1,h2⟩:=GC hcs _ _ hq
   have:cs[n]? =some v:=by simpa using h1
   exact ⟨v,Fm (by simp [e,Instr.extract,this]),h2⟩
  ·cases hq
 ·
  rename_i f first caps
  split at hq
  ·rename_i e1
   split at hq
   rotate_left
   ·cases hq
   rename_i ys e2 e3
   cases hq
   have hf:first= #[]:=by simpa using e1
   subst hf
   have:=TM hT caps.toList ys e2 (w:=w) (μ:=μ) (c:=c) fun x hx=>hc x (by simp only [Op.operands,Array.empty_append,Array.mem_toList_iff] at hx ⊢;simpa using hx)
   refine ⟨.func (.func f) #[] (caps.map c),Fm (by simp [Instr.makeFunc]),?_⟩
   simp only [VR]
   exact ⟨_,Or.inl ⟨Nat.lt_succ_of_le (Nat.le_of_ble_eq_true e3),rfl⟩,by simpa using this⟩
  ·rename_i x xs e1
   split at hq
   rotate_left
   ·cases hq
   rename_i ys e4 e2 e3
   cases hq
   have hf:caps= #[]:=by simpa using e4
   subst hf
   have:=TM hT first.toList ys e2 (w:=w) (μ:=μ) (c:=c) fun x hx=>hc x (by simp only [Op.operands,Array.append_empty,Array.mem_toList_iff] at hx ⊢;simpa using hx)
   have hl:first.size=xs.length+1:=by have:=congrArg List.length e1;simpa using this
   refine ⟨.func (.func f) (first.map c) #[],Fm (by simp [Instr.makeFunc]),?_⟩
   simp only [VR]
   have h9:(f:Nat)≤999999:=Nat.le_of_ble_eq_true e3
   rw [Nr]
   have h10: ∀(f:Nat) (n:Nat),f≤999999→1000000≤f+1000000*(n+1)∧n+1=(f+1000000*(n+1)) /1000000∧(f+1000000*(n+1)) % 1000000=f:=by intro f n h;omega
   obtain ⟨h11,h12,h13⟩:=h10 f xs.length h9
   refine ⟨first.map c,Or.inr ⟨by rw [List.length_cons];exact h11,by simp only [Array.size_map,hl,List.length_cons];exact h12,by rw [List.length_cons,h13]⟩,by simpa using this⟩
 ·
  rename_i cl
  obtain ⟨callee,args,argTypes⟩:=cl
  unfold QP at hq
  simp only at hq
  split at hq
  ·split at hq
   ·rename_i x t e1 e2
    have ha:args= #[x]:=by rw [←Array.toList_inj];exact e1
    have ht:argTypes= #[t]:=by rw [←Array.toList_inj];exact e2
    subst ha;subst ht
    split at hq
    ·rename_i u e3
     have hx:=hc x (by simp [Op.operands,Call.operands]) _ _ e3
     split at hq
     ·rename_i sb hd
      cases hq
      obtain ⟨e,_⟩:=VQ hT hx
      exact ⟨.int .i64 sb.size,by simp [execOp,resolve,invoke,builtin,Builtin.len_,run_underlying (Kj hT hd),e,goInt],IP⟩
     ·rename_i k nl xs e' hd
      cases hq
      simp only [VR,CR] at hx
      have: ∃a C,c x= .slice a xs.length C:=by
       rcases hx with ⟨rfl,e⟩|⟨_,a,C,e,_⟩
       ·exact ⟨_,_,e⟩
       ·exact ⟨_,_,e⟩
      obtain ⟨a,C,e⟩:=this
      exact ⟨.int .i64 xs.length,by simp [execOp,resolve,invoke,builtin,Builtin.len_,run_underlying (KK hT hd),e,goInt],IP⟩
     ·rename_i id off len e' hd
      split at hq
      ·rename_i hs
       cases hq
       obtain ⟨ob,hob⟩:=Option.isSome_iff_exists.1 hs
       obtain ⟨sl,A,C,hm,B,e,_⟩:=Jb hT s hob hx
       exact ⟨.int .i64 len,by simp [execOp,resolve,invoke,builtin,Builtin.len_,run_underlying (KK hT hd),e,goInt],IP⟩
      ·cases hq
     ·cases hq
    ·cases hq
   ·cases hq
  ·split at hq
   ·rename_i x t e1 e2
    have ha:args= #[x]:=by rw [←Array.toList_inj];exact e1
    have ht:argTypes= #[t]:=by rw [←Array.toList_inj];exact e2
    subst ha;subst ht
    split at hq
    ·rename_i k e' e3 hd
     cases hq
     have hx:=hc x (by simp [Op.operands,Call.operands]) _ _ e3
     simp only [VR,CR] at hx
     have e:c x= .slice none 0 0:=by
      rcases hx with ⟨_,q⟩|⟨q,_⟩
      ·exact q
      ·cases q
     exact ⟨.int .i64 0,by simp [execOp,resolve,invoke,builtin,Builtin.cap_,run_underlying (KK hT hd),e,goInt],IP⟩
    ·cases hq
   ·cases hq
  ·split at hq
   ·rename_i x y e1
    have ha:args= #[x,y]:=by rw [←Array.toList_inj];exact e1
    subst ha
    split at hq
    ·rename_i k m k' n e2 e3
     cases hq
     have h1:=Mi hT (hc x (by simp [Op.operands,Call.operands]) _ _ e2)
     have h2:=Mi hT (hc y (by simp [Op.operands,Call.operands]) _ _ e3)
     exact ⟨.int k (if n<m then n else m),by simp [execOp,resolve,invoke,builtin,Builtin.min_,Builtin.min2,h1,h2],IP⟩
    ·cases hq
   ·cases hq
  ·split at hq
   ·rename_i x y e1
    have ha:args= #[x,y]:=by rw [←Array.toList_inj];exact e1
    subst ha
    split at hq
    ·rename_i k m k' n e2 e3
     cases hq
     have h1:=Mi hT (hc x (by simp [Op.operands,Call.operands]) _ _ e2)
     have h2:=Mi hT (hc y (by simp [Op.operands,Call.operands]) _ _ e3)
     exact ⟨.int k (if n>m then n else m),by simp [execOp,resolve,invoke,builtin,Builtin.max_,Builtin.max2,h1,h2],IP⟩
    ·cases hq
   ·cases hq
  ·cases hq
 ·cases hq
theorem qop_ok {ρ:E3} {h:A7} {o:Oper} {r:AV} (hq:Iz T ρ h o=some r):Nl P o ρ h r h:=Mg fun w0 μ w c s hc=>QQ hT hq w0 μ w c s hc
end
end
end Go.Lift
namespace Go.Lift
noncomputable section
open Go Go.RowKit
def He (h:A7):AV→Bool
 | .st _| .tup _| .und=>false
 | .own id _ _=>(h.get id).isSome
 | .loc id _ _=>(h.get id).isSome
 | .raw v=>v.oneCell'
 |_=>true
def EP (h:A7) (x:AV):Bool:=x.cells.all (He h)
def AV.withCells:AV→List AV→AV
 | .st _,cs=> .st cs
 |x,cs=>match cs with| [y]=>y|_=>x
def Lg (T:Ep) (gs:List (Nat×TypeId)) (ρ:E3):List AV→List (Nat×Operand)→Option (List AV)
 |cs,[]=>some cs
 |cs,(f,x)::r=>match gs[f]? with
  |some (off,ft)=>match ρ (Kb T ft) x with
   |some y=>if y.cells.length=Eg T ft∧off+y.cells.length≤cs.length then Lg T gs ρ (cs.take off++y.cells++cs.drop (off+y.cells.length)) r else none
   |none=>none
  |none=>none
def Jt (T:Ep) (k kn:Nat) (ρ:E3):List AV→List (Nat×Operand)→Option (List AV)
 |cs,[]=>some cs
 |cs,(f,x)::r=>match ρ kn x with
  |some y=>if y.cells.length=k∧f<cs.length then Jt T k kn ρ (cs.set f y) r else none
  |none=>none
def Ns:List AV→Option (List Int)
 | []=>some []
 | .i .u8 n::r=>(Ns r).map (n:: ·)
 |_=>none
def Kh (ns:List Int):ByteArray:=ns.foldl (fun r n=>r.push (UInt8.ofNat n.toNat)) ByteArray.empty
theorem OQ: ∀ {ys:List AV} {ns:List Int},Ns ys=some ns→ns.length=ys.length∧ ∀(j:Nat) n,ns[j]? =some n→ys[j]? =some (.i .u8 n)
 | [],ns,h=>by simp [Ns] at h;subst h;exact ⟨rfl,fun j n hj=>by simp at hj⟩
 |y::ys,ns,h=>by
  unfold Ns at h
  split at h
  ·simp at*
  ·rename_i n r heq
   cases heq
   obtain ⟨ms,hm,rfl⟩:=Option.map_eq_some_iff.1 h
   obtain ⟨h1,h2⟩:=OQ hm
   refine ⟨by simp [h1],fun j q hj=> ?_⟩
   cases j with
   |zero=>simp at hj;subst hj;rfl
   |succ j=>simp at hj ⊢;exact h2 j q hj
  ·cases h
theorem JX: ∀(ns:List Int) (s:ByteArray),(ns.foldl (fun r n=>r.push (UInt8.ofNat n.toNat)) s).size=s.size+ns.length
 | [],s=>by simp
 |n::ns,s=>by
  simp only [List.foldl_cons]
  rw [JX ns]
  have:(s.push (UInt8.ofNat n.toNat)).size=s.size+1:=by show (s.data.push _).size=_;rw [Array.size_push];rfl
  rw [this];simp;omega
def VH (T:Ep) (ρ:E3) (h:A7) (o:Oper):Option (AV×A7):=
 match o.op with
 | .build t parts=>match AJ T t with
   |some ⟨_,_,.st zs,.struct gs⟩=>if gs.all (fun p=>(AJ T p.2).isSome) then match Lg T gs ρ zs parts.toList with
    |some cs=>if parts.toList.all (fun p=>match gs[p.1]? with
     |some (_,ft)=>match ρ (Kb T ft) p.2 with
      |some y=>EP h y
      |none=>false
     |none=>false) then some (.st cs,h) else none
    |none=>none
    else none
   |_=>none
 | .box e x=>match AJ T e,ρ (Kb T e) x with
   |some i,some y=>if y.cells.length=i.size∧i.size≠0∧EP h y then some (.loc h.next 0 0,h.new ⟨e,i.size,[y]⟩) else none
   |_,_=>none
 | .alloc e=>match AJ T e with
   |some i=>if i.zero.cells.length=i.size∧i.size≠0 then some (.loc h.next 0 0,h.new ⟨e,i.size,[i.zero]⟩) else none
   |none=>none
 | .buildSlice t len parts=>match En T t with
   |some e=>match AJ T e with
    |some i=>if i.zero.cells.length=i.size∧i.size≠0∧len*i.size≤4096 then
      match Jt T i.size (Kb T e) ρ (List.replicate len i.zero) parts.toList with
      |some els=>if parts.toList.all (fun p=>match ρ (Kb T e) p.2 with|some y=>EP h y|none=>false) then some (.own h.next 0 len,h.new ⟨e,i.size,els⟩) else none
      |none=>none
     else none
    |none=>none
   |none=>none
 | .makeSlice t l c=>match En T t,ρ 0 l,ρ 0 c with
   |some e,some (.i _ m),some (.i _ n)=>match AJ T e with
    |some i=>if i.zero.cells.length=i.size∧i.size≠0∧0≤m∧m≤n∧n*i.bytes≤140737488355328∧n≤140737488355328 then
     some (.own h.next 0 m.toNat,h.new ⟨e,i.size,List.replicate n.toNat i.zero⟩) else none
    |none=>none
   |_,_,_=>none
 | .convert s d x=>match Ci T s,Ci T d,ρ 0 x with
   | .slice e,.str,some (.own id off len)=>match h.get id with
     |some ob=>if Ci T e= .int .u8∧ob.k=1∧off+len≤ob.els.length∧len≤Gb then (match Ns ((ob.els.drop off).take len) with
      |some ns=>some (.s (Kh ns),h)
      |none=>none) else none
     |none=>none
   |_,_,_=>none
 |_=>none
theorem Qf {v:Value} (h:v.oneCell'=true):v.cells= #[v]:=by
 cases v<;>first|rfl|(simp [Value.oneCell'] at h)
section
variable {P:Program} {T:Ep} (hT:Dh P T=true)
include hT
theorem VO {w0 w:World} {μ:Mu} {h:A7} (s:FM w0 μ w h) {x:AV} {v:Value} (hv:VR w μ x v) (ho:He h x=true):v.oneCell'=true:=by
 cases x with
 |und=>simp [He] at ho
 |st fs=>simp [He] at ho
 |tup fs=>simp [He] at ho
 |b t=>rw [UJ hT hv];rfl
 |i k n=>rw [Mi hT hv];rfl
 |s t=>rw [(VQ hT hv).1];rfl
 |sl k nl xs=>
  simp only [VR,CR] at hv
  rcases hv with ⟨_,e⟩|⟨_,a,c,e,_⟩<;>rw [e]<;>rfl
 |own id off len=>
  simp only [He] at ho
  obtain ⟨ob,hob⟩:=Option.isSome_iff_exists.1 ho
  obtain ⟨_,_,_,_,_,e,_⟩:=Jb hT s hob hv
  rw [e];rfl
 |loc id j o=>
  simp only [He] at ho
  obtain ⟨ob,hob⟩:=Option.isSome_iff_exists.1 ho
  obtain ⟨_,_,_,e⟩:=MQ hT s hob hv
  rw [e];rfl
 |pt cs=>simp only [VR,CR] at hv;obtain ⟨a,e,_⟩:=hv;rw [e];rfl
 |fn f cs=>simp only [VR] at hv;obtain ⟨a,e,_⟩:=hv;obtain ⟨_,_,_,e⟩:=e.ex;rw [e];rfl
 |nilp=>simp only [VR] at hv;rw [hv];rfl
 |nilf=>simp only [VR] at hv;rw [hv];rfl
 |raw _=>simp only [VR] at hv;subst hv;exact ho
theorem Uf {w0 w:World} {μ:Mu} {h:A7} (s:FM w0 μ w h): ∀ {xs:List AV} {vs:List Value},D2 w μ xs vs→xs.all (He h)=true→ ∀u∈vs,u.oneCell'=true
 | [],vs,hv,_,u,hu=>by simp [D2] at hv;subst hv;simp at hu
 |x::xs,vs,hv,ho,u,hu=>by
  simp only [D2] at hv
  obtain ⟨v,r,rfl,h1,h2⟩:=hv
  simp only [List.all_cons,Bool.and_eq_true] at ho
  rcases List.mem_cons.1 hu with rfl|hu
  ·exact VO hT s h1 ho.1
  ·exact Uf s h2 ho.2 u hu
theorem MH {w0 w:World} {μ:Mu} {h:A7} (s:FM w0 μ w h) {x:AV} {v:Value} (hv:VR w μ x v) (ho:EP h x=true):
  D2 w μ x.cells v.cells.toList∧ ∀u∈v.cells.toList,u.oneCell'=true:=by
 by_cases hx: ∃fs,x= .st fs
 ·obtain ⟨fs,rfl⟩:=hx
  simp only [VR] at hv
  obtain ⟨cs,rfl,hcs⟩:=hv
  exact ⟨hcs,Uf hT s hcs ho⟩
 ·have hc:x.cells=[x]:=by cases x<;>first|rfl|exact absurd ⟨_,rfl⟩ hx
  unfold EP at ho
  rw [hc] at ho ⊢
  have h1:He h x=true:=by simpa using ho
  have h2:=VO hT s hv h1
  rw [Qf h2]
  refine ⟨?_,by simpa using h2⟩
  simp only [D2]
  exact ⟨v,[],rfl,hv,rfl⟩
omit hT in
theorem N2: ∀ {l:List Value},Kr l=true→ ∀u∈l,u.oneCell'=true
 | [],_,u,hu=>by simp at hu
 |v::r,h,u,hu=>by
  simp only [Kr,Bool.and_eq_true] at h
  rcases List.mem_cons.1 hu with rfl|hu
  ·exact h.1
  ·exact N2 h.2 u hu
theorem KV {w:World} {μ:Mu} {t:TypeId} {i:TI} (ht:AJ T t=some i) (hz:i.zero.cells.length=i.size):
  ∃z,(zeroValue t).run P w= .ok z w∧VR w μ i.zero z∧D2 w μ i.zero.cells z.cells.toList∧z.cells.size=i.size∧ ∀u∈z.cells.toList,u.oneCell'=true:=by
 obtain ⟨z,h1,h2,h3,h4⟩:=QW hT ht w μ
 have h5:=Eb _ _ h2
 refine ⟨z,h1,h5,?_,h3,N2 h4⟩
 by_cases hx: ∃fs,i.zero= .st fs
 ·obtain ⟨fs,e⟩:=hx
  rw [e] at h5 ⊢
  simp only [VR] at h5
  obtain ⟨cs,rfl,hcs⟩:=h5
  exact hcs
 ·have hc:i.zero.cells=[i.zero]:=by
    cases e:i.zero<;>first|rfl|exact absurd ⟨_,e⟩ hx
  rw [hc] at hz ⊢
  have hs:z.cells.size=1:=by rw [h3,←hz];rfl
  have:z.cells= #[z]∨ ∃cs,z= .agg cs:=by cases z<;>first|exact Or.inl rfl|exact Or.inr ⟨_,rfl⟩
  rcases this with e|⟨cs,rfl⟩
  ·rw [e]
   simp only [D2]
   exact ⟨z,[],rfl,h5,rfl⟩
  ·
   exfalso
   have h6:=h2
   cases e:i.zero with
   |st fs=>exact hx ⟨fs,e⟩
   |sl k nl xs=>rw [e] at h6;simp only [CR] at h6;rcases h6 with ⟨_,q⟩|⟨_,a,c,q,_⟩<;>cases q
   |und=>
    obtain ⟨f,z',i1,i2,i3,i4,i5,_⟩:=Hr hT ht
    rw [e] at i5
    simp [zOk] at i5
   |own a b c=>rw [e] at h6;simp only [CR] at h6
   |loc a b c=>rw [e] at h6;simp only [CR] at h6
   |b t=>rw [e] at h6;simp only [CR] at h6;cases h6
   |i k n=>rw [e] at h6;simp only [CR] at h6;cases h6
   |s t=>rw [e] at h6;simp only [CR] at h6;cases h6.1
   |tup fs=>rw [e] at h6;simp only [CR] at h6;obtain ⟨_,q,_⟩:=h6;cases q
   |pt fs=>rw [e] at h6;simp only [CR] at h6;obtain ⟨_,q,_⟩:=h6;cases q
   |fn f fs=>rw [e] at h6;simp only [CR] at h6;obtain ⟨_,q,_⟩:=h6;obtain ⟨_,_,_,q⟩:=q.ex;cases q
   |nilp=>rw [e] at h6;simp only [CR] at h6;cases h6
   |nilf=>rw [e] at h6;simp only [CR] at h6;cases h6
   |raw _=>
    obtain ⟨f,z',i1,i2,i3,i4,i5,_⟩:=Hr hT ht
    rw [e] at i5
    simp [zOk] at i5
end
end
end Go.Lift
namespace Go.Lift
noncomputable section
open Go Go.RowKit
theorem Mc {P:Program} {w:World} {α β:Type} (f:α→Sem β) (g:α→β): ∀(l:List α),(∀x∈l,(f x).run P w= .ok (g x) w)→(l.mapM f).run P w= .ok (l.map g) w
 | [],_=>by simp
 |x::l,h=>by
  rw [List.mapM_cons,Sem.run_bind,h x (by simp)]
  simp only [Result.andThen_ok,Sem.run_bind]
  rw [Mc f g l fun y hy=>h y (by simp [hy])]
  simp
theorem PD {P:Program} {w:World} {α β:Type} (f:α→Sem β) (g:α→β) (l:Array α) (h: ∀x∈l.toList,(f x).run P w= .ok (g x) w):(l.mapM f).run P w= .ok (l.map g) w:=by
 rw [Array.mapM_eq_mapM_toList]
 have:=Mc f g l.toList h
 simp only [map_eq_pure_bind,Sem.run_bind,this,Result.andThen_ok,Sem.run_pure]
 congr 1
 apply Array.ext'
 simp
theorem Nx: ∀(vs:List Value) (off n:Nat) (cells:Array Value),off+n+vs.length≤cells.size→
  ((vs.zipIdx n).foldl (fun cs (p:Value×Nat)=>cs.setIfInBounds (off+p.2) p.1) cells).toList=cells.toList.take (off+n)++vs++cells.toList.drop (off+n+vs.length)
 | [],off,n,cells,h=>by simp
 |v::vs,off,n,cells,h=>by
  simp only [List.zipIdx_cons,List.foldl_cons,List.length_cons] at h ⊢
  rw [Nx vs off (n+1) _ (by simp;omega)]
  have hlt:off+n<cells.toList.length:=by simp;omega
  rw [Array.toList_setIfInBounds]
  apply List.ext_getElem?
  intro i
  simp only [List.getElem?_append,List.length_append,List.length_take,List.length_set,List.getElem?_take,List.getElem?_drop,List.getElem?_set,Array.length_toList,List.length_cons,List.length_nil,List.getElem?_cons]
  by_cases h1:i<off+n
  ·simp [h1,show i<off+(n+1) by omega,show min (off+(n+1)) cells.size=off+(n+1) by omega,show min (off+n) cells.size=off+n by omega,show ¬off+n=i by omega,show i<off+(n+1)+vs.length by omega,show i<off+n+(vs.length+1) by omega]
  ·by_cases h2:i=off+n
   ·subst h2
    simp [show min (off+(n+1)) cells.size=off+(n+1) by omega,show min (off+n) cells.size=off+n by omega,show off+n<off+(n+1) by omega,show off+n<off+(n+1)+vs.length by omega,show off+n<cells.size by omega]
   ·have e1:min (off+(n+1)) cells.size=off+(n+1):=by omega
    have e2:min (off+n) cells.size=off+n:=by omega
    rw [e1,e2]
    by_cases h3:i<off+(n+1)+vs.length
    ·rw [if_pos h3,if_neg (by omega),if_pos (by omega),if_neg h1,if_neg (by omega)]
     first|rfl|(congr 1;omega)
    ·rw [if_neg h3,if_neg (by omega),if_neg (by omega)]
     first|rfl|(congr 1;omega)
section
variable {P:Program} {T:Ep} (hT:Dh P T=true)
include hT
theorem MG {w:World} {μ:Mu} {x:AV} {v:Value} (h:D2 w μ x.cells v.cells.toList):v.cells.size=x.cells.length:=by
 have:=Dm h;simpa using this
theorem Ur {w0 w:World} {μ:Mu} {h:A7} (s:FM w0 μ w h) {ρ:E3} {c:Operand→Value} {gs:List (Nat×TypeId)} {places:Nat→Option (Nat×Nat)}
  (hp: ∀f off ft,gs[f]? =some (off,ft)→places f=some (off,Eg T ft)):
  ∀(parts:List (Nat×Operand)) (cs:List AV) (cells:Array Value) (r:List AV),D2 w μ cs cells.toList→
   (∀p∈parts,∀k y,ρ k p.2=some y→VR w μ y (c p.2))→
   (parts.all (fun p=>match gs[p.1]? with
     |some (_,ft)=>match ρ (Kb T ft) p.2 with
      |some y=>EP h y
      |none=>false
     |none=>false)=true)→
   Lg T gs ρ cs parts=some r→ ∃cells',Instr.fill places cells (parts.map fun p=>(p.1,c p.2))=some cells'∧D2 w μ r cells'.toList
 | [],cs,cells,r,hv,_,_,hr=>by simp [Lg] at hr;subst hr;exact ⟨cells,rfl,hv⟩
 |(f,x)::parts,cs,cells,r,hv,hc,ho,hr=>by
  simp only [List.all_cons,Bool.and_eq_true] at ho
  simp only [Lg] at hr
  split at hr
  ·rename_i off ft hg
   split at hr
   ·rename_i y hy
    split at hr
    ·rename_i hl
     simp only [hg,hy] at ho
     have h1:VR w μ y (c x):=hc (f,x) (by simp) _ y hy
     obtain ⟨k1,k2⟩:=MH hT s h1 ho.1
     have h3:=MG hT k1
     have h4:cells.size=cs.length:=by simpa using Dm hv
     simp only [List.map_cons,Instr.fill,hp f off ft hg]
     rw [if_neg (show ¬((decide ((c x).cells.size≠Eg T ft)||decide (off+(c x).cells.size>cells.size))=true) by simp only [Bool.or_eq_true,decide_eq_true_eq,not_or,Decidable.not_not];omega)]
     refine Ur s hp parts _ _ r ?_ (fun p hp'=>hc p (by simp [hp'])) ho.2 hr
     have hz:=Nx (c x).cells.toList off 0 cells (by simp;omega)
     rw [←Array.foldl_toList]
     have hzi:(c x).cells.zipIdx.toList=(c x).cells.toList.zipIdx 0:=by simp
     rw [hzi]
     have h5:D2 w μ (cs.take off++y.cells++cs.drop (off+y.cells.length)) (cells.toList.take (off+0)++(c x).cells.toList++cells.toList.drop (off+0+(c x).cells.toList.length)):=by
      rw [Nat.add_zero,show (c x).cells.toList.length=y.cells.length by rw [Array.length_toList];exact h3]
      exact KH (KH (St hv _) k1) (OJ hv _)
     rw [←hz] at h5
     exact h5
    ·cases hr
   ·cases hr
  ·cases hr
theorem WV {w:World} {gs:List (Nat×TypeId)} {fs:Array Field} (hfs:fs.toList.map (fun f=>(f.offset,f.type))=gs) (ha:gs.all (fun p=>(AJ T p.2).isSome)=true):
  (fs.mapM fun f=>do pure (f.offset,←sizeOf f.type):Sem (Array (Nat×Nat))).run P w= .ok (fs.map fun f=>(f.offset,Eg T f.type)) w:=by
 refine PD _ _ _ fun f hf=> ?_
 subst hfs
 have:=List.all_eq_true.1 ha (f.offset,f.type) (List.mem_map.2 ⟨f,hf,rfl⟩)
 obtain ⟨i,hi⟩:=Option.isSome_iff_exists.1 this
 have h1:=GZ hT hi w
 have h2:Eg T f.type=i.size:=by
  unfold Eg
  have:AJ T f.type=some i:=hi
  rw [this]
 simp only [Sem.run_bind,h1,Result.andThen_ok,Sem.run_pure,h2]
theorem W1 {ρ:E3} {h:A7} {o:Oper} {t:TypeId} {parts:Array (Nat×Operand)} (ho:o.op= .build t parts) {sz bt:Nat} {zs:List AV} {gs:List (Nat×TypeId)}
  (ht:AJ T t=some ⟨sz,bt,.st zs,.struct gs⟩) (hg:gs.all (fun p=>(AJ T p.2).isSome)=true) {cs:List AV} (hf:Lg T gs ρ zs parts.toList=some cs)
  (ha:parts.toList.all (fun p=>match gs[p.1]? with
    |some (_,ft)=>match ρ (Kb T ft) p.2 with
     |some y=>EP h y
     |none=>false
    |none=>false)=true):Nl P o ρ h (.st cs) h:=by
 refine Mg fun w0 μ w c s hc=> ?_
 rw [ho] at hc
 obtain ⟨fs,hu,hfs⟩:=Jl hT ht rfl
 obtain ⟨z,h1,h2,_⟩:=QW hT ht w μ
 simp only [CR] at h2
 obtain ⟨zc,rfl,hz⟩:=h2
 have hp: ∀(f off:Nat) (ft:TypeId),gs[f]? =some (off,ft)→(fun (i:Nat)=>(fs.map fun f=>(f.offset,Eg T f.type))[i]?) f=some (off,Eg T ft):=by
  intro f off ft hgf
  rw [←hfs,List.getElem?_map] at hgf
  obtain ⟨fd,e1,e2⟩:=Option.map_eq_some_iff.1 hgf
  simp only [Prod.mk.injEq] at e2
  obtain ⟨rfl,rfl⟩:=e2
  have:fs[f]? =some fd:=by simpa using e1
  simp [this]
 obtain ⟨cells',k1,k2⟩:=Ur hT s hp parts.toList zs zc cs (CV _ _ hz) (fun p hp' k y hy=>hc p.2 (by
  simp only [Op.operands,List.mem_toArray,List.mem_map]
  exact ⟨p,hp',rfl⟩) k y hy) ha hf
 refine ⟨.agg cells',?_,by simp only [VR];exact ⟨_,rfl,k2⟩⟩
 have hpl:(parts.map fun (p:Nat×Operand)=>(p.1,c p.2)).toList=parts.toList.map fun p=>(p.1,c p.2):=by simp
 unfold execOp
 rw [ho]
 refine Fm ?_
 simp only [Instr.build,Sem.run_bind,h1,Result.andThen_ok,run_underlying hu,Value.cells,WV hT hfs hg]
 have hpl2:(Array.map (fun x:Nat×Operand=>match x with|(i,x)=>(i,c x)) parts).toList=parts.toList.map fun p=>(p.1,c p.2):=by simp
 rw [hpl2,k1]
 rfl
end
end
end Go.Lift
namespace Go.Lift
noncomputable section
open Go Go.RowKit
section
variable {P:Program} {T:Ep} (hT:Dh P T=true)
include hT
theorem Pp {w0 w:World} {μ:Mu} {h:A7} (s:FM w0 μ w h) (hf:μ h.next=none) {o:Obj} {cs:Array Value} {cap:Nat}
  (hk:0<o.k) (hl:o.els.length≤cap) (hc:cap≤maxLen) (hs:cs.size=cap*o.k)
  (hv: ∀(j:Nat) (x:AV),o.els[j]? =some x→x.cells.length=o.k∧ ∀(i:Nat) (y:AV),x.cells[i]? =some y→ ∃u,cs[j*o.k+i]? =some u∧VR w μ y u∧u.oneCell'=true):
  ∃μ',Hw w0 μ w h μ' (w.alloc (.cells cs o.e)) (h.new o)∧μ' h.next=some (some ⟨w.heap.size,cap,o.k⟩):=
 ⟨_,Wq s hf o cs cap hk hl hc hs hv,by simp [Mu.new]⟩
theorem Uo {w:World} {μ:Mu} {x:AV} {cs:Array Value} {k:Nat} (hx:D2 w μ x.cells cs.toList) (hl:x.cells.length=k) (h1: ∀u∈cs.toList,u.oneCell'=true):
  ∀(j:Nat) (y:AV),[x][j]? =some y→y.cells.length=k∧ ∀(i:Nat) (z:AV),y.cells[i]? =some z→ ∃u,cs[j*k+i]? =some u∧VR w μ z u∧u.oneCell'=true:=by
 intro j y hy
 cases j with
 |succ j=>simp at hy
 |zero=>
  simp at hy;subst hy
  refine ⟨hl,fun i z hz=> ?_⟩
  obtain ⟨v,v1,v2⟩:=GC hx i z hz
  have:cs[i]? =some v:=by simpa using v1
  refine ⟨v,by simpa using this,v2,h1 v (List.mem_of_getElem? v1)⟩
theorem box_ok {ρ:E3} {h:A7} {o:Oper} {e:TypeId} {x:Operand} (ho:o.op= .box e x) {i:TI} (ht:AJ T e=some i) {y:AV} {k:Nat} (hy:ρ k x=some y)
  (hl:y.cells.length=i.size) (h0:i.size≠0) (hc:EP h y=true):Nl P o ρ h (.loc h.next 0 0) (h.new ⟨e,i.size,[y]⟩):=by
 intro w0 μ w c s hf hx
 rw [ho] at hx
 have hv:=hx x (by simp [Op.operands]) _ y hy
 obtain ⟨k1,k2⟩:=MH hT s hv hc
 have hn:=MG hT k1
 obtain ⟨μ',g,hm⟩:=Pp hT s (hf h.next (Nat.le_refl _) (Nat.lt_succ_self _)) (o:=⟨e,i.size,[y]⟩) (cs:=(c x).cells) (cap:=1) (by show 0<i.size;omega) (by simp) (by decide) (by simp [hn,hl]) (Uo hT k1 hl k2)
 refine ⟨.pointer (some ⟨w.heap.size,0,none⟩),_,μ',?_,?_,g⟩
 ·unfold execOp;rw [ho]
  refine Fm ?_
  simp [Instr.box,newVar,newRow]
 ·simp only [VR,hm];simp
theorem VX {ρ:E3} {h:A7} {o:Oper} {e:TypeId} (ho:o.op= .alloc e) {i:TI} (ht:AJ T e=some i)
  (hl:i.zero.cells.length=i.size) (h0:i.size≠0):Nl P o ρ h (.loc h.next 0 0) (h.new ⟨e,i.size,[i.zero]⟩):=by
 intro w0 μ w c s hf hx
 obtain ⟨z,z1,z2,z3,z4,z5⟩:=KV (w:=w) (μ:=μ) hT ht hl
 obtain ⟨μ',g,hm⟩:=Pp hT s (hf h.next (Nat.le_refl _) (Nat.lt_succ_self _)) (o:=⟨e,i.size,[i.zero]⟩) (cs:=z.cells) (cap:=1) (by show 0<i.size;omega) (by simp) (by decide) (by simp [z4]) (Uo hT z3 hl z5)
 refine ⟨.pointer (some ⟨w.heap.size,0,none⟩),_,μ',?_,?_,g⟩
 ·unfold execOp;rw [ho]
  refine Fm ?_
  simp [Instr.alloc,newVar,newRow,z1]
 ·simp only [VR,hm];simp
def Dk (w:World) (μ:Mu) (k:Nat) (els:List AV) (cs:List Value):Prop:=
 cs.length=els.length*k∧ ∀(j:Nat) (x:AV),els[j]? =some x→x.cells.length=k∧D2 w μ x.cells ((cs.drop (j*k)).take k)
omit hT in
theorem Dk.get {w:World} {μ:Mu} {k:Nat} {els:List AV} {cs:List Value} (h:Dk w μ k els cs) (h1: ∀u∈cs,u.oneCell'=true):
  ∀(j:Nat) (x:AV),els[j]? =some x→x.cells.length=k∧ ∀(i:Nat) (y:AV),x.cells[i]? =some y→ ∃u,cs[j*k+i]? =some u∧VR w μ y u∧u.oneCell'=true:=by
 intro j x hx
 obtain ⟨q1,q2⟩:=h.2 j x hx
 refine ⟨q1,fun i y hy=> ?_⟩
 obtain ⟨v,v1,v2⟩:=GC q2 i y hy
 rw [List.getElem?_take] at v1
 split at v1
 ·rw [List.getElem?_drop] at v1
  exact ⟨v,v1,v2,h1 v (List.mem_of_getElem? v1)⟩
 ·cases v1
omit hT in
theorem Dk.set {w:World} {μ:Mu} {k:Nat} {els:List AV} {cs:List Value} (h:Dk w μ k els cs) {f:Nat} (hf:f<els.length) {y:AV} {vs:List Value} (hy:y.cells.length=k) (hv:D2 w μ y.cells vs):
  Dk w μ k (els.set f y) (cs.take (f*k)++vs++cs.drop (f*k+k)):=by
 have hl:=Dm hv
 have hfk:f*k+k≤els.length*k:=by
  have:=Nat.mul_le_mul_right k (Nat.succ_le_of_lt hf)
  rw [Nat.succ_mul] at this;exact this
 have hcl:=h.1
 refine ⟨by simp only [List.length_append,List.length_take,List.length_drop,List.length_set,hl,hy,hcl];omega,fun j x hx=> ?_⟩
 rw [List.getElem?_set] at hx
 by_cases hj:f=j
 ·subst hj
  simp [hf] at hx
  subst hx
  refine ⟨hy,?_⟩
  have:((cs.take (f*k)++vs++cs.drop (f*k+k)).drop (f*k)).take k=vs:=by
   have ht:(cs.take (f*k)).length=f*k:=by rw [List.length_take,hcl];omega
   rw [List.append_assoc,List.drop_append_of_le_length (by omega)]
   rw [List.drop_of_length_le (by omega),List.nil_append,List.take_append_of_le_length (by omega),List.take_of_length_le (by omega)]
  rw [this];exact hv
 ·rw [if_neg hj] at hx
  obtain ⟨q1,q2⟩:=h.2 j x hx
  refine ⟨q1,?_⟩
  have hjl:j<els.length:=(List.getElem?_eq_some_iff.1 hx).1
  have hjk:j*k+k≤els.length*k:=by
   have:=Nat.mul_le_mul_right k (Nat.succ_le_of_lt hjl)
   rw [Nat.succ_mul] at this;exact this
  have:((cs.take (f*k)++vs++cs.drop (f*k+k)).drop (j*k)).take k=(cs.drop (j*k)).take k:=by
   apply List.ext_getElem?
   intro i
   simp only [List.getElem?_take,List.getElem?_drop]
   by_cases hi:i<k
   ·rw [if_pos hi,if_pos hi]
    simp only [List.getElem?_append,List.length_append,List.length_take,hl,hy,h.1,List.getElem?_take,List.getElem?_drop]
    rw [show min (f*k) (els.length*k)=f*k by omega]
    rcases Nat.lt_or_gt_of_ne hj with h2|h2
    ·have:f*k+k≤j*k:=by
       have:=Nat.mul_le_mul_right k (Nat.succ_le_of_lt h2)
       rw [Nat.succ_mul] at this;exact this
     rw [if_neg (by omega)]
     congr 1;omega
    ·have:j*k+k≤f*k:=by
       have:=Nat.mul_le_mul_right k (Nat.succ_le_of_lt h2)
       rw [Nat.succ_mul] at this;exact this
     rw [if_pos (by omega),if_pos (by omega),if_pos (by omega)]
   ·rw [if_neg hi,if_neg hi]
  rw [this];exact q2
omit hT in
theorem J9 {w:World} {μ:Mu} {k:Nat} (hk:0<k) {x:AV} {z:Array Value} (hz:D2 w μ x.cells z.toList) (hl:x.cells.length=k) (n:Nat):
  Dk w μ k (List.replicate n x) (madeCells z (n*k)).toList:=by
 have hzs:z.size=k:=by have:=Dm hz;simp at this;omega
 refine ⟨by simp [madeCells],fun j y hy=> ?_⟩
 have hj:j<n:=by have:=(List.getElem?_eq_some_iff.1 hy).1;simpa using this
 simp [List.getElem?_replicate,hj] at hy
 subst hy
 refine ⟨hl,?_⟩
 have:((madeCells z (n*k)).toList.drop (j*k)).take k=z.toList:=by
  apply List.ext_getElem?
  intro i
  simp only [List.getElem?_take,List.getElem?_drop]
  by_cases hi:i<k
  ·rw [if_pos hi]
   have hlt:j*k+i<n*k:=by
    have:=Nat.mul_le_mul_right k (Nat.succ_le_of_lt hj)
    rw [Nat.succ_mul] at this;omega
   simp only [madeCells,Array.toList_map,Array.toList_range,List.getElem?_map,List.getElem?_range hlt,Option.map_some]
   rw [hzs,Nat.add_comm,Nat.add_mul_mod_self_right,Nat.mod_eq_of_lt hi]
   have:i<z.size:=by omega
   simp [this]
  ·rw [if_neg hi]
   rw [List.getElem?_eq_none (by simp;omega)]
 rw [this];exact hz
omit hT in
theorem K5 {z:Array Value} {n:Nat} (h1: ∀u∈z.toList,u.oneCell'=true) (h0:0<z.size): ∀u∈(madeCells z n).toList,u.oneCell'=true:=by
 intro u hu
 simp only [madeCells,Array.toList_map,Array.toList_range,List.mem_map] at hu
 obtain ⟨i,_,rfl⟩:=hu
 have:i % z.size<z.size:=Nat.mod_lt _ h0
 have e:z[i % z.size]! =z[i % z.size]:=by simp [this]
 rw [e]
 exact h1 _ (by simp)
end
end
end Go.Lift
namespace Go.Lift
noncomputable section
open Go Go.RowKit
section
variable {P:Program} {T:Ep} (hT:Dh P T=true)
include hT
theorem P2 {w0 w:World} {μ:Mu} {h:A7} (s:FM w0 μ w h) {ρ:E3} {c:Operand→Value} {k kn:Nat}:
  ∀(parts:List (Nat×Operand)) (els:List AV) (cells:Array Value) (r:List AV),Dk w μ k els cells.toList→(∀u∈cells.toList,u.oneCell'=true)→
   (∀p∈parts,∀k y,ρ k p.2=some y→VR w μ y (c p.2))→
   (parts.all (fun p=>match ρ kn p.2 with|some y=>EP h y|none=>false)=true)→
   Jt T k kn ρ els parts=some r→
   ∃cells',Instr.fill (fun i=>some (i*k,k)) cells (parts.map fun p=>(p.1,c p.2))=some cells'∧Dk w μ k r cells'.toList∧(∀u∈cells'.toList,u.oneCell'=true)∧r.length=els.length
 | [],els,cells,r,hv,h1,_,_,hr=>by simp [Jt] at hr;subst hr;exact ⟨cells,rfl,hv,h1,rfl⟩
 |(f,x)::parts,els,cells,r,hv,h1,hc,ho,hr=>by
  simp only [List.all_cons,Bool.and_eq_true] at ho
  simp only [Jt] at hr
  split at hr
  ·rename_i y hy
   split at hr
   ·rename_i hl
    simp only [hy] at ho
    have h2:VR w μ y (c x):=hc (f,x) (by simp) _ y hy
    obtain ⟨k1,k2⟩:=MH hT s h2 ho.1
    have h3:=MG hT k1
    have h4:cells.size=els.length*k:=by have:=hv.1;simpa using this
    have hfk:f*k+k≤els.length*k:=by
     have:=Nat.mul_le_mul_right k (Nat.succ_le_of_lt hl.2)
     rw [Nat.succ_mul] at this;exact this
    simp only [List.map_cons,Instr.fill]
    rw [if_neg (show ¬((decide ((c x).cells.size≠k)||decide (f*k+(c x).cells.size>cells.size))=true) by simp only [Bool.or_eq_true,decide_eq_true_eq,not_or,Decidable.not_not];omega)]
    have hz:=Nx (c x).cells.toList (f*k) 0 cells (by rw [Array.length_toList];omega)
    have hzi:(c x).cells.zipIdx.toList=(c x).cells.toList.zipIdx 0:=by simp
    rw [←Array.foldl_toList,hzi]
    rw [Nat.add_zero,show (c x).cells.toList.length=k by rw [Array.length_toList];omega] at hz
    have h5:=hv.set hl.2 hl.1 k1
    rw [←hz] at h5
    have h6: ∀u∈((c x).cells.toList.zipIdx.foldl (fun cs (p:Value×Nat)=>cs.setIfInBounds (f*k+p.2) p.1) cells).toList,u.oneCell'=true:=by
     rw [hz]
     intro u hu
     simp only [List.mem_append] at hu
     rcases hu with (hu|hu)|hu
     ·exact h1 u (List.mem_of_mem_take hu)
     ·exact k2 u hu
     ·exact h1 u (List.mem_of_mem_drop hu)
    obtain ⟨cells',r1,r2,r3,r4⟩:=P2 s parts _ _ r h5 h6 (fun p hp'=>hc p (by simp [hp'])) ho.2 hr
    exact ⟨cells',r1,r2,r3,by rw [r4];simp⟩
   ·cases hr
  ·cases hr
theorem Un {w0 w:World} {μ:Mu} {k:Nat} {els:List AV} {cs:Array Value} (hr:Dk w μ k els cs.toList) (h1: ∀u∈cs.toList,u.oneCell'=true):
  ∀(j:Nat) (x:AV),els[j]? =some x→x.cells.length=k∧ ∀(i:Nat) (y:AV),x.cells[i]? =some y→ ∃u,cs[j*k+i]? =some u∧VR w μ y u∧u.oneCell'=true:=by
 intro j x hx
 obtain ⟨q1,q2⟩:=hr.get h1 j x hx
 refine ⟨q1,fun i y hy=> ?_⟩
 obtain ⟨u,u1,u2⟩:=q2 i y hy
 exact ⟨u,by simpa using u1,u2⟩
theorem Q0 {ρ:E3} {h:A7} {o:Oper} {t e:TypeId} {len:Nat} {parts:Array (Nat×Operand)} (ho:o.op= .buildSlice t len parts) (he:En T t=some e) {i:TI} (ht:AJ T e=some i)
  (hl:i.zero.cells.length=i.size) (h0:i.size≠0) (hm:len*i.size≤4096) {els:List AV} {kn:Nat} (hf:Jt T i.size kn ρ (List.replicate len i.zero) parts.toList=some els)
  (ha:parts.toList.all (fun p=>match ρ kn p.2 with|some y=>EP h y|none=>false)=true):Nl P o ρ h (.own h.next 0 len) (h.new ⟨e,i.size,els⟩):=by
 intro w0 μ w c s hfr hc
 rw [ho] at hc
 obtain ⟨z,z1,z2,z3,z4,z5⟩:=KV (w:=w) (μ:=μ) hT ht hl
 have hk:0<i.size:=by omega
 have hmade:=J9 hk z3 hl len
 have hone:=K5 (n:=len*i.size) z5 (by omega)
 obtain ⟨cells',k1,k2,k3,k4⟩:=P2 hT s parts.toList _ _ els hmade hone (fun p hp' k y hy=>hc p.2 (by
  simp only [Op.operands,List.mem_toArray,List.mem_map]
  exact ⟨p,hp',rfl⟩) k y hy) ha hf
 have hlen:els.length=len:=by rw [k4];simp
 obtain ⟨μ',g,hmu⟩:=Pp hT s (hfr h.next (Nat.le_refl _) (Nat.lt_succ_self _)) (o:=⟨e,i.size,els⟩) (cs:=cells') (cap:=len) hk (by show els.length≤len;omega) (by
  have:len≤len*i.size:=Nat.le_mul_of_pos_right _ hk
  unfold maxLen;omega) (by have:=k2.1;rw [Array.length_toList,hlen] at this;exact this) (Un (w0:=w0) hT k2 k3)
 refine ⟨.slice (some ⟨w.heap.size,0,none⟩) len len,_,μ',?_,?_,g⟩
 ·unfold execOp;rw [ho]
  refine Fm ?_
  have hn: ¬(len*i.size>2^24):=by omega
  have hsz:=GZ hT ht w
  have hpl:(Array.map (fun x:Nat×Operand=>match x with|(i,x)=>(i,c x)) parts).toList=parts.toList.map fun p=>(p.1,c p.2):=by simp
  unfold Instr.buildSlice
  by_cases h00:len*i.size=0
  ·have hmc:(Array.range (len*i.size)).map ((#[]:Array Value)[· % (#[]:Array Value).size]!)=madeCells z.cells (len*i.size):=by
     rw [h00];simp [madeCells]
   simp only [Sem.run_bind,run_underlying (CW hT he),Result.andThen_ok,hsz]
   rw [if_neg hn,if_pos h00]
   simp only [Sem.run_bind,Sem.run_pure,Result.andThen_ok,hmc,hpl,k1,newRow,run_newObj,World.alloc]
  ·simp only [Sem.run_bind,run_underlying (CW hT he),Result.andThen_ok,hsz]
   rw [if_neg hn,if_neg h00]
   have hmc:(Array.range (len*i.size)).map (z.cells[· % z.cells.size]!)=madeCells z.cells (len*i.size):=rfl
   simp only [Sem.run_bind,Sem.run_pure,z1,Result.andThen_ok,hmc,hpl,k1,newRow,run_newObj,World.alloc]
 ·simp only [VR,hmu]
  exact ⟨_,len,rfl,Nat.le_refl _,by simp,rfl,fun _=>by simp⟩
theorem RP {ρ:E3} {h:A7} {o:Oper} {t e:TypeId} {l c:Operand} (ho:o.op= .makeSlice t l c) (he:En T t=some e) {kl kc:IntKind} {m n:Int} (hl:ρ 0 l=some (.i kl m)) (hc:ρ 0 c=some (.i kc n))
  {i:TI} (ht:AJ T e=some i) (hz:i.zero.cells.length=i.size) (h0:i.size≠0) (h1:0≤m) (h2:m≤n) (h3:n*i.bytes≤140737488355328) (h4:n≤140737488355328):
  Nl P o ρ h (.own h.next 0 m.toNat) (h.new ⟨e,i.size,List.replicate n.toNat i.zero⟩):=by
 intro w0 μ w cc s hfr hx
 rw [ho] at hx
 have e1:=Mi hT (hx l (by simp [Op.operands]) _ _ hl)
 have e2:=Mi hT (hx c (by simp [Op.operands]) _ _ hc)
 obtain ⟨f,z',i1,i2,i3,i4,i5,i6,i7⟩:=Hr hT ht
 obtain ⟨z,z1,z2,z3,z4,z5⟩:=KV (w:=w) (μ:=μ) hT ht hz
 have hzz:z'=z:=by
  have:(zeroValue e).run P w= .ok z' w:=by simp [zeroValue,typeInfo,i1,i4]
  rw [this] at z1;injection z1
 subst hzz
 have hk:0<i.size:=by omega
 have hmade:=J9 hk z3 hz n.toNat
 have hone:=K5 (n:=n.toNat*i.size) z5 (by omega)
 obtain ⟨μ',g,hmu⟩:=Pp hT s (hfr h.next (Nat.le_refl _) (Nat.lt_succ_self _)) (o:=⟨e,i.size,List.replicate n.toNat i.zero⟩) (cs:=madeCells z'.cells (n.toNat*i.size)) (cap:=n.toNat) hk (by simp) (by unfold maxLen;omega) (by simp [madeCells]) (Un (w0:=w0) hT hmade hone)
 refine ⟨.slice (some ⟨w.heap.size,0,none⟩) m.toNat n.toNat,_,μ',?_,?_,g⟩
 ·unfold execOp;rw [ho]
  refine Fm ?_
  simp only [e1,e2]
  have:=run_make (P:=P) w t e f z' (CW hT he) i1 i4 kl kc m n h1 h2 (by rw [i3,Int.mul_comm];omega) (by omega)
  rw [i2] at this
  exact this
 ·simp only [VR,hmu]
  exact ⟨_,n.toNat,rfl,by omega,by simp,rfl,fun _=>by simp⟩
theorem W5 {ρ:E3} {h:A7} {o:Oper} {s d:TypeId} {x:Operand} (ho:o.op= .convert s d x) {e:TypeId} (h1:Ci T s= .slice e) (h2:Ci T d= .str) {id off len:Nat} (hx:ρ 0 x=some (.own id off len)) {ob:Obj} (hg:h.get id=some ob)
  (he:Ci T e= .int .u8) (hk:ob.k=1) (hl:off+len≤ob.els.length) (hL:len≤Gb) {ns:List Int} (hb:Ns ((ob.els.drop off).take len)=some ns):Nl P o ρ h (.s (Kh ns)) h:=
 Mg fun w0 μ w c sim hc=>by
  rw [ho] at hc
  have hv:=hc x (by simp [Op.operands]) _ _ hx
  obtain ⟨sl,a,cp,hm,B,hcx,q1,q2,q3,q4⟩:=Jb hT sim hg hv
  obtain ⟨cs,c1,c2,c3⟩:=B.blk
  obtain ⟨b1,b2⟩:=OQ hb
  have hlen:ns.length=len:=by rw [b1];simp only [List.length_take,List.length_drop];omega
  have hcell: ∀j u,(ns.map (Value.int .u8))[j]? =some u→w.cell? (a.add j)=some u:=by
   intro j u hj
   rw [List.getElem?_map] at hj
   obtain ⟨n,hn,rfl⟩:=Option.map_eq_some_iff.1 hj
   have hjl:j<len:=by have:=(List.getElem?_eq_some_iff.1 hn).1;omega
   have hy:=b2 j n hn
   rw [List.getElem?_take,if_pos hjl,List.getElem?_drop] at hy
   obtain ⟨r1,r2⟩:=c3 (off+j) _ hy
   obtain ⟨u,u1,u2,_⟩:=r2 0 (.i .u8 n) rfl
   have:=Mi hT u2;subst this
   rw [q4 (by omega),Er,B.k,hk]
   rw [hk] at u1
   simp only [World.cell?,c1,Option.isSome_none,Bool.false_eq_true,if_false]
   simpa using u1
  have hld:=LC (P:=P) (ns.map (Value.int .u8)) hcell
  rw [List.length_map,hlen] at hld
  refine ⟨.string (Kh ns),?_,?_⟩
  ·unfold execOp;rw [ho]
   refine Fm ?_
   rw [hcx]
   have hu1:=run_underlying (P:=P) (KK hT h1)
   have hu2:=run_underlying (P:=P) (Kj hT h2)
   have hu3:=run_underlying (P:=P) (ML hT he)
   simp [convert,hu1,hu2,hu3,run_bytesToString w a len cp ns hld]
   rfl
  ·simp only [VR,CR]
   refine ⟨trivial,?_⟩
   unfold Kh
   rw [JX,hlen]
   have:ByteArray.empty.size=0:=rfl
   omega
theorem nop_ok {ρ:E3} {h h':A7} {o:Oper} {r:AV} (hq:VH T ρ h o=some (r,h')):Nl P o ρ h r h':=by
 unfold VH at hq
 split at hq
 ·rename_i t parts ho
  split at hq
  ·rename_i sz bt zs gs ht
   split at hq
   ·rename_i hg
    split at hq
    ·rename_i cs hf
     split at hq
     ·rename_i ha
      cases hq
      exact W1 hT ho ht hg hf ha
     ·cases hq
    ·cases hq
   ·cases hq
  ·cases hq
 ·rename_i e x ho
  split at hq
  ·rename_i i y ht hy
   split at hq
   ·rename_i hh
    cases hq
    exact box_ok hT ho ht hy hh.1 hh.2.1 hh.2.2
   ·cases hq
  ·cases hq
 ·rename_i e ho
  split at hq
  ·rename_i i ht
   split at hq
   ·rename_i hh
    cases hq
    exact VX hT ho ht hh.1 hh.2
   ·cases hq
  ·cases hq
 ·rename_i t len parts ho
  split at hq
  ·rename_i e he
   split at hq
   ·rename_i i ht
    split at hq
    ·rename_i hh
     split at hq
     ·rename_i els hf
      split at hq
      ·rename_i ha
       cases hq
       exact Q0 hT ho he ht hh.1 hh.2.1 hh.2.2 hf ha
      ·cases hq
     ·cases hq
    ·cases hq
   ·cases hq
  ·cases hq
 ·rename_i t l c ho
  split at hq
  ·rename_i e kl m kc n he hl hc
   split at hq
   ·rename_i i ht
    split at hq
    ·rename_i hh
     cases hq
     exact RP hT ho he hl hc ht hh.1 hh.2.1 hh.2.2.1 hh.2.2.2.1 hh.2.2.2.2.1 hh.2.2.2.2.2
    ·cases hq
   ·cases hq
  ·cases hq
 ·rename_i sr d x ho
  split at hq
  ·rename_i e id off len h1 h2 hx
   split at hq
   ·rename_i ob hg
    split at hq
    ·rename_i hh
     split at hq
     ·rename_i ns hb
      cases hq
      exact W5 hT ho h1 h2 hx hg hh.1 hh.2.1 hh.2.2.1 hh.2.2.2 hb
     ·cases hq
    ·cases hq
   ·cases hq
  ·cases hq
 ·cases hq
end
end
end Go.Lift
namespace Go.Lift
noncomputable section
open Go Go.RowKit
structure Mh (w0:World) (μ:Mu) (w:World) (h:A7) (μ':Mu) (w':World) (h':A7):Prop where
 sim:FM w0 μ' w' h'
 ext:ID w μ w' μ'
 next:h.next≤h'.next
 dom: ∀id,μ id=none→μ' id≠none→h.next≤id∧id<h'.next
 y:μ'.Y=μ.Y
theorem OH.step {B:HD} {w0 μ w h μ' w' h'} (s:OH B μ w) (k:Mh w0 μ w h μ' w' h') (hn:B.N≤h.next):OH B μ' w' where
 ext:=s.ext.trans k.ext
 y:=k.y.trans s.y
 dom:=fun id hi h0=>by
  cases e:μ' id with
  |none=>rfl
  |some t=>have:=k.dom id (s.dom id hi h0) (by rw [e];simp);omega
 top:=s.top
theorem Hw.step {w0 μ w h μ' w' h'} (k:Hw w0 μ w h μ' w' h'):Mh w0 μ w h μ' w' h':=
 ⟨k.sim,k.ext,k.next,fun id h1 h2=>by
   cases e:μ' id with
   |none=>exact absurd e h2
   |some s=>rcases k.dom id s e with h3|⟨h3,h4,_⟩
            ·rw [h1] at h3;cases h3
            ·exact ⟨h3,h4⟩,k.y⟩
theorem Mh.trans {w0 μ w h μ1 w1 h1 μ2 w2 h2} (a:Mh w0 μ w h μ1 w1 h1) (b:Mh w0 μ1 w1 h1 μ2 w2 h2):Mh w0 μ w h μ2 w2 h2:=
 ⟨b.sim,a.ext.trans b.ext,Nat.le_trans a.next b.next,fun id p q=>by
   by_cases e:μ1 id=none
   ·have:=b.dom id e q;have:=a.next;omega
   ·have:=a.dom id p e;have:=b.next;omega,b.y.trans a.y⟩
structure Turned (w w':World) (g:Nat):Prop where
 os:w'.os=w.os
 tape:w'.tape=w.tape
 output:w'.output=w.output
 size:w'.heap.size=w.heap.size
 other: ∀k,k≠g→w'.heap[k]? =w.heap[k]?
theorem Turned.setRow (w:World) (g:Nat) (cs:Array Value):Turned w (w.setRow g cs) g:=
 ⟨rfl,rfl,rfl,setRow_size w g cs,fun k hk=>setRow_other w g k cs hk⟩
theorem Turned.below {w0 w w':World} {g:Nat} (t:Turned w w' g) (h:Below w0.heap.size w0 w) (hg:w0.heap.size≤g):Below w0.heap.size w0 w':=
 ⟨t.os.trans h.os,t.tape.trans h.tape,t.output.trans h.output,by rw [t.size];exact h.size,fun k hk=>by rw [t.other k (by omega)];exact h.block k hk⟩
theorem PH {w0 w w':World} {μ:Mu} {h:A7} (s:FM w0 μ w h) {id:Nat} {ob ob':Obj} {sl:MF} (hob:h.get id=some ob) (hm:μ id=some (some sl)) (t:Turned w w' sl.g)
  (he:ob'.e=ob.e) (hk:ob'.k=ob.k) (hl:ob'.els.length≤sl.cap) {cs:Array Value} (hc:w'.heap[sl.g]? =some (.cells cs ob.e (0,0))) (hs:cs.size=sl.cap*ob.k)
  (hv: ∀(j:Nat) (x:AV),ob'.els[j]? =some x→x.cells.length=ob.k∧ ∀(i:Nat) (y:AV),x.cells[i]? =some y→ ∃u,cs[j*ob.k+i]? =some u∧VR w μ y u∧u.oneCell'=true):
  Mh w0 μ w h μ w' (h.put id (some ob')):=by
 have B:=s.blk id ob sl hob hm
 have hlt:=s.lt id sl hm
 have e:ID w μ w' μ:=ID.of (fun g hg hn=>t.other g (fun e=>hn (Or.inr ⟨id,sl,hm,e.symm⟩))) (fun _ _ h=>Or.inl h) (fun g hg=>Or.inl hg)
 refine ⟨⟨t.below s.below hlt.1,fun i q hq=> ?_,s.inj,fun i p hp=> ?_,s.ylt,fun i p q hp hq=> ?_⟩,e,Nat.le_refl _,fun i p q=>absurd p q,rfl⟩
 ·rw [t.size];exact s.lt i q hq
 ·rw [A7.get_put _ _ _ _ (Or.inl (H5 hob))] at hp
  split at hp
  ·rename_i hi;subst hi;rw [hm];simp
  ·exact s.live i p hp
 ·rw [A7.get_put _ _ _ _ (Or.inl (H5 hob))] at hp
  split at hp
  ·rename_i hi;subst hi;cases hp
   rw [hm] at hq;cases hq
   refine ⟨B.k.trans hk.symm,by rw [hk];exact B.pos,hl,B.cap,cs,by rw [he];exact hc,by rw [hk];exact hs,fun j x hx=> ?_⟩
   obtain ⟨q1,q2⟩:=hv j x hx
   rw [hk]
   exact ⟨q1,fun i y hy=>let ⟨u,u1,u2,u3⟩:=q2 i y hy;⟨u,u1,IQ e y u u2,u3⟩⟩
  ·rename_i hi
   exact (s.blk i p q hp hq).mono e (t.other _ (fun e=>hi (s.inj i id q sl hq hm e)))
def Mu.move (μ:Mu) (id id':Nat) (s:MF):Mu:=⟨fun i=>if i=id' then some (some s) else if i=id then some none else μ i,μ.Y⟩
theorem VA {w0 w w':World} {μ:Mu} {h:A7} (s:FM w0 μ w h) (hf:μ h.next=none) {id:Nat} {ob ob':Obj} {sl:MF} (hob:h.get id=some ob) (hm:μ id=some (some sl)) (t:Turned w w' sl.g)
  (he:ob'.e=ob.e) (hk:ob'.k=ob.k) (hl:ob'.els.length≤sl.cap) {cs:Array Value} (hc:w'.heap[sl.g]? =some (.cells cs ob.e (0,0))) (hs:cs.size=sl.cap*ob.k)
  (hv: ∀(j:Nat) (x:AV),ob'.els[j]? =some x→x.cells.length=ob.k∧ ∀(i:Nat) (y:AV),x.cells[i]? =some y→ ∃u,cs[j*ob.k+i]? =some u∧VR w μ y u∧u.oneCell'=true):
  Mh w0 μ w h (μ.move id h.next sl) w' ((h.put id none).new ob'):=by
 have B:=s.blk id ob sl hob hm
 have hlt:=s.lt id sl hm
 have hne:id≠h.next:=by intro e;rw [e,hf] at hm;cases hm
 have e:ID w μ w' (μ.move id h.next sl):=by
  refine ID.of (fun g hg hn=>t.other g (fun e=>hn (Or.inr ⟨id,sl,hm,e.symm⟩))) (fun i q hq=> ?_) ?_
  ·dsimp only [Mu.move]
   split
   ·rename_i hi;subst hi;rw [hf] at hq;cases hq
   ·split
    ·exact Or.inr rfl
    ·exact Or.inl hq
  ·rintro g (hy|⟨i,q,hq,rfl⟩)
   ·exact Or.inl (Or.inl hy)
   dsimp only [Mu.move] at hq
   split at hq
   ·cases hq;exact Or.inl (Or.inr ⟨id,sl,hm,rfl⟩)
   ·split at hq
    ·cases hq
    ·exact Or.inl (Or.inr ⟨i,q,hq,rfl⟩)
 refine ⟨⟨t.below s.below hlt.1,fun i q hq=> ?_,fun i i' q q' hq hq' hg=> ?_,fun i p hp=> ?_,s.ylt,fun i p q hp hq=> ?_⟩,e,Nat.le_succ _,fun i p q=> ?_,rfl⟩
 ·rw [t.size]
  dsimp only [Mu.move] at hq
  split at hq
  ·cases hq;exact hlt
  ·split at hq
   ·cases hq
   ·exact s.lt i q hq
 ·dsimp only [Mu.move] at hq hq'
  split at hq<;>split at hq'
  ·simp_all
  ·cases hq
   split at hq'
   ·cases hq'
   ·rename_i h1 h2;exact absurd (s.inj i' id q' sl hq' hm hg.symm) h2
  ·cases hq'
   split at hq
   ·cases hq
   ·rename_i h1 h2;exact absurd (s.inj i id q sl hq hm hg) (by assumption)
  ·split at hq
   ·cases hq
   ·split at hq'
    ·cases hq'
    ·exact s.inj i i' q q' hq hq' hg
 ·rw [Gt,A7.get_put _ _ _ _ (Or.inr rfl)] at hp
  dsimp only [Mu.move]
  have:(h.put id none).next=h.next:=rfl
  rw [this] at hp
  split
  ·simp
  ·rename_i hi
   rw [if_neg hi] at hp
   split at hp
   ·cases hp
   ·rename_i hi2;rw [if_neg hi2];exact s.live i p hp
 ·rw [Gt,A7.get_put _ _ _ _ (Or.inr rfl)] at hp
  have hnx:(h.put id none).next=h.next:=rfl
  rw [hnx] at hp
  dsimp only [Mu.move] at hq
  split at hq
  ·rename_i hi
   rw [if_pos hi] at hp;cases hp;cases hq
   refine ⟨B.k.trans hk.symm,by rw [hk];exact B.pos,hl,B.cap,cs,by rw [he];exact hc,by rw [hk];exact hs,fun j x hx=> ?_⟩
   obtain ⟨q1,q2⟩:=hv j x hx
   rw [hk]
   exact ⟨q1,fun i y hy=>let ⟨u,u1,u2,u3⟩:=q2 i y hy;⟨u,u1,IQ e y u u2,u3⟩⟩
  ·rename_i hi
   rw [if_neg hi] at hp
   split at hq
   ·cases hq
   ·rename_i hi2
    rw [if_neg hi2] at hp
    exact (s.blk i p q hp hq).mono e (t.other _ (fun e=>hi2 (s.inj i id q sl hq hm e)))
 ·dsimp only [Mu.move] at q
  split at q
  ·rename_i hi;subst hi;exact ⟨Nat.le_refl _,Nat.lt_succ_self _⟩
  ·split at q
   ·rename_i hi;subst hi;rw [hm] at p;cases p
   ·exact absurd p q
def Mu.kill (μ:Mu) (id:Nat):Mu:=⟨fun i=>if i=id then some none else μ i,μ.Y⟩
theorem Vz {w0 w:World} {μ:Mu} {h:A7} (s:FM w0 μ w h) {id:Nat} {sl:MF} (hm:μ id=some (some sl)):Mh w0 μ w h (μ.kill id) w (h.put id none):=by
 have e:ID w μ w (μ.kill id):=by
  refine ID.of (fun g hg hn=>rfl) (fun i q hq=> ?_) ?_
  ·dsimp only [Mu.kill];split
   ·exact Or.inr rfl
   ·exact Or.inl hq
  ·rintro g (hy|⟨i,q,hq,rfl⟩)
   ·exact Or.inl (Or.inl hy)
   dsimp only [Mu.kill] at hq
   split at hq
   ·cases hq
   ·exact Or.inl (Or.inr ⟨i,q,hq,rfl⟩)
 refine ⟨⟨s.below,fun i q hq=> ?_,fun i i' q q' hq hq' hg=> ?_,fun i p hp=> ?_,s.ylt,fun i p q hp hq=> ?_⟩,e,Nat.le_refl _,fun i p q=> ?_,rfl⟩
 ·dsimp only [Mu.kill] at hq;split at hq
  ·cases hq
  ·exact s.lt i q hq
 ·dsimp only [Mu.kill] at hq hq'
  split at hq
  ·cases hq
  ·split at hq'
   ·cases hq'
   ·exact s.inj i i' q q' hq hq' hg
 ·rw [A7.get_put _ _ _ _ (Or.inr rfl)] at hp
  dsimp only [Mu.kill]
  split at hp
  ·cases hp
  ·rename_i hi;rw [if_neg hi];exact s.live i p hp
 ·rw [A7.get_put _ _ _ _ (Or.inr rfl)] at hp
  dsimp only [Mu.kill] at hq
  split at hq
  ·cases hq
  ·rename_i hi;rw [if_neg hi] at hp
   exact (s.blk i p q hp hq).mono e rfl
 ·dsimp only [Mu.kill] at q
  split at q
  ·rename_i hi;subst hi;rw [hm] at p;cases p
  ·exact absurd p q
end
end Go.Lift
namespace Go.Lift
noncomputable section
open Go Go.RowKit
def Kk (h:A7):AV→Option (Nat×List AV)
 | .sl k _ xs=>some (k,xs)
 | .own id off len=>match h.get id with
   |some ob=>if off+len≤ob.els.length then some (ob.k,(ob.els.drop off).take len) else none
   |none=>none
 |_=>none
def I8:AV→AV→Bool
 | .st _,_=>true
 |_,.st _=>false
 |_,_=>true
theorem UU {x y:AV} (h:I8 x y=true) {o n:Nat} (hy:y.cells.length=n) (ho:o+n≤x.cells.length):
  (x.withCells (x.cells.take o++y.cells++x.cells.drop (o+n))).cells=x.cells.take o++y.cells++x.cells.drop (o+n):=by
 by_cases hx: ∃fs,x= .st fs
 ·obtain ⟨fs,rfl⟩:=hx;rfl
 ·have hc:x.cells=[x]:=by cases x<;>first|rfl|exact absurd ⟨_,rfl⟩ hx
  have hyc:y.cells=[y]:=by
   cases y<;>first|rfl|(cases x<;>first|exact absurd ⟨_,rfl⟩ hx|simp [I8] at h)
  rw [hyc] at hy
  simp at hy
  subst hy
  rw [hc] at ho ⊢
  simp at ho
  subst ho
  rw [hyc]
  have e:([x].take 0++[y]++[x].drop (0+1))=[y]:=rfl
  rw [e]
  have:x.withCells [y]=y:=by cases x<;>first|rfl|exact absurd ⟨_,rfl⟩ hx
  rw [this,hyc]
def Nv (T:Ep) (ρ:E3) (h:A7) (o:Oper):Option (AV×A7):=
 match o.op with
 | .store t a v=>match ρ 0 a,ρ (Kb T t) v,AJ T t with
   |some (.loc id j of),some y,some i=>match h.get id with
    |some ob=>match ob.els[j]? with
     |some x=>if y.cells.length=i.size∧of+i.size≤x.cells.length∧EP h y∧I8 x y=true then
      some (.und,h.put id (some ⟨ob.e,ob.k,ob.els.set j (x.withCells (x.cells.take of++y.cells++x.cells.drop (of+i.size)))⟩)) else none
     |none=>none
    |none=>none
   |_,_,_=>none
 | .call c=>match c.callee,c.args.toList,c.argTypes.toList with
   | .builtin .append,[s,x],[t,t']=>if t≠t' then (match En T t,Ci T t',ρ (Kb T t) s,ρ 0 x with
     |some e,.int kn,some (.sl _ true []),some (.i _ n)=>match AJ T e with
      |some i=>if 0<n∧n*i.bytes≤140737488355328∧n≤Gb∧i.size≠0∧i.zero.cells.length=i.size then
       some (.own h.next 0 n.toNat,h.new ⟨e,i.size,List.replicate n.toNat i.zero⟩) else none
      |none=>none
     |_,_,_,_=>none) else match En T t with
     |some e=>match AJ T e,ρ (Kb T t) s,(ρ (Kb T t) x).bind (Kk h) with
      |some i,some (.sl _ true []),some (k,ys)=>if k=i.size∧i.size≠0∧i.zero.cells.length=i.size∧ys.length*i.bytes≤140737488355328∧ys.length≤Gb then
       (match ys with
       | []=>some (.sl i.size true [],h)
       |y::ys=>some (.own h.next 0 (ys.length+1),h.new ⟨e,i.size,y::ys⟩)) else none
      |some i,some (.own id 0 len),some (k,ys)=>match h.get id with
       |some ob=>if k=i.size∧i.size≠0∧ob.e=e∧ob.k=i.size∧len≤ob.els.length∧i.zero.cells.length=i.size∧(len+ys.length)*i.bytes≤140737488355328∧len+ys.length≤Gb then
        some (.own h.next 0 (len+ys.length),(h.put id none).new ⟨e,i.size,ob.els.take len++ys⟩) else none
       |none=>none
      |_,_,_=>none
     |none=>none
   |_,_,_=>none
 |_=>none
def Sl (P:Program) (o:Oper) (ρ:E3) (h:A7) (r:AV) (h':A7):Prop:=
 ∀w0 μ w (c:Operand→Value),FM w0 μ w h→(∀id,h.next≤id→μ id=none)→
  (∀x∈o.op.operands,∀k y,ρ k x=some y→VR w μ y (c x))→
  ∃v w' μ',((execOp c o).run P w= .ok (.value v) w'∨((execOp c o).run P w= .ok .skip w'∧v=undef))∧VR w' μ' r v∧Mh w0 μ w h μ' w' h'
theorem Dk.append {w:World} {μ:Mu} {k:Nat} {xs ys:List AV} {cs ds:List Value} (h:Dk w μ k xs cs) (g:Dk w μ k ys ds):Dk w μ k (xs++ys) (cs++ds):=by
 have h1:=h.1
 have g1:=g.1
 refine ⟨by simp [h1,g1,Nat.add_mul],fun j x hx=> ?_⟩
 rw [List.getElem?_append] at hx
 split at hx
 ·rename_i hj
  obtain ⟨q1,q2⟩:=h.2 j x hx
  refine ⟨q1,?_⟩
  have:j*k+k≤xs.length*k:=by
   have:=Nat.mul_le_mul_right k (Nat.succ_le_of_lt hj)
   rw [Nat.succ_mul] at this;exact this
  rw [List.drop_append_of_le_length (by omega),List.take_append_of_le_length (by simp;omega)]
  exact q2
 ·rename_i hj
  obtain ⟨q1,q2⟩:=g.2 _ x hx
  refine ⟨q1,?_⟩
  have e:j*k=cs.length+(j-xs.length)*k:=by
   rw [h1,←Nat.add_mul];congr 1;omega
  rw [e,←List.drop_drop,List.drop_left]
  exact q2
theorem Dk.take {w:World} {μ:Mu} {k:Nat} {xs:List AV} {cs:List Value} (h:Dk w μ k xs cs) {n:Nat} (hn:n≤xs.length):Dk w μ k (xs.take n) (cs.take (n*k)):=by
 have hl:n*k≤xs.length*k:=Nat.mul_le_mul_right k hn
 have h1:=h.1
 refine ⟨by simp only [List.length_take];rw [Nat.min_eq_left (by omega),Nat.min_eq_left hn],fun j x hx=> ?_⟩
 rw [List.getElem?_take] at hx
 split at hx
 ·rename_i hj
  obtain ⟨q1,q2⟩:=h.2 j x hx
  refine ⟨q1,?_⟩
  have:j*k+k≤n*k:=by
   have:=Nat.mul_le_mul_right k (Nat.succ_le_of_lt hj)
   rw [Nat.succ_mul] at this;exact this
  have e:((cs.take (n*k)).drop (j*k)).take k=(cs.drop (j*k)).take k:=by
   rw [List.drop_take,List.take_take,Nat.min_eq_left (by omega)]
  rw [e];exact q2
 ·cases hx
theorem Dk.drop {w:World} {μ:Mu} {k:Nat} {xs:List AV} {cs:List Value} (h:Dk w μ k xs cs) (n:Nat):Dk w μ k (xs.drop n) (cs.drop (n*k)):=by
 have h1:=h.1
 refine ⟨by simp only [List.length_drop];rw [h1,←Nat.sub_mul],fun j x hx=> ?_⟩
 rw [List.getElem?_drop] at hx
 obtain ⟨q1,q2⟩:=h.2 _ x hx
 refine ⟨q1,?_⟩
 rw [List.drop_drop,←Nat.add_mul];exact q2
theorem Dk.mono {w w':World} {μ μ':Mu} {k:Nat} {xs:List AV} {cs:List Value} (h:Dk w μ k xs cs) (e:ID w μ w' μ'):Dk w' μ' k xs cs:=
 ⟨h.1,fun j x hx=>let ⟨q1,q2⟩:=h.2 j x hx;⟨q1,Lb e _ _ q2⟩⟩
theorem QV {w:World} {μ:Mu} {k:Nat}: ∀ {xs:List AV} {a:Addr},BR w μ k xs a→
  ∃news:List Value,Dk w μ k xs news∧(∀j u,news[j]? =some u→w.cell? (a.add j)=some u)∧(∀u∈news,u.oneCell'=true)
 | [],a,_=>⟨[],⟨by simp,fun j x hx=>by simp at hx⟩,fun j u hu=>by simp at hu,fun u hu=>by simp at hu⟩
 |x::xs,a,h=>by
  rw [Jq] at h
  obtain ⟨h1,h2,h3⟩:=h
  obtain ⟨news,n1,n2,n3⟩:=QV h3
  have: ∀ {cs:List AV} {a:Addr},BL w μ cs a→ ∃vs:List Value,D2 w μ cs vs∧(∀j u,vs[j]? =some u→w.cell? (a.add j)=some u)∧(∀u∈vs,u.oneCell'=true):=by
   intro cs
   induction cs with
   |nil=>exact fun _=>⟨[],by simp [D2],fun j u hu=>by simp at hu,fun u hu=>by simp at hu⟩
   |cons y cs ih=>
    intro a hc
    simp only [BL] at hc
    obtain ⟨⟨u,⟨u1,_,u2⟩,u3⟩,hc⟩:=hc
    obtain ⟨vs,v1,v2,v3⟩:=ih hc
    refine ⟨u::vs,by simp only [D2];exact ⟨u,vs,rfl,Eb _ _ u3,v1⟩,fun j q hq=> ?_,fun q hq=> ?_⟩
    ·cases j with
     |zero=>simp at hq;subst hq;rw [add_zero];exact u1
     |succ j=>
      simp at hq
      have:=v2 j q hq
      rwa [H6,Nat.add_comm] at this
    ·rcases List.mem_cons.1 hq with rfl|hq
     ·exact u2
     ·exact v3 q hq
  obtain ⟨vs,v1,v2,v3⟩:=this h2
  have hvl:vs.length=k:=by rw [Dm v1,h1]
  have r1:Dk w μ k [x] vs:=⟨by simp [hvl],fun j y hy=>by
   cases j with
   |succ j=>simp at hy
   |zero=>simp at hy;subst hy;refine ⟨h1,?_⟩;simp only [Nat.zero_mul,List.drop_zero];rw [List.take_of_length_le (by omega)];exact v1⟩
  refine ⟨vs++news,r1.append n1,fun j u hu=> ?_,fun u hu=> ?_⟩
  ·rw [List.getElem?_append] at hu
   split at hu
   ·exact v2 j u hu
   ·have:=n2 _ u hu
    rw [H6] at this
    rw [show k+(j-vs.length)=j by omega] at this
    exact this
  ·rcases List.mem_append.1 hu with hu|hu
   ·exact v3 u hu
   ·exact n3 u hu
section
variable {P:Program} {T:Ep} (hT:Dh P T=true)
include hT
theorem U7 {w0 w:World} {μ:Mu} {h:A7} (s:FM w0 μ w h) {x:AV} {k:Nat} {ys:List AV} (hx:Kk h x=some (k,ys)) {v:Value} (hv:VR w μ x v):
  (v= .slice none 0 0∧ys=[])∨ ∃a c news,v= .slice (some a) ys.length c∧Dk w μ k ys news∧(∀j u,news[j]? =some u→w.cell? (a.add j)=some u)∧(∀u∈news,u.oneCell'=true):=by
 cases x with
 |sl k' nl xs=>
  simp only [Kk,Option.some.injEq,Prod.mk.injEq] at hx
  obtain ⟨rfl,rfl⟩:=hx
  simp only [VR,CR] at hv
  rcases hv with ⟨rfl,rfl⟩|⟨_,a,c,rfl,_,_,hr⟩
  ·exact Or.inl ⟨rfl,rfl⟩
  ·obtain ⟨news,n1,n2,n3⟩:=QV hr
   exact Or.inr ⟨a,c,news,rfl,n1,n2,n3⟩
 |own id off len=>
  simp only [Kk] at hx
  split at hx
  ·rename_i ob hob
   split at hx
   ·rename_i hl
    simp only [Option.some.injEq,Prod.mk.injEq] at hx
    obtain ⟨rfl,rfl⟩:=hx
    obtain ⟨sl,A,C,hm,B,rfl,hC,hcap,hblk,hadr⟩:=Jb hT s hob hv
    have hlen:((ob.els.drop off).take len).length=len:=by simp;omega
    right
    obtain ⟨cs,c1,c2,c3⟩:=B.blk
    by_cases hz:0<C
    ·have hA:=hadr hz
     subst hA
     have hrows:Dk w μ ob.k ob.els (cs.toList.take (ob.els.length*ob.k)):=by
      have hle:ob.els.length*ob.k≤cs.size:=by rw [c2];exact Nat.mul_le_mul_right _ B.len
      refine ⟨by simp only [List.length_take,Array.length_toList];omega,fun j x hx=> ?_⟩
      obtain ⟨q1,q2⟩:=c3 j x hx
      refine ⟨q1,?_⟩
      have hj:j<ob.els.length:=(List.getElem?_eq_some_iff.1 hx).1
      have hjk:j*ob.k+ob.k≤ob.els.length*ob.k:=by
       have:=Nat.mul_le_mul_right ob.k (Nat.succ_le_of_lt hj)
       rw [Nat.succ_mul] at this;exact this
      refine GK (by simp only [List.length_take,List.length_drop,Array.length_toList];omega) fun i y v hy hv'=> ?_
      obtain ⟨u,u1,u2,_⟩:=q2 i y hy
      rw [List.getElem?_take] at hv'
      split at hv'
      ·rw [List.getElem?_drop,List.getElem?_take] at hv'
       split at hv'
       ·have:cs.toList[j*ob.k+i]? =some u:=by simpa using u1
        rw [this] at hv';cases hv';exact u2
       ·cases hv'
      ·cases hv'
     have hr2:=(hrows.drop off).take (n:=len) (by simp;omega)
     refine ⟨_,C,_,by rw [hlen],hr2,fun j u hu=> ?_,fun u hu=> ?_⟩
     ·rw [List.getElem?_take] at hu
      split at hu
      ·rw [List.getElem?_drop,List.getElem?_take] at hu
       split at hu
       ·rw [Er]
        simp only [World.cell?,c1,Option.isSome_none,Bool.false_eq_true,if_false]
        rw [B.k];simpa using hu
       ·cases hu
      ·cases hu
     ·have hu2:=List.mem_of_mem_take (List.mem_of_mem_drop (List.mem_of_mem_take hu))
      obtain ⟨p,hp1,hp2⟩:=List.getElem_of_mem (List.mem_of_mem_drop (List.mem_of_mem_take hu))
      have hp:p<ob.els.length*ob.k:=by simp only [List.length_take,Array.length_toList] at hp1;omega
      have hkp:=B.pos
      have hj:p /ob.k<ob.els.length:=(Nat.div_lt_iff_lt_mul hkp).2 hp
      obtain ⟨q1,q2⟩:=c3 (p /ob.k) ob.els[p /ob.k] (by simp [hj])
      have hi:p % ob.k<ob.els[p /ob.k].cells.length:=by rw [q1];exact Nat.mod_lt _ hkp
      obtain ⟨u',u1,_,u3⟩:=q2 (p % ob.k) (ob.els[p /ob.k].cells[p % ob.k]) (by simp [hi])
      rw [Nat.mul_comm,Nat.div_add_mod] at u1
      have:u'=u:=by
       rw [←hp2,List.getElem_take]
       have:=(Array.getElem?_eq_some_iff.1 u1).2
       simp only [Array.getElem_toList]
       exact this.symm
      rw [←this];exact u3
    ·have hl0:len=0:=by omega
     subst hl0
     refine ⟨A,C,[],by rw [hlen],⟨by simp,fun j x hx=>by simp at hx⟩,fun j u hu=>by simp at hu,fun u hu=>by simp at hu⟩
   ·cases hx
  ·cases hx
 |_=>simp [Kk] at hx
end
end
end Go.Lift
namespace Go.Lift
noncomputable section
open Go Go.RowKit
section
variable {P:Program} {T:Ep} (hT:Dh P T=true)
include hT
theorem idx_lt {j n k i:Nat} (hj:j<n) (hi:i<k):j*k+i<n*k:=by
 have:=Nat.mul_le_mul_right k (Nat.succ_le_of_lt hj)
 rw [Nat.succ_mul] at this;omega
theorem idx_row {j j' k i i':Nat} (hi:i<k) (hi':i'<k) (h:j*k+i=j'*k+i'):j=j'∧i=i':=by
 have h1:(j*k+i) /k=j:=by rw [Nat.mul_comm,Nat.mul_add_div (by omega),Nat.div_eq_of_lt hi,Nat.add_zero]
 have h2:(j'*k+i') /k=j':=by rw [Nat.mul_comm,Nat.mul_add_div (by omega),Nat.div_eq_of_lt hi',Nat.add_zero]
 have:j=j':=by rw [←h1,←h2,h]
 subst this
 exact ⟨rfl,by omega⟩
theorem X0 {ρ:E3} {h:A7} {o:Oper} {t:TypeId} {a v:Operand} (ho:o.op= .store t a v) {id j of:Nat} (ha:ρ 0 a=some (.loc id j of)) {y:AV} {k:Nat} (hy:ρ k v=some y) {i:TI} (ht:AJ T t=some i)
  {ob:Obj} (hob:h.get id=some ob) {x:AV} (hx:ob.els[j]? =some x) (h1:y.cells.length=i.size) (h2:of+i.size≤x.cells.length) (h3:EP h y=true) (h4:I8 x y=true):
  Sl P o ρ h .und (h.put id (some ⟨ob.e,ob.k,ob.els.set j (x.withCells (x.cells.take of++y.cells++x.cells.drop (of+i.size)))⟩)):=by
 intro w0 μ w c s hf hc
 rw [ho] at hc
 have hva:=hc a (by simp [Op.operands]) _ _ ha
 have hvy:=hc v (by simp [Op.operands]) _ _ hy
 obtain ⟨sl,hm,B,e⟩:=MQ hT s hob hva
 obtain ⟨k1,k2⟩:=MH hT s hvy h3
 have hn:=MG hT k1
 obtain ⟨cur,c1,c2,c3⟩:=B.blk
 have hj:j<ob.els.length:=(List.getElem?_eq_some_iff.1 hx).1
 obtain ⟨x1,x2⟩:=c3 j x hx
 have hjk:j*ob.k+ob.k≤sl.cap*ob.k:=by
  have:=Nat.mul_le_mul_right ob.k (Nat.succ_le_of_lt (Nat.lt_of_lt_of_le hj B.len))
  rw [Nat.succ_mul] at this;exact this
 have hrun:=run_storeCells_at P sl.g (j*sl.k+of) ob.e (c v).cells.toList 0 cur w c1 (by rw [B.k,Array.length_toList];omega) k2
 rw [Nat.add_zero,Array.length_toList,hn,h1,B.k] at hrun
 have hsz:=GZ hT ht w
 have hlen:(cur.toList.take (j*ob.k+of)++(c v).cells.toList++cur.toList.drop (j*ob.k+of+i.size)).length=cur.size:=by
  simp only [List.length_append,List.length_take,List.length_drop,Array.length_toList];omega
 have hst:=PH s hob hm (Turned.setRow w sl.g (cur.toList.take (j*ob.k+of)++(c v).cells.toList++cur.toList.drop (j*ob.k+of+i.size)).toArray)
  (ob':=⟨ob.e,ob.k,ob.els.set j (x.withCells (x.cells.take of++y.cells++x.cells.drop (of+i.size)))⟩) rfl rfl (by simp [B.len]) (setRow_heap w sl.g cur _ ob.e (0,0) c1) (by rw [List.size_toArray,hlen,c2]) (by
    intro j' x' hx'
    rw [List.getElem?_set] at hx'
    by_cases hjj:j=j'
    ·subst hjj
     rw [if_pos rfl,if_pos hj] at hx'
     injection hx' with hx'
     subst hx'
     rw [UU h4 h1 h2]
     refine ⟨by simp only [List.length_append,List.length_take,List.length_drop];omega,fun q z hz=> ?_⟩
     have hq:q<x.cells.length:=by
      have:=(List.getElem?_eq_some_iff.1 hz).1
      simp only [List.length_append,List.length_take,List.length_drop] at this;omega
     simp only [List.getElem?_toArray]
     rw [List.getElem?_append,List.getElem?_append] at hz ⊢
     simp only [List.length_append,List.length_take,List.getElem?_take,List.getElem?_drop,Array.length_toList] at hz ⊢
     rw [show min of x.cells.length=of by omega] at hz
     rw [show min (j*ob.k+of) cur.size=j*ob.k+of by omega,show (c v).cells.size=y.cells.length from hn]
     by_cases q1:q<of
     ·rw [if_pos (by omega),if_pos q1,if_pos q1] at hz
      rw [if_pos (by omega),if_pos (by omega),if_pos (by omega)]
      obtain ⟨u,u1,u2,u3⟩:=x2 q z hz
      exact ⟨u,by simpa using u1,u2,u3⟩
     ·by_cases q2:q<of+y.cells.length
      ·rw [if_pos (by omega),if_neg (by omega)] at hz
       rw [if_pos (by omega),if_neg (by omega)]
       obtain ⟨u,u1,u2⟩:=GC k1 _ _ hz
       refine ⟨u,by rw [←u1];congr 1;omega,u2,k2 u (List.mem_of_getElem? u1)⟩
      ·rw [if_neg (by omega)] at hz
       rw [if_neg (by omega)]
       obtain ⟨u,u1,u2,u3⟩:=x2 _ z hz
       refine ⟨u,?_,u2,u3⟩
       have:cur.toList[j*ob.k+(of+i.size+(q-(of+y.cells.length)))]? =some u:=by simpa using u1
       rw [←this];congr 1;omega
    ·rw [if_neg hjj] at hx'
     obtain ⟨q1,q2⟩:=c3 j' x' hx'
     refine ⟨q1,fun q z hz=> ?_⟩
     obtain ⟨u,u1,u2,u3⟩:=q2 q z hz
     refine ⟨u,?_,u2,u3⟩
     have hq:q<ob.k:=by rw [←q1];exact (List.getElem?_eq_some_iff.1 hz).1
     have hu:cur.toList[j'*ob.k+q]? =some u:=by simpa using u1
     have hlt:j'*ob.k+q<cur.size:=(Array.getElem?_eq_some_iff.1 u1).1
     simp only [List.getElem?_toArray]
     rw [List.getElem?_append,List.getElem?_append]
     simp only [List.length_append,List.length_take,List.getElem?_take,List.getElem?_drop,Array.length_toList]
     rw [show min (j*ob.k+of) cur.size=j*ob.k+of by omega,show (c v).cells.size=y.cells.length from hn]
     by_cases q1':j'*ob.k+q<j*ob.k+of
     ·rw [if_pos (by omega),if_pos q1',if_pos q1'];exact hu
     ·by_cases q2':j'*ob.k+q<j*ob.k+of+y.cells.length
      ·exfalso
       have:=idx_row hT (j:=j) (j':=j') (k:=ob.k) (i:=j'*ob.k+q-j*ob.k) (i':=q) (by omega) hq (by omega)
       exact hjj this.1
      ·rw [if_neg (by omega),←hu];congr 1;omega)
 refine ⟨undef,_,μ,Or.inr ⟨?_,rfl⟩,by simp only [VR],hst⟩
 unfold execOp;rw [ho]
 simp only [Instr.storeAt,e,Instr.sureAddr,storeVar,Sem.run_bind,Sem.run_pure,Result.andThen_ok,hsz]
 rw [if_neg (by rw [hn,h1];simp)]
 rw [B.k,hrun]
 rfl
end
end
end Go.Lift
namespace Go.Lift
noncomputable section
open Go Go.RowKit
theorem I7 {P:Program} {o:Oper} {c:Operand→Value} {cl:Call} {s x:Operand} {t t':TypeId} (ho:o.op= .call cl) (hc:cl.callee= .builtin .append) (ha:cl.args= #[s,x]) (ht:cl.argTypes= #[t,t'])
  {w w':World} {v:Value} (h:(Builtin.append_ #[t,t'] o.type #[c s,c x]).run P w= .ok v w'):(execOp c o).run P w= .ok (.value v) w':=by
 unfold execOp;rw [ho]
 simp [resolve,hc,ha,ht,invoke,builtin,h]
section
variable {P:Program} {T:Ep} (hT:Dh P T=true)
include hT
theorem JO {w:World} {μ:Mu} {k:Nat} {els:List AV} {cs more:List Value} (hr:Dk w μ k els cs) (h1: ∀u∈cs,u.oneCell'=true):
  ∀(j:Nat) (x:AV),els[j]? =some x→x.cells.length=k∧ ∀(i:Nat) (y:AV),x.cells[i]? =some y→ ∃u,(cs++more).toArray[j*k+i]? =some u∧VR w μ y u∧u.oneCell'=true:=by
 intro j x hx
 obtain ⟨q1,q2⟩:=hr.get h1 j x hx
 refine ⟨q1,fun i y hy=> ?_⟩
 obtain ⟨u,u1,u2⟩:=q2 i y hy
 refine ⟨u,?_,u2⟩
 simp only [List.getElem?_toArray]
 rw [List.getElem?_append_left (List.getElem?_eq_some_iff.1 u1).1];exact u1
theorem KN {w:World} {need old:Nat} {e:TypeId} (h:need≤maxLen):need≤grownCap w need old e∧grownCap w need old e≤maxLen:=
 ⟨grownCap_ge w need old e,grownCap_le_maxLen w need old e h⟩
theorem OY {w0 w:World} {μ:Mu} {h:A7} (s:FM w0 μ w h) (hf:μ h.next=none) {ob:Obj} {cs:Array Value} {cap:Nat}
  (hk:0<ob.k) (hl:ob.els.length≤cap) (hc:cap≤maxLen) (hs:cs.size=cap*ob.k)
  (hv: ∀(j:Nat) (x:AV),ob.els[j]? =some x→x.cells.length=ob.k∧ ∀(i:Nat) (y:AV),x.cells[i]? =some y→ ∃u,cs[j*ob.k+i]? =some u∧VR w μ y u∧u.oneCell'=true):
  ∃μ',Hw w0 μ w h μ' (w.drew.alloc (.cells cs ob.e)) (h.new ob)∧μ' h.next=some (some ⟨w.heap.size,cap,ob.k⟩):=by
 have s':FM w0 μ w.drew h:=O5 s rfl rfl rfl rfl
 have e:ID w μ w.drew μ:=ID.of (fun g _ _=>rfl) (fun _ _ h=>Or.inl h) (fun g hg=>Or.inl hg)
 obtain ⟨μ',g,hm⟩:=Pp hT s' hf hk hl hc hs (fun j x hx=>let ⟨q1,q2⟩:=hv j x hx;⟨q1,fun i y hy=>let ⟨u,u1,u2,u3⟩:=q2 i y hy;⟨u,u1,IQ e y u u2,u3⟩⟩)
 exact ⟨μ',⟨g.sim,fun k hk=>g.old k hk,g.keep,g.dom,g.next,g.y⟩,hm⟩
theorem PY {ρ:E3} {h:A7} {o:Oper} {cl:Call} {s x:Operand} {t e:TypeId} (ho:o.op= .call cl) (hc:cl.callee= .builtin .append) (ha:cl.args= #[s,x]) (ht:cl.argTypes= #[t,t])
  (he:En T t=some e) {i:TI} (hi:AJ T e=some i) {ks kx k0:Nat} (hs:ρ ks s=some (.sl k0 true [])) {X:AV} (hx:ρ kx x=some X) {y:AV} {ys:List AV} (hX:Kk h X=some (i.size,y::ys))
  (h0:i.size≠0) (hz:i.zero.cells.length=i.size) (hb:(ys.length+1)*i.bytes≤140737488355328) (hl:ys.length+1≤Gb):
  Sl P o ρ h (.own h.next 0 (ys.length+1)) (h.new ⟨e,i.size,y::ys⟩):=by
 intro w0 μ w c sim hf hcc
 rw [ho] at hcc
 have v1:=hcc s (by simp [Op.operands,Call.operands,hc,ha]) _ _ hs
 have v2:=hcc x (by simp [Op.operands,Call.operands,hc,ha]) _ _ hx
 have e1:c s= .slice none 0 0:=by
  simp only [VR,CR] at v1;rcases v1 with ⟨_,q⟩|⟨q,_⟩
  ·exact q
  ·cases q
 obtain ⟨f,z,i1,i2,i3,i4,i5,i6,i7⟩:=Hr hT hi
 have hlm:ys.length+1≤maxLen:=by unfold maxLen;unfold Gb at hl;omega
 rcases U7 hT sim hX v2 with ⟨_,q⟩|⟨a,C,news,e2,hr,hrd,h1⟩
 ·cases q
 ·simp only [List.length_cons] at e2
  have hnl:news.length=(ys.length+1)*f.size:=by rw [hr.1,i2];rfl
  have hrun:=run_append_nil (P:=P) w t o.type e f z (CW hT he) i1 i4 a (ys.length+1) C news hnl hrd (by omega) (by unfold maxLen at hlm;omega) (by rw [i3];omega)
  obtain ⟨g1,g2⟩:=KN hT (w:=w) (need:=ys.length+1) (old:=0) (e:=e) hlm
  have hcs:(news.toArray++Builtin.zeroCells z.cells (grownCap w (ys.length+1) 0 e-(ys.length+1))).size=grownCap w (ys.length+1) 0 e*i.size:=by
   rw [Array.size_append,List.size_toArray,size_zeroCells,i6,hr.1,List.length_cons,←Nat.add_mul];congr 1;omega
  obtain ⟨μ',g,hm⟩:=OY hT sim (hf _ (Nat.le_refl _)) (ob:=⟨e,i.size,y::ys⟩) (cs:=news.toArray++Builtin.zeroCells z.cells (grownCap w (ys.length+1) 0 e-(ys.length+1))) (cap:=grownCap w (ys.length+1) 0 e)
   (by show 0<i.size;omega) g1 g2 hcs (by
     have:=JO hT (more:=(Builtin.zeroCells z.cells (grownCap w (ys.length+1) 0 e-(ys.length+1))).toList) hr h1
     have e3:(news++(Builtin.zeroCells z.cells (grownCap w (ys.length+1) 0 e-(ys.length+1))).toList).toArray=news.toArray++Builtin.zeroCells z.cells (grownCap w (ys.length+1) 0 e-(ys.length+1)):=by
      apply Array.ext';simp
     rw [e3] at this;exact this)
  refine ⟨_,_,μ',Or.inl (I7 ho hc ha ht (by rw [e1,e2];exact hrun)),?_,g.step⟩
  simp only [VR,hm]
  exact ⟨_,_,rfl,g1,by simp,rfl,fun _=>by simp⟩
theorem Oa {ρ:E3} {h:A7} {o:Oper} {cl:Call} {s x:Operand} {t t' e:TypeId} (ho:o.op= .call cl) (hc:cl.callee= .builtin .append) (ha:cl.args= #[s,x]) (ht:cl.argTypes= #[t,t'])
  (he:En T t=some e) {kn:IntKind} (hd:Ci T t'= .int kn) {i:TI} (hi:AJ T e=some i) {ks kx k0:Nat} (hs:ρ ks s=some (.sl k0 true [])) {kk:IntKind} {n:Int} (hx:ρ kx x=some (.i kk n))
  (h0:i.size≠0) (hz:i.zero.cells.length=i.size) (hn:0<n) (hb:n*i.bytes≤140737488355328) (hl:n≤Gb):
  Sl P o ρ h (.own h.next 0 n.toNat) (h.new ⟨e,i.size,List.replicate n.toNat i.zero⟩):=by
 intro w0 μ w c sim hf hcc
 rw [ho] at hcc
 have v1:=hcc s (by simp [Op.operands,Call.operands,hc,ha]) _ _ hs
 have v2:=Mi hT (hcc x (by simp [Op.operands,Call.operands,hc,ha]) _ _ hx)
 have e1:c s= .slice none 0 0:=by
  simp only [VR,CR] at v1;rcases v1 with ⟨_,q⟩|⟨q,_⟩
  ·exact q
  ·cases q
 obtain ⟨f,z,i1,i2,i3,i4,i5,i6,i7⟩:=Hr hT hi
 obtain ⟨z',z1,z2,z3,z4,z5⟩:=KV (w:=w) (μ:=μ) hT hi hz
 have hzz:z=z':=by
  have:(zeroValue e).run P w= .ok z w:=by simp [zeroValue,typeInfo,i1,i4]
  rw [this] at z1;injection z1
 subst hzz
 obtain ⟨m,rfl⟩: ∃m:Nat,n=m:=⟨n.toNat,by omega⟩
 simp only [Int.toNat_natCast]
 have hm0:0<m:=by omega
 have hlm:m≤maxLen:=by unfold maxLen;unfold Gb at hl;omega
 have hbn:m*i.bytes≤140737488355328:=by rw [←Int.natCast_mul] at hb;omega
 have hrun:=Go.Lib.run_append_nil_zeros (P:=P) w t t' o.type e f z kk kn (CW hT he) (ML hT hd) i1 i4 m hm0 (by omega) (by unfold Gb at hl;omega) (by rw [i3];omega)
 obtain ⟨g1,g2⟩:=KN hT (w:=w) (need:=m) (old:=0) (e:=e) hlm
 have hmk:Builtin.zeroCells z.cells m=madeCells z.cells (m*i.size):=by rw [←i6];rfl
 have hcs:(Builtin.zeroCells z.cells m++Builtin.zeroCells z.cells (grownCap w m 0 e-m)).size=grownCap w m 0 e*i.size:=by
  rw [Array.size_append,size_zeroCells,size_zeroCells,i6,←Nat.add_mul];congr 1;omega
 have hr:=J9 (w:=w) (μ:=μ) (by omega) z3 hz m
 have h1:=K5 (n:=m*i.size) z5 (by omega)
 obtain ⟨μ',g,hm⟩:=OY hT sim (hf _ (Nat.le_refl _)) (ob:=⟨e,i.size,List.replicate m i.zero⟩) (cs:=Builtin.zeroCells z.cells m++Builtin.zeroCells z.cells (grownCap w m 0 e-m)) (cap:=grownCap w m 0 e)
  (by show 0<i.size;omega) (by simpa using g1) g2 hcs (by
    have:=JO hT (more:=(Builtin.zeroCells z.cells (grownCap w m 0 e-m)).toList) hr h1
    have e3:((madeCells z.cells (m*i.size)).toList++(Builtin.zeroCells z.cells (grownCap w m 0 e-m)).toList).toArray=Builtin.zeroCells z.cells m++Builtin.zeroCells z.cells (grownCap w m 0 e-m):=by
     apply Array.ext';simp [hmk]
    rw [e3] at this;exact this)
 refine ⟨_,_,μ',Or.inl (I7 ho hc ha ht (by rw [e1,v2];exact hrun)),?_,g.step⟩
 simp only [VR,hm]
 exact ⟨_,_,rfl,g1,by simp,rfl,fun _=>by simp⟩
theorem PZ {ρ:E3} {h:A7} {o:Oper} {cl:Call} {s x:Operand} {t e:TypeId} (ho:o.op= .call cl) (hc:cl.callee= .builtin .append) (ha:cl.args= #[s,x]) (ht:cl.argTypes= #[t,t])
  (he:En T t=some e) {i:TI} (hi:AJ T e=some i) {ks kx id len:Nat} (hs:ρ ks s=some (.own id 0 len)) {X:AV} (hx:ρ kx x=some X) {ys:List AV} (hX:Kk h X=some (i.size,ys))
  {ob:Obj} (hob:h.get id=some ob) (h0:i.size≠0) (hoe:ob.e=e) (hok:ob.k=i.size) (hlen:len≤ob.els.length) (hz:i.zero.cells.length=i.size) (hb:(len+ys.length)*i.bytes≤140737488355328) (hl:len+ys.length≤Gb):
  Sl P o ρ h (.own h.next 0 (len+ys.length)) ((h.put id none).new ⟨e,i.size,ob.els.take len++ys⟩):=by
 intro w0 μ w c sim hf hcc
 rw [ho] at hcc
 have v1:=hcc s (by simp [Op.operands,Call.operands,hc,ha]) _ _ hs
 have v2:=hcc x (by simp [Op.operands,Call.operands,hc,ha]) _ _ hx
 obtain ⟨sl,A,C,hm,B,e1,hC,hcap,hblk,hadr⟩:=Jb hT sim hob v1
 obtain ⟨f,z,i1,i2,i3,i4,i5,i6,i7⟩:=Hr hT hi
 have hlm:len+ys.length≤maxLen:=by unfold maxLen;unfold Gb at hl;omega
 obtain ⟨cur,c1,c2,c3⟩:=B.blk
 subst hoe
 have hCc:C=sl.cap:=by omega
 have hold:Dk w μ i.size (ob.els.take len) (cur.toList.take (len*i.size))∧ ∀u∈cur.toList.take (len*i.size),u.oneCell'=true:=by
  rw [←hok]
  have hle:len*ob.k≤cur.size:=by rw [c2];exact Nat.mul_le_mul_right _ (by have:=B.len;omega)
  refine ⟨⟨by simp only [List.length_take,Array.length_toList];rw [Nat.min_eq_left hlen];omega,fun j x hx=> ?_⟩,fun u hu=> ?_⟩
  ·rw [List.getElem?_take] at hx
   split at hx
   ·rename_i hj
    obtain ⟨q1,q2⟩:=c3 j x hx
    refine ⟨q1,GK ?_ fun p y v hy hv'=> ?_⟩
    ·have:=idx_lt hT (i:=0) hj B.pos
     have hjk:j*ob.k+ob.k≤len*ob.k:=by
      have:=Nat.mul_le_mul_right ob.k (Nat.succ_le_of_lt hj)
      rw [Nat.succ_mul] at this;exact this
     simp only [List.length_take,List.length_drop,Array.length_toList];omega
    ·obtain ⟨u,u1,u2,_⟩:=q2 p y hy
     rw [List.getElem?_take] at hv'
     split at hv'
     ·rw [List.getElem?_drop,List.getElem?_take] at hv'
      split at hv'
      ·have:cur.toList[j*ob.k+p]? =some u:=by simpa using u1
       rw [this] at hv';cases hv';exact u2
      ·cases hv'
     ·cases hv'
   ·cases hx
  ·obtain ⟨p,hp1,hp2⟩:=List.getElem_of_mem hu
   have hp:p<len*ob.k:=by simp only [List.length_take,Array.length_toList] at hp1;omega
   have hkp:=B.pos
   have hj:p /ob.k<len:=(Nat.div_lt_iff_lt_mul hkp).2 hp
   obtain ⟨q1,q2⟩:=c3 (p /ob.k) ob.els[p /ob.k] (by simp [show p /ob.k<ob.els.length by omega])
   have hi':p % ob.k<ob.els[p /ob.k].cells.length:=by rw [q1];exact Nat.mod_lt _ hkp
   obtain ⟨u',u1,_,u3⟩:=q2 (p % ob.k) (ob.els[p /ob.k].cells[p % ob.k]) (by simp [hi'])
   rw [Nat.mul_comm,Nat.div_add_mod] at u1
   have:u'=u:=by
    rw [←hp2,List.getElem_take]
    have:=(Array.getElem?_eq_some_iff.1 u1).2
    simp only [Array.getElem_toList]
    exact this.symm
   rw [←this];exact u3
 have hnews: ∃news:List Value,Dk w μ i.size ys news∧(∀u∈news,u.oneCell'=true)∧
   ((c x= .slice none 0 0∧ys=[])∨ ∃a m,c x= .slice (some a) ys.length m∧ ∀j u,news[j]? =some u→w.cell? (a.add j)=some u):=by
  rcases U7 hT sim hX v2 with ⟨q1,q2⟩|⟨a,m,news,e2,hr,hrd,h1⟩
  ·subst q2
   exact ⟨[],⟨by simp,fun j x hx=>by simp at hx⟩,by simp,Or.inl ⟨q1,rfl⟩⟩
  ·exact ⟨news,hr,h1,Or.inr ⟨a,m,e2,hrd⟩⟩
 obtain ⟨news,hr,h1,hcx⟩:=hnews
 have hnl:news.length=ys.length*i.size:=hr.1
 have hall:Dk w μ i.size (ob.els.take len++ys) (cur.toList.take (len*i.size)++news):=hold.1.append hr
 have hall1: ∀u∈cur.toList.take (len*i.size)++news,u.oneCell'=true:=fun u hu=>by
  rcases List.mem_append.1 hu with hu|hu
  ·exact hold.2 u hu
  ·exact h1 u hu
 have hlel:(ob.els.take len++ys).length=len+ys.length:=by simp;omega
 by_cases hroom:len+ys.length≤C
 ·
  have hfit:len*i.size+news.length≤cur.size:=by rw [hnl,←Nat.add_mul,c2,hok];exact Nat.mul_le_mul_right _ (by omega)
  have hA0:0<C→A=⟨sl.g,0,none⟩:=fun q=>by have:=hadr q;simpa using this
  have hcs:((cur.toList.take (len*i.size)++news++cur.toList.drop (len*i.size+news.length)).toArray).size=sl.cap*ob.k:=by
   rw [List.size_toArray]
   simp only [List.length_append,List.length_take,List.length_drop,Array.length_toList];omega
  have hst:=VA sim (hf _ (Nat.le_refl _)) hob hm (Turned.setRow w sl.g (cur.toList.take (len*i.size)++news++cur.toList.drop (len*i.size+news.length)).toArray)
   (ob':=⟨ob.e,i.size,ob.els.take len++ys⟩) rfl hok.symm (by rw [hlel];omega) (setRow_heap w sl.g cur _ ob.e (0,0) c1) hcs (by rw [hok];exact JO hT hall hall1)
  have hrun:(Builtin.append_ #[t,t] o.type #[c s,c x]).run P w= .ok (.slice (some A) (len+ys.length) C) (w.setRow sl.g (cur.toList.take (len*i.size)++news++cur.toList.drop (len*i.size+news.length)).toArray):=by
   rw [e1]
   rcases hcx with ⟨q1,q2⟩|⟨a,m,e2,hrd⟩
   ·subst q2
    have hn0:news=[]:=List.length_eq_zero_iff.1 (by simpa using hnl)
    subst hn0
    have e3:(cur.toList.take (len*i.size)++([]:List Value)++cur.toList.drop (len*i.size+([]:List Value).length)).toArray=cur:=by
     simp
    rw [q1,e3,setRow_self w sl.g cur ob.e (0,0) c1]
    simp [Builtin.append_,run_underlying (CW hT he),sizeOf,typeInfo,i1,Builtin.lenOf,show len≤C by omega,run_firstCells_none,storeCells]
   ·rw [e2]
    by_cases hc0:0<C
    ·rw [hA0 hc0]
     have:=run_append_room (P:=P) w t o.type ob.e f (CW hT he) i1 sl.g len C cur c1 a ys.length m news (by rw [i2];exact hnl) hrd h1 hroom (by rw [i2];exact hfit)
     rw [i2] at this
     exact this
    ·have hy0:ys.length=0:=by omega
     have hl0:len=0:=by omega
     have hC0:C=0:=by omega
     have hn0:news=[]:=List.length_eq_zero_iff.1 (by rw [hnl,hy0];simp)
     subst hn0
     have e3:(cur.toList.take (len*i.size)++([]:List Value)++cur.toList.drop (len*i.size+([]:List Value).length)).toArray=cur:=by
      simp
     rw [e3,setRow_self w sl.g cur ob.e (0,0) c1]
     have hfc:=run_firstCells_some (P:=P) w f.size 0 a 0 m [] (by simp) (by simp)
     rw [hy0,hl0,hC0]
     simp [Builtin.append_,run_underlying (CW hT he),sizeOf,typeInfo,i1,Builtin.lenOf,hfc,storeCells]
  refine ⟨_,_,_,Or.inl (I7 ho hc ha ht hrun),?_,hst⟩
  have:(μ.move id h.next sl) h.next=some (some sl):=by simp [Mu.move]
  simp only [VR,this]
  exact ⟨_,_,rfl,hroom,by omega,hblk,fun q=>by have:=hA0 q;simpa using this⟩
 ·
  have hy0:0<ys.length:=by omega
  rcases hcx with ⟨q1,q2⟩|⟨a,m,e2,hrd⟩
  ·subst q2;simp at hy0
  have holds: ∀j u,(cur.toList.take (len*i.size))[j]? =some u→w.cell? (A.add j)=some u:=by
   intro j u hu
   rw [List.getElem?_take] at hu
   split at hu
   ·rename_i hj
    have hlp:0<len:=by
     rcases Nat.eq_zero_or_pos len with q|q
     ·subst q;simp at hj
     ·exact q
    rw [hadr (by omega),Er]
    simp only [World.cell?,c1,Option.isSome_none,Bool.false_eq_true,if_false,Nat.zero_mul,Nat.zero_add]
    simpa using hu
   ·cases hu
  have hle:len*i.size≤cur.size:=by rw [c2,←hok];exact Nat.mul_le_mul_right _ (by have:=B.len;omega)
  have hrun:=run_append_grow (P:=P) w t o.type ob.e f z (CW hT he) i1 i4 A len C (cur.toList.take (len*i.size)) (by rw [i2];simp only [List.length_take,Array.length_toList];omega) holds a ys.length m news (by rw [i2];exact hnl) hrd (by omega) (by unfold maxLen at hlm;omega)
   (by rw [i3];exact growslice_fits (by omega) hb)
  obtain ⟨g1,g2⟩:=KN hT (w:=w) (need:=len+ys.length) (old:=C) (e:=ob.e) hlm
  have st1:=Vz sim hm
  have hcs:((cur.toList.take (len*i.size)).toArray++news.toArray++Builtin.zeroCells z.cells (grownCap w (len+ys.length) C ob.e-(len+ys.length))).size=grownCap w (len+ys.length) C ob.e*i.size:=by
   rw [Array.size_append,Array.size_append,List.size_toArray,List.size_toArray,size_zeroCells,i6,hnl,List.length_take,Array.length_toList,Nat.min_eq_left hle,←Nat.add_mul,←Nat.add_mul];congr 1;omega
  have hfk:(μ.kill id) (h.put id none).next=none:=by
   show (μ.kill id) h.next=none
   dsimp only [Mu.kill]
   have:=hf h.next (Nat.le_refl _)
   split
   ·rename_i q;rw [←q,this] at hm;cases hm
   ·exact this
  obtain ⟨μ',g,hm'⟩:=OY hT st1.sim hfk (ob:=⟨ob.e,i.size,ob.els.take len++ys⟩) (cs:=(cur.toList.take (len*i.size)).toArray++news.toArray++Builtin.zeroCells z.cells (grownCap w (len+ys.length) C ob.e-(len+ys.length))) (cap:=grownCap w (len+ys.length) C ob.e)
   (by show 0<i.size;omega) (by rw [hlel];exact g1) g2 hcs (by
     have:=JO hT (more:=(Builtin.zeroCells z.cells (grownCap w (len+ys.length) C ob.e-(len+ys.length))).toList) (hall.mono st1.ext) hall1
     have e3:(cur.toList.take (len*i.size)++news++(Builtin.zeroCells z.cells (grownCap w (len+ys.length) C ob.e-(len+ys.length))).toList).toArray=(cur.toList.take (len*i.size)).toArray++news.toArray++Builtin.zeroCells z.cells (grownCap w (len+ys.length) C ob.e-(len+ys.length)):=by
      apply Array.ext';simp
     rw [e3] at this;exact this)
  refine ⟨_,_,μ',Or.inl (I7 ho hc ha ht (by rw [e1,e2];exact hrun)),?_,st1.trans g.step⟩
  have hm'':μ' h.next=some (some ⟨w.heap.size,grownCap w (len+ys.length) C ob.e,i.size⟩):=hm'
  simp only [VR,hm'']
  exact ⟨_,_,rfl,g1,by simp,rfl,fun _=>by simp⟩
theorem Wg {ρ:E3} {h h':A7} {o:Oper} {r:AV} (hq:Nv T ρ h o=some (r,h')):Sl P o ρ h r h':=by
 unfold Nv at hq
 split at hq
 ·rename_i t a v ho
  split at hq
  ·rename_i id j of y i ha hy ht
   split at hq
   ·rename_i ob hob
    split at hq
    ·rename_i x hx
     split at hq
     ·rename_i hh
      cases hq
      exact X0 hT ho ha hy ht hob hx hh.1 hh.2.1 hh.2.2.1 hh.2.2.2
     ·cases hq
    ·cases hq
   ·cases hq
  ·cases hq
 ·rename_i cl ho
  split at hq
  ·rename_i s x t t' e1 e2 e3
   have ha:cl.args= #[s,x]:=by rw [←Array.toList_inj];exact e2
   have ht:cl.argTypes= #[t,t']:=by rw [←Array.toList_inj];exact e3
   split at hq
   ·split at hq
    ·rename_i e kn k0 kk n he hd hs hx
     split at hq
     ·rename_i i hi
      split at hq
      ·rename_i hh
       obtain ⟨hn,hb,hl,h0,hz⟩:=hh
       cases hq
       exact Oa hT ho e1 ha ht he hd hi hs hx h0 hz hn hb hl
      ·cases hq
     ·cases hq
    ·cases hq
   ·rename_i htt
    have htt':t'=t:=by simpa using (Decidable.not_not.1 htt).symm
    subst htt'
    split at hq
    ·rename_i e he
     split at hq
     ·rename_i i k0 k ys hi hs hx
      obtain ⟨X,hx1,hx2⟩:=Option.bind_eq_some_iff.1 hx
      split at hq
      ·rename_i hh
       obtain ⟨rfl,h0,hz,hb,hl⟩:=hh
       split at hq
       ·cases hq
        intro w0 μ w c sim hf hcc
        rw [ho] at hcc
        have v1:=hcc s (by simp [Op.operands,Call.operands,e1,ha]) _ _ hs
        have v2:=hcc x (by simp [Op.operands,Call.operands,e1,ha]) _ _ hx1
        have q1:c s= .slice none 0 0:=by
         simp only [VR,CR] at v1;rcases v1 with ⟨_,q⟩|⟨q,_⟩
         ·exact q
         ·cases q
        obtain ⟨f,z,i1,i2,i3,i4,i5,i6,i7⟩:=Hr hT hi
        refine ⟨.slice none 0 0,w,μ,Or.inl (I7 ho e1 ha ht ?_),by simp only [VR,CR];exact Or.inl ⟨trivial,trivial⟩,(Hw.refl sim).step⟩
        rw [q1]
        rcases U7 hT sim hx2 v2 with ⟨q2,_⟩|⟨a,m,news,q2,hr,hrd,h1⟩
        ·rw [q2]
         simp [Builtin.append_,run_underlying (CW hT he),sizeOf,typeInfo,i1,Builtin.lenOf,run_firstCells_none]
        ·rw [q2]
         have hfc:=run_firstCells_some (P:=P) w f.size 0 a 0 m [] (by simp) (by simp)
         simp [Builtin.append_,run_underlying (CW hT he),sizeOf,typeInfo,i1,Builtin.lenOf,hfc]
       ·rename_i y ys'
        cases hq
        exact PY hT ho e1 ha ht he hi hs hx1 hx2 h0 hz (by simpa using hb) (by simpa using hl)
      ·cases hq
     ·rename_i i id len k ys hi hs hx
      obtain ⟨X,hx1,hx2⟩:=Option.bind_eq_some_iff.1 hx
      split at hq
      ·rename_i ob hob
       split at hq
       ·rename_i hh
        obtain ⟨rfl,h0,hoe,hok,hlen,hz,hb,hl⟩:=hh
        cases hq
        exact PZ hT ho e1 ha ht he hi hs hx1 hx2 hob h0 hoe hok hlen hz hb hl
       ·cases hq
      ·cases hq
     ·cases hq
    ·cases hq
  ·cases hq
 ·cases hq
end
end
end Go.Lift
namespace Go.Lift
noncomputable section
open Go Go.RowKit
mutual
def closed:AV→Bool
 | .own _ _ _=>false
 | .loc _ _ _=>false
 | .st fs=>Ab fs
 | .tup fs=>Ab fs
 | .fn _ fs=>Ab fs
 |_=>true
def Ab:List AV→Bool
 | []=>true
 |x::xs=>closed x&&Ab xs
end
theorem GU: ∀xs:List AV,Ab xs=xs.all closed
 | []=>rfl
 |x::xs=>by simp [Ab,GU xs]
def Hd {α β:Type} (f:α→Option β):List α→Option (List β)
 | []=>some []
 |x::xs=>match f x,Hd f xs with
  |some y,some ys=>some (y::ys)
  |_,_=>none
def mapC (f:AV→Option AV) (xs:List AV):Option (List AV):=if Ab xs then some xs else Hd f xs
def BU (no:List Nat) (h:A7):Nat→AV→Option AV
 |0,x=>if closed x then some x else none
 |d+1,.own id off len=>if no.contains id then none else match h.get id with
  |some ob=>if off+len≤ob.els.length∧len≤Gb then (mapC (BU no h d) ((ob.els.drop off).take len)).map (.sl ob.k false) else none
  |none=>none
 |d+1,.loc id j o=>if no.contains id then none else match h.get id with
  |some ob=>match ob.els[j]? with
   |some x=>(mapC (BU no h d) (x.cells.drop o)).map .pt
   |none=>none
  |none=>none
 |d+1,.st fs=>(mapC (BU no h d) fs).map .st
 |d+1,.tup fs=>(mapC (BU no h d) fs).map .tup
 |d+1,.fn f fs=>(mapC (BU no h d) fs).map (.fn f)
 |_+1,x=>some x
section
variable {w:World} {μ:Mu}
mutual
theorem Cd: ∀(x:AV) (v:Value),closed x=true→VR w μ x v→CR w μ x v
 | .und,_,_,_=>by simp only [CR]
 | .b x,v,_,k=>by simpa only [VR] using k
 | .i x y,v,_,k=>by simpa only [VR] using k
 | .s x,v,_,k=>by simpa only [VR] using k
 | .sl n nl xs,v,_,k=>by simpa only [VR] using k
 | .pt cs,v,_,k=>by simpa only [VR] using k
 | .own id off len,v,c,k=>by simp [closed] at c
 | .loc id j o,v,c,k=>by simp [closed] at c
 | .st fs,v,c,k=>by
   simp only [closed] at c
   simp only [VR,CR] at k ⊢
   obtain ⟨cs,e,k⟩:=k
   exact ⟨cs,e,Dl fs _ c k⟩
 | .tup fs,v,c,k=>by
   simp only [closed] at c
   simp only [VR,CR] at k ⊢
   obtain ⟨cs,e,k⟩:=k
   exact ⟨cs,e,Dl fs _ c k⟩
 | .fn f fs,v,c,k=>by
   simp only [closed] at c
   simp only [VR,CR] at k ⊢
   obtain ⟨cs,e,k⟩:=k
   exact ⟨cs,e,Dl fs _ c k⟩
 | .nilp,_,_,k=>by simpa only [VR,CR] using k
 | .nilf,_,_,k=>by simpa only [VR,CR] using k
 | .raw _,_,_,k=>by simpa only [VR,CR] using k
theorem Dl: ∀(xs:List AV) (vs:List Value),Ab xs=true→D2 w μ xs vs→FL w μ xs vs
 | [],vs,_,k=>by simpa only [FL,D2] using k
 |x::xs,vs,c,k=>by
  simp only [Ab,Bool.and_eq_true] at c
  simp only [FL,D2] at k ⊢
  obtain ⟨v,r,e,k1,k2⟩:=k
  exact ⟨v,r,e,Cd x v c.1 k1,Dl xs r c.2 k2⟩
end
end
theorem Dv {w:World} {μ μ':Mu} (h: ∀g,μ'.mut g→μ.mut g): ∀a u,Rd w μ a u→Rd w μ' a u:=fun a u ⟨h1,h2,h3⟩=>⟨h1,fun q=>h2 (h _ q),h3⟩
mutual
theorem CG {w:World} {μ μ':Mu} (h: ∀a u,Rd w μ a u→Rd w μ' a u): ∀(x:AV) (v:Value),CR w μ x v→CR w μ' x v
 | .und,_,_=>by simp only [CR]
 | .b _,_,k=>by simpa only [CR] using k
 | .i _ _,_,k=>by simpa only [CR] using k
 | .s _,_,k=>by simpa only [CR] using k
 | .sl n nl xs,v,k=>by
   simp only [CR] at k ⊢
   rcases k with k|⟨k1,a,c,k2,k3,k4,k5⟩
   ·exact Or.inl k
   ·exact Or.inr ⟨k1,a,c,k2,k3,k4,D6 h n xs a k5⟩
 | .own _ _ _,_,k=>by simp only [CR] at k
 | .st fs,v,k=>by
   simp only [CR] at k ⊢
   obtain ⟨cs,e,k⟩:=k
   exact ⟨cs,e,Gs h fs _ k⟩
 | .tup fs,v,k=>by
   simp only [CR] at k ⊢
   obtain ⟨cs,e,k⟩:=k
   exact ⟨cs,e,Gs h fs _ k⟩
 | .pt cs,v,k=>by
   simp only [CR] at k ⊢
   obtain ⟨a,e,k⟩:=k
   exact ⟨a,e,KE h cs a k⟩
 | .loc _ _ _,_,k=>by simp only [CR] at k
 | .fn f fs,v,k=>by
   simp only [CR] at k ⊢
   obtain ⟨cs,e,k⟩:=k
   exact ⟨cs,e,Gs h fs _ k⟩
 | .nilp,_,k=>by simpa only [CR] using k
 | .nilf,_,k=>by simpa only [CR] using k
 | .raw _,_,k=>by simpa only [CR] using k
theorem Gs {w:World} {μ μ':Mu} (h: ∀a u,Rd w μ a u→Rd w μ' a u): ∀(xs:List AV) (vs:List Value),FL w μ xs vs→FL w μ' xs vs
 | [],vs,k=>by simpa only [FL] using k
 |x::xs,vs,k=>by
  simp only [FL] at k ⊢
  obtain ⟨v,r,e,k1,k2⟩:=k
  exact ⟨v,r,e,CG h x v k1,Gs h xs r k2⟩
theorem KE {w:World} {μ μ':Mu} (h: ∀a u,Rd w μ a u→Rd w μ' a u): ∀(cs:List AV) (a:Addr),BL w μ cs a→BL w μ' cs a
 | [],a,k=>by simp only [BL]
 |x::xs,a,k=>by
  simp only [BL] at k ⊢
  obtain ⟨⟨u,k1,k2⟩,k3⟩:=k
  exact ⟨⟨u,h _ _ k1,CG h x u k2⟩,KE h xs _ k3⟩
theorem D6 {w:World} {μ μ':Mu} (h: ∀a u,Rd w μ a u→Rd w μ' a u) (n:Nat): ∀(cs:List AV) (a:Addr),BR w μ n cs a→BR w μ' n cs a
 | [],a,k=>by simp only [BR]
 |x::xs,a,k=>by
  cases x with
  |st fs=>
   simp only [BR] at k ⊢
   exact ⟨⟨k.1.1,KE h fs a k.1.2⟩,D6 h n xs _ k.2⟩
  |und=>simp only [BR] at k ⊢;obtain ⟨⟨q0,u,q1,q2⟩,q3⟩:=k;exact ⟨⟨q0,u,h _ _ q1,CG h _ u q2⟩,D6 h n xs _ q3⟩
  |b x=>simp only [BR] at k ⊢;obtain ⟨⟨q0,u,q1,q2⟩,q3⟩:=k;exact ⟨⟨q0,u,h _ _ q1,CG h _ u q2⟩,D6 h n xs _ q3⟩
  |i x y=>simp only [BR] at k ⊢;obtain ⟨⟨q0,u,q1,q2⟩,q3⟩:=k;exact ⟨⟨q0,u,h _ _ q1,CG h _ u q2⟩,D6 h n xs _ q3⟩
  |s x=>simp only [BR] at k ⊢;obtain ⟨⟨q0,u,q1,q2⟩,q3⟩:=k;exact ⟨⟨q0,u,h _ _ q1,CG h _ u q2⟩,D6 h n xs _ q3⟩
  |sl p q zs=>simp only [BR] at k ⊢;obtain ⟨⟨q0,u,q1,q2⟩,q3⟩:=k;exact ⟨⟨q0,u,h _ _ q1,CG h (.sl p q zs) u q2⟩,D6 h n xs _ q3⟩
  |own p q r=>simp only [BR,CR] at k;obtain ⟨⟨_,u,_,q2⟩,_⟩:=k;exact q2.elim
  |tup zs=>simp only [BR] at k ⊢;obtain ⟨⟨q0,u,q1,q2⟩,q3⟩:=k;exact ⟨⟨q0,u,h _ _ q1,CG h (.tup zs) u q2⟩,D6 h n xs _ q3⟩
  |pt zs=>simp only [BR] at k ⊢;obtain ⟨⟨q0,u,q1,q2⟩,q3⟩:=k;exact ⟨⟨q0,u,h _ _ q1,CG h (.pt zs) u q2⟩,D6 h n xs _ q3⟩
  |loc p q r=>simp only [BR,CR] at k;obtain ⟨⟨_,u,_,q2⟩,_⟩:=k;exact q2.elim
  |fn f zs=>simp only [BR] at k ⊢;obtain ⟨⟨q0,u,q1,q2⟩,q3⟩:=k;exact ⟨⟨q0,u,h _ _ q1,CG h (.fn f zs) u q2⟩,D6 h n xs _ q3⟩
  |nilp=>simp only [BR] at k ⊢;obtain ⟨⟨q0,u,q1,q2⟩,q3⟩:=k;exact ⟨⟨q0,u,h _ _ q1,CG h _ u q2⟩,D6 h n xs _ q3⟩
  |nilf=>simp only [BR] at k ⊢;obtain ⟨⟨q0,u,q1,q2⟩,q3⟩:=k;exact ⟨⟨q0,u,h _ _ q1,CG h _ u q2⟩,D6 h n xs _ q3⟩
  |raw _=>simp only [BR] at k ⊢;obtain ⟨⟨q0,u,q1,q2⟩,q3⟩:=k;exact ⟨⟨q0,u,h _ _ q1,CG h _ u q2⟩,D6 h n xs _ q3⟩
end
def So (μ μ':Mu) (no:List Nat):Prop:= ∀g,μ'.mut g→μ.Y g∨ ∃id,id∈no∧ ∃s,μ id=some (some s)∧s.g=g
theorem So.less {μ μ':Mu} {no:List Nat} (h:So μ μ' no): ∀g,μ'.mut g→μ.mut g:=fun g hg=>by
 rcases h g hg with hy|⟨id,_,s,h1,h2⟩
 ·exact Or.inl hy
 ·exact Or.inr ⟨id,s,h1,h2⟩
section
variable {w0 w:World} {μ μ':Mu} {h:A7} (s:FM w0 μ w h) {no:List Nat} (hk:So μ μ' no)
include s hk
theorem cell_rd {id:Nat} {sl:MF} (hm:μ id=some (some sl)) (hn:id∉no) {o:Nat} {u:Value} (hc:w.cell? ⟨sl.g,o,none⟩=some u) (h1:u.oneCell'=true):Rd w μ' ⟨sl.g,o,none⟩ u:=
 ⟨hc,fun q=>by
   rcases hk _ q with hy|⟨id',m1,s',m2,m3⟩
   ·have:=s.ylt _ hy;have:=s.lt id sl hm;simp only at*;omega
   exact hn (s.inj id id' sl s' hm m2 m3.symm ▸ m1),h1⟩
theorem MZ {f:AV→Option AV} (hf: ∀x y v,f x=some y→VR w μ x v→CR w μ' y v) {xs ys:List AV} (h:mapC f xs=some ys) {vs:List Value} (hv:D2 w μ xs vs):FL w μ' ys vs:=by
 unfold mapC at h
 split at h
 ·rename_i hc
  cases h
  exact Gs (Dv hk.less) _ _ (Dl _ _ hc hv)
 ·rename_i hc
  clear hc
  induction xs generalizing ys vs with
  |nil=>simp [Hd] at h;subst h;simpa only [D2,FL] using hv
  |cons x xs ih=>
   simp only [Hd] at h
   split at h
   ·rename_i y zs h1 h2
    cases h
    simp only [D2] at hv
    obtain ⟨v,r,rfl,k1,k2⟩:=hv
    simp only [FL]
    exact ⟨v,r,rfl,hf x y v h1 k1,ih k2 h2⟩
   ·cases h
omit s hk in
theorem L9 {cs:List AV} {vs:List Value} {a:Addr} (hv:FL w μ' cs vs) (hr: ∀j u,vs[j]? =some u→Rd w μ' (a.add j) u):BL w μ' cs a:=by
 induction cs generalizing vs a with
 |nil=>simp only [BL]
 |cons x cs ih=>
  simp only [FL] at hv
  obtain ⟨v,r,rfl,h1,h2⟩:=hv
  simp only [BL]
  refine ⟨⟨v,by have:=hr 0 v rfl;rwa [add_zero] at this,h1⟩,ih h2 fun j u hu=> ?_⟩
  have:=hr (j+1) u (by simpa using hu)
  rwa [H6,Nat.add_comm]
omit s hk in
theorem NR {hh:A7} {d:Nat} {x y:AV} (h:BU no hh d x=some y) (hx:x.cells=[x]):y.cells=[y]:=by
 cases d with
 |zero=>simp only [BU] at h;split at h<;>cases h;exact hx
 |succ d=>
  cases x with
  |st fs=>
   exfalso
   simp only [AV.cells] at hx
   have h1:SizeOf.sizeOf fs=SizeOf.sizeOf [AV.st fs]:=congrArg SizeOf.sizeOf hx
   simp at h1;omega
  |own id off len=>
   simp only [BU] at h
   split at h
   ·cases h
   ·split at h
    ·split at h
     ·obtain ⟨zs,_,rfl⟩:=Option.map_eq_some_iff.1 h;rfl
     ·cases h
    ·cases h
  |loc id j o=>
   simp only [BU] at h
   split at h
   ·cases h
   ·split at h
    ·split at h
     ·obtain ⟨zs,_,rfl⟩:=Option.map_eq_some_iff.1 h;rfl
     ·cases h
    ·cases h
  |tup fs=>simp only [BU] at h;obtain ⟨zs,_,rfl⟩:=Option.map_eq_some_iff.1 h;rfl
  |fn f fs=>simp only [BU] at h;obtain ⟨zs,_,rfl⟩:=Option.map_eq_some_iff.1 h;rfl
  |_=>simp only [BU] at h;cases h;rfl
theorem US {d:Nat} (ih: ∀x y v,BU no h d x=some y→VR w μ x v→CR w μ' y v) {x y:AV} (hxy:(closed x=true∧y=x)∨BU no h d x=some y) {vs:List Value} (hv:D2 w μ x.cells vs):FL w μ' y.cells vs:=by
 by_cases hx: ∃fs,x= .st fs
 ·obtain ⟨fs,rfl⟩:=hx
  rcases hxy with ⟨hc,rfl⟩|hxy
  ·simp only [closed] at hc
   exact Gs (Dv hk.less) _ _ (Dl _ _ hc hv)
  ·cases d with
   |zero=>
    simp only [BU] at hxy
    split at hxy
    ·rename_i hc;cases hxy
     simp only [closed] at hc
     exact Gs (Dv hk.less) _ _ (Dl _ _ hc hv)
    ·cases hxy
   |succ d=>
    have hxy':=hxy
    simp only [BU] at hxy'
    obtain ⟨zs,h1,rfl⟩:=Option.map_eq_some_iff.1 hxy'
    have:=ih (.st fs) (.st zs) (.agg vs.toArray) hxy (by simp only [VR];exact ⟨_,rfl,hv⟩)
    simp only [CR] at this
    obtain ⟨cs,e,k⟩:=this
    cases e
    exact k
 ·have hc:x.cells=[x]:=by cases x<;>first|rfl|exact absurd ⟨_,rfl⟩ hx
  rw [hc] at hv
  simp only [D2] at hv
  obtain ⟨v,r,rfl,h1,rfl⟩:=hv
  rcases hxy with ⟨hcl,rfl⟩|hxy
  ·rw [hc]
   simp only [FL]
   exact ⟨v,[],rfl,CG (Dv hk.less) _ _ (Cd _ _ hcl h1),rfl⟩
  ·rw [NR hxy hc]
   simp only [FL]
   exact ⟨v,[],rfl,ih x y v hxy h1,rfl⟩
omit s hk in
theorem T2 {f:AV→Option AV} {xs ys:List AV} (h:mapC f xs=some ys):ys.length=xs.length∧ ∀(j:Nat) (x:AV),xs[j]? =some x→ ∃y,ys[j]? =some y∧((closed x=true∧y=x)∨f x=some y):=by
 unfold mapC at h
 split at h
 ·rename_i hc
  cases h
  rw [GU] at hc
  exact ⟨rfl,fun j x hx=>⟨x,hx,Or.inl ⟨List.all_eq_true.1 hc x (List.mem_of_getElem? hx),rfl⟩⟩⟩
 ·rename_i hc
  clear hc
  induction xs generalizing ys with
  |nil=>simp [Hd] at h;subst h;exact ⟨rfl,fun j x hx=>by simp at hx⟩
  |cons x xs ih=>
   simp only [Hd] at h
   split at h
   ·rename_i y zs h1 h2
    cases h
    obtain ⟨q1,q2⟩:=ih h2
    refine ⟨by simp [q1],fun j z hz=> ?_⟩
    cases j with
    |zero=>simp at hz;subst hz;exact ⟨y,rfl,Or.inr h1⟩
    |succ j=>simp at hz;obtain ⟨y',e1,e2⟩:=q2 j z hz;exact ⟨y',by simpa using e1,e2⟩
   ·cases h
theorem Qy {id:Nat} {ob:Obj} {sl:MF} (hm:μ id=some (some sl)) (hn:id∉no) (B:KW w μ ob sl) {j:Nat} {x:AV} (hx:ob.els[j]? =some x):
  x.cells.length=ob.k∧ ∃vs:List Value,D2 w μ x.cells vs∧ ∀i u,vs[i]? =some u→Rd w μ' ⟨sl.g,j*ob.k+i,none⟩ u:=by
 obtain ⟨cs,c1,c2,c3⟩:=B.blk
 obtain ⟨q1,q2⟩:=c3 j x hx
 refine ⟨q1,(cs.toList.drop (j*ob.k)).take ob.k,?_,fun i u hu=> ?_⟩
 ·have hj:j<ob.els.length:=(List.getElem?_eq_some_iff.1 hx).1
  have hjk:j*ob.k+ob.k≤ob.els.length*ob.k:=by
   have:=Nat.mul_le_mul_right ob.k (Nat.succ_le_of_lt hj)
   rw [Nat.succ_mul] at this;exact this
  have hle:ob.els.length*ob.k≤cs.size:=by rw [c2];exact Nat.mul_le_mul_right _ B.len
  refine GK (by simp only [List.length_take,List.length_drop,Array.length_toList];omega) fun i y v hy hv=> ?_
  obtain ⟨u,u1,u2,_⟩:=q2 i y hy
  rw [List.getElem?_take] at hv
  split at hv
  ·rw [List.getElem?_drop] at hv
   have:cs.toList[j*ob.k+i]? =some u:=by simpa using u1
   rw [this] at hv;cases hv;exact u2
  ·cases hv
 ·rw [List.getElem?_take] at hu
  split at hu
  ·rename_i hi
   rw [List.getElem?_drop] at hu
   have hi':i<x.cells.length:=by omega
   obtain ⟨u',u1,u2,u3⟩:=q2 i x.cells[i] (by simp [hi'])
   have:cs.toList[j*ob.k+i]? =some u':=by simpa using u1
   rw [this] at hu;cases hu
   refine cell_rd s hk hm hn ?_ u3
   simp only [World.cell?,c1,Option.isSome_none,Bool.false_eq_true,if_false];exact u1
  ·cases hu
theorem Iq: ∀(d:Nat) (x y:AV) (v:Value),BU no h d x=some y→VR w μ x v→CR w μ' y v
 |0,x,y,v,e,hv=>by
  simp only [BU] at e
  split at e
  ·rename_i hc;cases e;exact CG (Dv hk.less) _ _ (Cd _ _ hc hv)
  ·cases e
 |d+1,.own id off len,y,v,e,hv=>by
  simp only [BU] at e
  split at e
  ·cases e
  ·rename_i hno
   have hn:id∉no:=by simpa using hno
   split at e
   ·rename_i ob hob
    split at e
    ·rename_i hl
     obtain ⟨ys,e1,rfl⟩:=Option.map_eq_some_iff.1 e
     have hm:μ id≠none:=by intro q;simp only [VR,q] at hv
     cases hmm:μ id with
     |none=>exact absurd hmm hm
     |some t=>cases t with
      |none=>exact absurd hmm (s.live id ob hob)
      |some sl=>
       have B:=s.blk id ob sl hob hmm
       simp only [VR,hmm] at hv
       obtain ⟨a,c,rfl,h2,h3,h4,h5⟩:=hv
       obtain ⟨m1,m2⟩:=T2 e1
       have hlen:((ob.els.drop off).take len).length=len:=by simp only [List.length_take,List.length_drop];omega
       simp only [CR]
       refine Or.inr ⟨trivial,a,c,by rw [m1,hlen],by rw [m1,hlen];exact h2,by rw [m1,hlen];exact hl.2,LO fun j y hy=> ?_⟩
       have hj:j<len:=by have:=(List.getElem?_eq_some_iff.1 hy).1;omega
       have hx:((ob.els.drop off).take len)[j]? =ob.els[off+j]? :=by rw [List.getElem?_take,if_pos hj,List.getElem?_drop]
       have hxs:ob.els[off+j]? =some ob.els[off+j]:=by rw [List.getElem?_eq_getElem (by omega)]
       obtain ⟨y',y1,y2⟩:=m2 j _ (hx.trans hxs)
       rw [hy] at y1;cases y1
       obtain ⟨q1,vs,q2,q3⟩:=Qy s hk hmm hn B hxs
       have q4:=US s hk (fun x y v=>Iq d x y v) y2 q2
       refine ⟨by rw [←GJ q4,Dm q2,q1],L9 q4 fun i u hu=> ?_⟩
       have:=q3 i u hu
       rw [h5 (by omega),Er,Er,B.k,←Nat.add_mul]
       exact this
    ·cases e
   ·cases e
 |d+1,.loc id j o,y,v,e,hv=>by
  simp only [BU] at e
  split at e
  ·cases e
  ·rename_i hno
   have hn:id∉no:=by simpa using hno
   split at e
   ·rename_i ob hob
    split at e
    ·rename_i x hx
     obtain ⟨ys,e1,rfl⟩:=Option.map_eq_some_iff.1 e
     have hm:μ id≠none:=by intro q;simp only [VR,q] at hv
     cases hmm:μ id with
     |none=>exact absurd hmm hm
     |some t=>cases t with
      |none=>exact absurd hmm (s.live id ob hob)
      |some sl=>
       have B:=s.blk id ob sl hob hmm
       simp only [VR,hmm] at hv
       subst hv
       obtain ⟨q1,vs,q2,q3⟩:=Qy s hk hmm hn B hx
       have q4:=MZ s hk (fun x y v=>Iq d x y v) e1 (OJ q2 o)
       simp only [CR]
       refine ⟨_,rfl,L9 q4 fun i u hu=> ?_⟩
       rw [List.getElem?_drop] at hu
       have:=q3 _ u hu
       rw [Er,B.k,Nat.add_assoc]
       exact this
    ·cases e
   ·cases e
 |d+1,.st fs,y,v,e,hv=>by
  simp only [BU] at e
  obtain ⟨ys,e1,rfl⟩:=Option.map_eq_some_iff.1 e
  simp only [VR] at hv
  obtain ⟨cs,rfl,k⟩:=hv
  simp only [CR]
  exact ⟨cs,rfl,MZ s hk (fun x y v=>Iq d x y v) e1 k⟩
 |d+1,.tup fs,y,v,e,hv=>by
  simp only [BU] at e
  obtain ⟨ys,e1,rfl⟩:=Option.map_eq_some_iff.1 e
  simp only [VR] at hv
  obtain ⟨cs,rfl,k⟩:=hv
  simp only [CR]
  exact ⟨cs,rfl,MZ s hk (fun x y v=>Iq d x y v) e1 k⟩
 |d+1,.fn f fs,y,v,e,hv=>by
  simp only [BU] at e
  obtain ⟨ys,e1,rfl⟩:=Option.map_eq_some_iff.1 e
  simp only [VR] at hv
  obtain ⟨cs,ef,k⟩:=hv
  simp only [CR]
  exact ⟨cs,ef,MZ s hk (fun x y v=>Iq d x y v) e1 k⟩
 |d+1,.und,y,v,e,hv=>by simp only [BU] at e;cases e;simp only [CR]
 |d+1,.b x,y,v,e,hv=>by simp only [BU] at e;cases e;exact CG (Dv hk.less) _ _ (Cd _ _ rfl hv)
 |d+1,.i p q,y,v,e,hv=>by simp only [BU] at e;cases e;exact CG (Dv hk.less) _ _ (Cd _ _ rfl hv)
 |d+1,.s x,y,v,e,hv=>by simp only [BU] at e;cases e;exact CG (Dv hk.less) _ _ (Cd _ _ rfl hv)
 |d+1,.sl p q x,y,v,e,hv=>by simp only [BU] at e;cases e;exact CG (Dv hk.less) _ _ (Cd (.sl p q x) _ rfl hv)
 |d+1,.pt x,y,v,e,hv=>by simp only [BU] at e;cases e;exact CG (Dv hk.less) _ _ (Cd (.pt x) _ rfl hv)
 |d+1,.nilp,y,v,e,hv=>by simp only [BU] at e;cases e;exact CG (Dv hk.less) _ _ (Cd _ _ rfl hv)
 |d+1,.nilf,y,v,e,hv=>by simp only [BU] at e;cases e;exact CG (Dv hk.less) _ _ (Cd _ _ rfl hv)
 |d+1,.raw _,y,v,e,hv=>by simp only [BU] at e;cases e;exact CG (Dv hk.less) _ _ (Cd _ _ rfl hv)
end
end
end Go.Lift
namespace Go.Lift
noncomputable section
open Go Go.RowKit
mutual
def AV.ren (ρ:Nat→Nat):AV→AV
 | .own id off len=> .own (ρ id) off len
 | .loc id j o=> .loc (ρ id) j o
 | .st fs=> .st (D3 ρ fs)
 | .tup fs=> .tup (D3 ρ fs)
 | .fn f fs=> .fn f (D3 ρ fs)
 |x=>x
def D3 (ρ:Nat→Nat):List AV→List AV
 | []=>[]
 |x::xs=>x.ren ρ::D3 ρ xs
end
theorem N8 (ρ:Nat→Nat): ∀xs:List AV,D3 ρ xs=xs.map (AV.ren ρ)
 | []=>rfl
 |x::xs=>by simp [D3,N8 ρ xs]
mutual
theorem Jh (ρ:Nat→Nat): ∀x:AV,closed x=true→x.ren ρ=x
 | .own _ _ _,h=>by simp [closed] at h
 | .loc _ _ _,h=>by simp [closed] at h
 | .st fs,h=>by simp only [closed] at h;simp only [AV.ren,Ip ρ fs h]
 | .tup fs,h=>by simp only [closed] at h;simp only [AV.ren,Ip ρ fs h]
 | .fn f fs,h=>by simp only [closed] at h;simp only [AV.ren,Ip ρ fs h]
 | .und,_=>rfl
 | .b _,_=>rfl
 | .i _ _,_=>rfl
 | .s _,_=>rfl
 | .sl _ _ _,_=>rfl
 | .pt _,_=>rfl
 | .nilp,_=>rfl
 | .nilf,_=>rfl
 | .raw _,_=>rfl
theorem Ip (ρ:Nat→Nat): ∀xs:List AV,Ab xs=true→D3 ρ xs=xs
 | [],_=>rfl
 |x::xs,h=>by
  simp only [Ab,Bool.and_eq_true] at h
  simp only [D3,Jh ρ x h.1,Ip ρ xs h.2]
end
def LA (ρ:Nat→Nat) (xs:List AV):List AV:=if Ab xs then xs else D3 ρ xs
theorem QS (ρ:Nat→Nat) (xs:List AV):LA ρ xs=D3 ρ xs:=by
 unfold LA;split
 ·rename_i h;exact (Ip ρ xs h).symm
 ·rfl
def Obj.ren (ρ:Nat→Nat) (o:Obj):Obj:=⟨o.e,o.k,LA ρ o.els⟩
def IU (ρ:Nat→Nat):Nat→List Obj→List (Nat×Option Obj)→List (Nat×Option Obj)
 |_,[],r=>r
 |n,o::os,r=>IU ρ (n+1) os ((n,some (o.ren ρ))::r)
def A7.add (h:A7) (S:List Obj):A7:=⟨h.next+S.length,IU (· +h.next) h.next S h.objs⟩
theorem KP (ρ:Nat→Nat): ∀(S:List Obj) (n:Nat) (r:List (Nat×Option Obj)) (i:Nat),
  AJ (IU ρ n S r) i=if n≤i∧i<n+S.length then some (S[i-n]?.map (Obj.ren ρ)) else AJ r i
 | [],n,r,i=>by
   simp only [IU,List.length_nil,Nat.add_zero]
   rw [if_neg (by omega)]
 |o::S,n,r,i=>by
  simp only [IU,List.length_cons]
  rw [KP ρ S (n+1) _ i,Cg]
  by_cases h1:n+1≤i∧i<n+1+S.length
  ·rw [if_pos h1,if_pos (by omega)]
   obtain ⟨d,rfl⟩: ∃d,i=n+1+d:=⟨i-(n+1),by omega⟩
   rw [show n+1+d-(n+1)=d by omega,show n+1+d-n=d+1 by omega]
   rfl
  ·rw [if_neg h1]
   by_cases h2:i=n
   ·subst h2
    rw [if_pos rfl,if_pos (by omega)]
    simp
   ·rw [if_neg h2,if_neg (by omega)]
theorem JV (h:A7) (S:List Obj) (i:Nat):(h.add S).get i=if h.next≤i∧i<h.next+S.length then S[i-h.next]?.map (Obj.ren (· +h.next)) else h.get i:=by
 unfold A7.get A7.add
 simp only [KP]
 by_cases h1:h.next≤i∧i<h.next+S.length
 ·rw [if_pos h1,if_pos h1.2,if_pos h1];simp
 ·rw [if_neg h1,if_neg h1]
  by_cases h2:i<h.next
  ·rw [if_pos h2,if_pos (by omega)]
  ·rw [if_neg h2,if_neg (by omega)]
def S0 (S:List Obj):A7:=⟨S.length,IU id 0 S []⟩
theorem ren_id: ∀x:AV,x.ren id=x:=by
 have:(∀x:AV,x.ren id=x)∧(∀xs:List AV,D3 id xs=xs):=by
  refine ⟨fun x=> ?_,fun xs=> ?_⟩
  ·exact ren_id1 x
  ·exact renL_id1 xs
 exact this.1
where
 ren_id1: ∀x:AV,x.ren id=x
 | .own _ _ _=>rfl
 | .loc _ _ _=>rfl
 | .st fs=>by simp only [AV.ren,renL_id1 fs]
 | .tup fs=>by simp only [AV.ren,renL_id1 fs]
 | .fn f fs=>by simp only [AV.ren,renL_id1 fs]
 | .und=>rfl
 | .b _=>rfl
 | .i _ _=>rfl
 | .s _=>rfl
 | .sl _ _ _=>rfl
 | .pt _=>rfl
 | .nilp=>rfl
 | .nilf=>rfl
 | .raw _=>rfl
 renL_id1: ∀xs:List AV,D3 id xs=xs
 | []=>rfl
 |x::xs=>by simp only [D3,ren_id1 x,renL_id1 xs]
theorem Fh (S:List Obj) (i:Nat):(S0 S).get i=S[i]? :=by
 unfold A7.get S0
 simp only [KP]
 have hr:Obj.ren id=id:=by
  funext o
  unfold Obj.ren
  rw [QS,N8]
  have:o.els.map (AV.ren id)=o.els:=by
   conv=>rhs;rw [←List.map_id o.els]
   exact List.map_congr_left fun x _=>ren_id x
  rw [this];rfl
 by_cases h:i<S.length
 ·rw [if_pos h,if_pos (by omega)];simp [hr]
 ·rw [if_neg h,List.getElem?_eq_none (by omega)]
def Eo (Y:Nat→Prop):Mu:=⟨fun _=>none,Y⟩
def PN (f:Nat) (us:List Value):Array Value:=
 if f<1000000 then us.toArray else (us.drop (us.length-f /1000000)++us.take (us.length-f /1000000)).toArray
theorem JS {f:Nat} (h:f<1000000) (us:List Value):PN f us=us.toArray:=if_pos h
theorem J3 {f:Nat} (h:f<1000000):f % 1000000=f:=Nat.mod_eq_of_lt h
structure Ar (P:Program) (W:World) (f:FuncId) (args:List AV) (r:AV) (S:List Obj):Prop where
 enters: ∀(vs:Array Value) (w:World),(callFunc (f % 1000000) vs).run P w= .ok (.enter (f % 1000000) vs) w
 calls: ∀(w:World) (Y:Nat→Prop) (vs:List Value),Ga W w→(∀g,Y g→g<w.heap.size)→FL w (Eo Y) args vs→
  Calls P (f % 1000000) (PN f vs) w fun e w'=> ∃v μ',e= .returned v∧μ'.Y=Y∧VR w' μ' r v∧FM w μ' w' (S0 S)∧(∀id,S.length≤id→μ' id=none)
theorem Ar.plain {P:Program} {W:World} {f:FuncId} {args:List AV} {r:AV} {S:List Obj} (hM:f<1000000) (he: ∀(vs:Array Value) (w:World),(callFunc f vs).run P w= .ok (.enter f vs) w)
  (hc: ∀(w:World) (Y:Nat→Prop) (vs:List Value),Ga W w→(∀g,Y g→g<w.heap.size)→FL w (Eo Y) args vs→
    Calls P f vs.toArray w fun e w'=> ∃v μ',e= .returned v∧μ'.Y=Y∧VR w' μ' r v∧FM w μ' w' (S0 S)∧(∀id,S.length≤id→μ' id=none)):Ar P W f args r S where
 enters:=by rw [J3 hM];exact he
 calls:=by rw [J3 hM];intro w Y vs;rw [JS hM];exact hc w Y vs
theorem Ar.callsP {P:Program} {W:World} {f:FuncId} {args:List AV} {r:AV} {S:List Obj} (k:Ar P W f args r S) (hM:f<1000000): ∀(w:World) (Y:Nat→Prop) (vs:List Value),Ga W w→(∀g,Y g→g<w.heap.size)→FL w (Eo Y) args vs→
  Calls P f vs.toArray w fun e w'=> ∃v μ',e= .returned v∧μ'.Y=Y∧VR w' μ' r v∧FM w μ' w' (S0 S)∧(∀id,S.length≤id→μ' id=none):=by
 intro w Y vs
 have:=k.calls w Y vs
 rw [J3 hM,JS hM] at this
 exact this
theorem Ar.entersP {P:Program} {W:World} {f:FuncId} {args:List AV} {r:AV} {S:List Obj} (k:Ar P W f args r S) (hM:f<1000000): ∀(vs:Array Value) (w:World),(callFunc f vs).run P w= .ok (.enter f vs) w:=by
 have:=k.enters
 rw [J3 hM] at this
 exact this
def flat:AV→Bool
 | .sl _ _ []=>true
 | .sl _ _ _=>false
 | .pt _=>false
 | .st fs=>fs.all flat1
 | .tup fs=>fs.all flat2
 | .fn _ fs=>fs.all flat1
 |_=>true
where
 flat1:AV→Bool
  | .sl _ _ []=>true
  | .sl _ _ _=>false
  | .pt _=>false
  | .st _=>false
  | .tup _=>false
  | .fn _ fs=>fs.isEmpty
  |_=>true
 flat2:AV→Bool
  | .st fs=>fs.all flat1
  |x=>flat1 x
section
variable {w:World} {μ μ':Mu} (ρ:Nat→Nat) (h: ∀id,μ id≠none→μ' (ρ id)=μ id)
include h
theorem CK (x:AV) (v:Value) (hx:flat.flat1 x=true) (k:VR w μ x v):VR w μ' (x.ren ρ) v:=by
 cases x with
 |sl n nl xs=>
  cases xs with
  |cons y ys=>simp [flat.flat1] at hx
  |nil=>
   simp only [AV.ren,VR,CR] at k ⊢
   rcases k with k|⟨k1,a,c,k2,k3,k4,_⟩
   ·exact Or.inl k
   ·exact Or.inr ⟨k1,a,c,k2,k3,k4,by simp only [BR]⟩
 |own id off len=>
  simp only [AV.ren,VR] at k ⊢
  have:=h id (by intro e;simp only [e] at k)
  rw [this];exact k
 |loc id j o=>
  simp only [AV.ren,VR] at k ⊢
  have:=h id (by intro e;simp only [e] at k)
  rw [this];exact k
 |fn f fs=>
  simp [flat.flat1] at hx
  subst hx
  simp only [AV.ren,D3,VR,D2] at k ⊢
  exact k
 |st _=>simp [flat.flat1] at hx
 |tup _=>simp [flat.flat1] at hx
 |pt _=>simp [flat.flat1] at hx
 |und=>simp only [AV.ren,VR]
 |b x=>simpa only [AV.ren,VR,CR] using k
 |i x y=>simpa only [AV.ren,VR,CR] using k
 |s x=>simpa only [AV.ren,VR,CR] using k
 |nilp=>simpa only [AV.ren,VR] using k
 |nilf=>simpa only [AV.ren,VR] using k
 |raw _=>simpa only [AV.ren,VR] using k
theorem J5 (p:AV→Bool) (hp: ∀x v,p x=true→VR w μ x v→VR w μ' (x.ren ρ) v): ∀(xs:List AV) (vs:List Value),xs.all p=true→D2 w μ xs vs→D2 w μ' (D3 ρ xs) vs
 | [],vs,_,k=>by simpa only [D3,D2] using k
 |x::xs,vs,hx,k=>by
  simp only [List.all_cons,Bool.and_eq_true] at hx
  simp only [D3,D2] at k ⊢
  obtain ⟨v,r,e,k1,k2⟩:=k
  exact ⟨v,r,e,hp x v hx.1 k1,J5 p hp xs r hx.2 k2⟩
theorem Rk (x:AV) (v:Value) (hx:flat.flat2 x=true) (k:VR w μ x v):VR w μ' (x.ren ρ) v:=by
 by_cases he: ∃fs,x= .st fs
 ·obtain ⟨fs,rfl⟩:=he
  simp only [flat.flat2] at hx
  simp only [AV.ren,VR] at k ⊢
  obtain ⟨cs,e,k⟩:=k
  exact ⟨cs,e,J5 ρ h _ (CK ρ h) fs _ hx k⟩
 ·have:flat.flat2 x=flat.flat1 x:=by cases x<;>first|rfl|exact absurd ⟨_,rfl⟩ he
  exact CK ρ h x v (this ▸ hx) k
theorem Ss (x:AV) (v:Value) (hx:flat x=true) (k:VR w μ x v):VR w μ' (x.ren ρ) v:=by
 cases x with
 |st fs=>
  simp only [flat] at hx
  simp only [AV.ren,VR] at k ⊢
  obtain ⟨cs,e,k⟩:=k
  exact ⟨cs,e,J5 ρ h _ (CK ρ h) fs _ hx k⟩
 |tup fs=>
  simp only [flat] at hx
  simp only [AV.ren,VR] at k ⊢
  obtain ⟨cs,e,k⟩:=k
  exact ⟨cs,e,J5 ρ h _ (Rk ρ h) fs _ hx k⟩
 |fn f fs=>
  simp only [flat] at hx
  simp only [AV.ren,VR] at k ⊢
  obtain ⟨cs,e,k⟩:=k
  exact ⟨cs,e,J5 ρ h _ (CK ρ h) fs _ hx k⟩
 |sl n nl xs=>
  cases xs with
  |nil=>exact CK ρ h _ v rfl k
  |cons y ys=>simp [flat] at hx
 |pt _=>simp [flat] at hx
 |own _ _ _=>exact CK ρ h _ v rfl k
 |loc _ _ _=>exact CK ρ h _ v rfl k
 |und=>exact CK ρ h _ v rfl k
 |b _=>exact CK ρ h _ v rfl k
 |i _ _=>exact CK ρ h _ v rfl k
 |s _=>exact CK ρ h _ v rfl k
 |nilp=>exact CK ρ h _ v rfl k
 |nilf=>exact CK ρ h _ v rfl k
 |raw _=>exact CK ρ h _ v rfl k
end
mutual
theorem VP {w:World} {μ μ':Mu} (ρ:Nat→Nat) (h: ∀id,μ id≠none→μ' (ρ id)=μ id) (hr: ∀a u,Rd w μ a u→Rd w μ' a u): ∀(x:AV) (v:Value),VR w μ x v→VR w μ' (x.ren ρ) v
 | .und,_,_=>by simp only [AV.ren,VR]
 | .b x,v,k=>by simp only [AV.ren,VR] at k ⊢;exact CG hr _ _ k
 | .i x y,v,k=>by simp only [AV.ren,VR] at k ⊢;exact CG hr _ _ k
 | .s x,v,k=>by simp only [AV.ren,VR] at k ⊢;exact CG hr _ _ k
 | .sl n nl xs,v,k=>by simp only [AV.ren,VR] at k ⊢;exact CG hr _ _ k
 | .pt cs,v,k=>by simp only [AV.ren,VR] at k ⊢;exact CG hr _ _ k
 | .own id off len,v,k=>by
   simp only [AV.ren,VR] at k ⊢
   have:=h id (by intro e;simp only [e] at k)
   rw [this];exact k
 | .loc id j o,v,k=>by
   simp only [AV.ren,VR] at k ⊢
   have:=h id (by intro e;simp only [e] at k)
   rw [this];exact k
 | .st fs,v,k=>by
   simp only [AV.ren,VR] at k ⊢
   obtain ⟨cs,e,k⟩:=k
   exact ⟨cs,e,Ow ρ h hr fs _ k⟩
 | .tup fs,v,k=>by
   simp only [AV.ren,VR] at k ⊢
   obtain ⟨cs,e,k⟩:=k
   exact ⟨cs,e,Ow ρ h hr fs _ k⟩
 | .fn f fs,v,k=>by
   simp only [AV.ren,VR] at k ⊢
   obtain ⟨cs,e,k⟩:=k
   exact ⟨cs,e,Ow ρ h hr fs _ k⟩
 | .nilp,_,k=>by simpa only [AV.ren,VR] using k
 | .nilf,_,k=>by simpa only [AV.ren,VR] using k
 | .raw _,_,k=>by simpa only [AV.ren,VR] using k
theorem Ow {w:World} {μ μ':Mu} (ρ:Nat→Nat) (h: ∀id,μ id≠none→μ' (ρ id)=μ id) (hr: ∀a u,Rd w μ a u→Rd w μ' a u): ∀(xs:List AV) (vs:List Value),D2 w μ xs vs→D2 w μ' (D3 ρ xs) vs
 | [],vs,k=>by simpa only [D3,D2] using k
 |x::xs,vs,k=>by
  simp only [D3,D2] at k ⊢
  obtain ⟨v,r,e,k1,k2⟩:=k
  exact ⟨v,r,e,VP ρ h hr x v k1,Ow ρ h hr xs r k2⟩
end
theorem QT (ρ:Nat→Nat) (x:AV):(x.ren ρ).cells=D3 ρ x.cells:=by
 cases x<;>simp only [AV.ren,AV.cells,D3]
theorem Tf (ρ:Nat→Nat) (xs:List AV) (i:Nat):(D3 ρ xs)[i]? =xs[i]?.map (AV.ren ρ):=by rw [N8,List.getElem?_map]
theorem O4 (ρ:Nat→Nat) (xs:List AV):(D3 ρ xs).length=xs.length:=by rw [N8,List.length_map]
def Mu.plus (μ:Mu) (n m:Nat) (μ':Mu):Mu:=⟨fun i=>if n≤i∧i<n+m then μ' (i-n) else μ i,μ.Y⟩
theorem QE {w0 w w':World} {μ μ':Mu} {h:A7} {S:List Obj} (s:FM w0 μ w h) (hf: ∀id,h.next≤id→id<h.next+S.length→μ id=none) (s':FM w μ' w' (S0 S)) (hf': ∀id,S.length≤id→μ' id=none)
  {r:AV} {v:Value} (hv:VR w' μ' r v)
  (hx: ∀(x:AV) (u:Value),(x=r∨ ∃o∈S,∃y∈o.els,x∈y.cells)→VR w' μ' x u→VR w' (μ.plus h.next S.length μ') (x.ren (· +h.next)) u):
  Hw w0 μ w h (μ.plus h.next S.length μ') w' (h.add S)∧VR w' (μ.plus h.next S.length μ') (r.ren (· +h.next)) v:=by
 have hold: ∀g,g<w.heap.size→w'.heap[g]? =w.heap[g]? :=fun g hg=>s'.below.block g hg
 have e:ID w μ w' (μ.plus h.next S.length μ'):=by
  refine ID.of (fun g hg _=>hold g hg) (fun id t ht=>Or.inl ?_) ?_
  ·dsimp only [Mu.plus];split
   ·rename_i hi;rw [hf id hi.1 hi.2] at ht;cases ht
   ·exact ht
  ·rintro g (hy|⟨id,t,ht,rfl⟩)
   ·exact Or.inl (Or.inl hy)
   dsimp only [Mu.plus] at ht;split at ht
   ·exact Or.inr (s'.lt _ t ht).1
   ·exact Or.inl (Or.inr ⟨id,t,ht,rfl⟩)
 refine ⟨⟨⟨?_,?_,?_,?_,s.ylt,?_⟩,hold,?_,?_,Nat.le_add_right _ _,rfl⟩,hx r v (Or.inl rfl) hv⟩
 ·exact s.below.trans (s'.below.mono s.below.size)
 ·intro id t ht
  dsimp only [Mu.plus] at ht;split at ht
  ·have:=s'.lt _ t ht;have:=s.below.size;exact ⟨by omega,by omega⟩
  ·have:=s.lt id t ht;have:=s'.below.size;exact ⟨by omega,by omega⟩
 ·intro id id' t t' ht ht' hg
  dsimp only [Mu.plus] at ht ht'
  split at ht<;>split at ht'
  ·have:=s'.inj _ _ t t' ht ht' hg;omega
  ·have:=s'.lt _ t ht;have:=s.lt _ t' ht';omega
  ·have:=s'.lt _ t' ht';have:=s.lt _ t ht;omega
  ·exact s.inj id id' t t' ht ht' hg
 ·intro id p hp
  rw [JV] at hp
  dsimp only [Mu.plus]
  split at hp
  ·rename_i hi
   rw [if_pos hi]
   obtain ⟨q,hq,_⟩:=Option.map_eq_some_iff.1 hp
   exact s'.live _ q (by rw [Fh];exact hq)
  ·rename_i hi;rw [if_neg hi];exact s.live id p hp
 ·intro id p t hp ht
  rw [JV] at hp
  dsimp only [Mu.plus] at ht
  split at ht
  ·rename_i hi
   rw [if_pos hi] at hp
   obtain ⟨q,hq,rfl⟩:=Option.map_eq_some_iff.1 hp
   have B:=s'.blk _ q t (by rw [Fh];exact hq) ht
   obtain ⟨cs,c1,c2,c3⟩:=B.blk
   have hels:(q.ren (· +h.next)).els=D3 (· +h.next) q.els:=QS _ _
   refine ⟨B.k,B.pos,by rw [hels,O4];exact B.len,B.cap,cs,c1,c2,fun j x hx'=> ?_⟩
   rw [hels,Tf] at hx'
   obtain ⟨y,hy,rfl⟩:=Option.map_eq_some_iff.1 hx'
   obtain ⟨q1,q2⟩:=c3 j y hy
   refine ⟨by rw [QT,O4];exact q1,fun i z hz=> ?_⟩
   rw [QT,Tf] at hz
   obtain ⟨z',hz',rfl⟩:=Option.map_eq_some_iff.1 hz
   obtain ⟨u,u1,u2,u3⟩:=q2 i z' hz'
   exact ⟨u,u1,hx z' u (Or.inr ⟨q,List.mem_of_getElem? hq,y,List.mem_of_getElem? hy,List.mem_of_getElem? hz'⟩) u2,u3⟩
  ·rename_i hi
   rw [if_neg hi] at hp
   exact (s.blk id p t hp ht).mono e (hold _ (s.lt id t ht).2)
 ·intro id t ht
  dsimp only [Mu.plus];split
  ·rename_i hi;rw [hf id hi.1 hi.2] at ht;cases ht
  ·exact ht
 ·intro id t ht
  dsimp only [Mu.plus] at ht;split at ht
  ·rename_i hi
   refine Or.inr ⟨hi.1,hi.2,?_⟩
   cases t with
   |none=>
    exfalso
    have:id-h.next<S.length:=by omega
    exact s'.live (id-h.next) S[id-h.next] (by rw [Fh];exact List.getElem?_eq_getElem this) ht
   |some t=>exact ⟨t,rfl,(s'.lt _ t ht).1⟩
  ·exact Or.inl ht
end
end Go.Lift
namespace Go.Lift
noncomputable section
open Go Go.RowKit
def eqF (T:Ep) (t:TypeId) (x y:AV):Option Bool:=
 match x,y with
 | .i k a,.i k' b=>match Ci T t with
   | .int k''=>if k=k'∧k=k'' then some (decide (a=b)) else none
   |_=>none
 | .s a,.s b=>if Ci T t= .str then some (decide (a=b)) else none
 | .b a,.b b=>if Ci T t= .bool then some (a==b) else none
 |_,_=>none
def UT (T:Ep):List (Nat×TypeId)→List AV→List AV→Option Bool
 | [],_,_=>some true
 |(off,t)::r,xs,ys=>match xs[off]?,ys[off]? with
  |some x,some y=>match eqF T t x y,UT T r xs ys with
   |some a,some b=>some (a&&b)
   |_,_=>none
  |_,_=>none
def eqTy (P:Program) (t:TypeId):Bool:= !P.eqGuardType P.depth t&& !P.stoodInHeld t&&(P.fieldsOf t).toList.all fun f=>f.name != "_"
section
variable {P:Program} {T:Ep} (hT:Dh P T=true)
include hT
theorem eqF_ok {w:World} {μ:Mu} {t:TypeId} {x y:AV} {b:Bool} (h:eqF T t x y=some b) {u v:Value} (hu:VR w μ x u) (hv:VR w μ y v) (d:Nat):
  (∀(cs:Array Value) (off:Nat),cs[off]? =some u→(part t cs off).run P w= .ok u w)∧(∀(cs:Array Value) (off:Nat),cs[off]? =some v→(part t cs off).run P w= .ok v w)∧
  (Op.equalIn (d+1) t u v).run P w= .ok b w:=by
 have key: ∀i,AJ T t=some i→i.desc.agg=false→ ∀(z:Value) (cs:Array Value) (off:Nat),cs[off]? =some z→(part t cs off).run P w= .ok z w:=by
  intro i hi hag z cs off hz
  simp [part,Ji hT hi,hag,hz]
 unfold eqF at h
 split at h
 ·rename_i k a k' b'
  split at h
  ·rename_i k'' hd
   split at h
   ·rename_i hk
    obtain ⟨rfl,rfl⟩:=hk
    cases h
    simp only [VR,CR] at hu hv
    subst hu;subst hv
    unfold Ci at hd
    split at hd
    ·rename_i i hi
     have hag:i.desc.agg=false:=by rw [hd];rfl
     refine ⟨fun cs off=>key i hi hag _ cs off,fun cs off=>key i hi hag _ cs off,?_⟩
     rw [run_equalIn_int w d t k k a b' (S2 hT hi hd)]
     rfl
    ·cases hd
   ·cases h
  ·cases h
 ·rename_i a b'
  split at h
  ·rename_i hd
   cases h
   simp only [VR,CR] at hu hv
   obtain ⟨rfl,_⟩:=hu
   obtain ⟨rfl,_⟩:=hv
   unfold Ci at hd
   split at hd
   ·rename_i i hi
    have hag:i.desc.agg=false:=by rw [hd];rfl
    refine ⟨fun cs off=>key i hi hag _ cs off,fun cs off=>key i hi hag _ cs off,?_⟩
    rw [run_equalIn_string w d t a b' (S3 hT hi hd),PM]
   ·cases hd
  ·cases h
 ·rename_i a b'
  split at h
  ·rename_i hd
   cases h
   simp only [VR,CR] at hu hv
   subst hu;subst hv
   unfold Ci at hd
   split at hd
   ·rename_i i hi
    have hag:i.desc.agg=false:=by rw [hd];rfl
    exact ⟨fun cs off=>key i hi hag _ cs off,fun cs off=>key i hi hag _ cs off,run_equalIn_bool' w d t a b' (PK hT hi hd)⟩
   ·cases hd
  ·cases h
 ·cases h
theorem Uq {w:World} {μ:Mu} {xs ys:List AV} {cs ds:Array Value} (hx:D2 w μ xs cs.toList) (hy:D2 w μ ys ds.toList) (d:Nat):
  ∀ {fs:List Field} {b:Bool},(fs.all fun f=>f.name != "_")=true→UT T (fs.map fun f=>(f.offset,f.type)) xs ys=some b→(Op.eqFields (d+1) cs ds fs).run P w= .ok b w
 | [],b,_,h=>by simp only [List.map_nil,UT] at h;cases h;simp [Op.eqFields]
 |f::fs,b,hn,h=>by
  simp only [List.all_cons,Bool.and_eq_true,bne_iff_ne] at hn
  simp only [List.map_cons,UT] at h
  split at h
  ·rename_i x y e1 e2
   split at h
   ·rename_i a b' h1 h2
    cases h
    obtain ⟨u,u1,u2⟩:=GC hx _ _ e1
    obtain ⟨v,v1,v2⟩:=GC hy _ _ e2
    obtain ⟨k1,k2,k3⟩:=eqF_ok (P:=P) hT h1 u2 v2 d
    have p1:=k1 cs f.offset (by simpa using u1)
    have p2:=k2 ds f.offset (by simpa using v1)
    have ih:=Uq hx hy d hn.2 h2
    rw [Op.eqFields,if_pos hn.1]
    simp only [Sem.run_bind,p1,p2,k3,Result.andThen_ok]
    cases a
    ·simp
    ·simpa using ih
   ·cases h
  ·cases h
theorem UG {w:World} {μ:Mu} {op:BinOp} {t:TypeId} {xs ys:List AV} {gs:List (Nat×TypeId)} {b c:Bool} (he:eqTy P t=true) (hd:Ci T t= .struct gs) (hb:UT T gs xs ys=some b)
  (hop:(op= .eql∧c=b)∨(op= .neq∧c= !b)) (ox oy:Operand) {u v:Value} (hu:VR w μ (.st xs) u) (hv:VR w μ (.st ys) v):
  (do eqGuard op t ox oy u v;binOp op t u v:Sem Value).run P w= .ok (.bool c) w:=by
 simp only [VR] at hu hv
 obtain ⟨cs,rfl,hcs⟩:=hu
 obtain ⟨ds,rfl,hds⟩:=hv
 simp only [eqTy,Bool.and_eq_true,Bool.not_eq_true'] at he
 obtain ⟨⟨g1,g2⟩,g3⟩:=he
 unfold Ci at hd
 split at hd
 ·rename_i i hi
  obtain ⟨fs,hf,hg⟩:=Jl hT hi hd
  have hfo:P.fieldsOf t=fs:=by unfold Program.fieldsOf;rw [hf]
  have hu:P.underlying t=some (.struct (P.fieldsOf t)):=by rw [hfo];exact hf
  have hr:(Op.equalIn 10000 t (.agg cs) (.agg ds)).run P w= .ok b w:=by
   rw [run_equalIn_agg w 9999 t cs ds hu g2]
   refine Uq (P:=P) hT hcs hds 9998 g3 ?_
   rw [hfo,hg];exact hb
  rcases hop with ⟨rfl,rfl⟩|⟨rfl,rfl⟩
  ·simp only [Sem.run_bind,run_eqGuard_agg w _ t ox oy cs ds g1,Result.andThen_ok,run_eql_struct,hr]
  ·simp only [Sem.run_bind,run_eqGuard_agg w _ t ox oy cs ds g1,Result.andThen_ok,run_neq_struct,hr]
 ·cases hd
end
def stq (T:Ep) (ρ:E3) (o:Oper):Option AV:=
 match o.op with
 | .binOp op xt x y _=>match ρ (Kb T xt) x,ρ (Kb T xt) y,Ci T xt with
   |some (.st fs),some (.st gs),.struct offs=>match op,UT T offs fs gs with
    | .eql,some b=>some (.b b)
    | .neq,some b=>some (.b (!b))
    |_,_=>none
   |_,_,_=>none
 |_=>none
def stTy (P:Program) (o:Oper):Bool:=match o.op with
 | .binOp _ xt _ _ _=>eqTy P xt
 |_=>false
theorem stq_ok {P:Program} {T:Ep} (hT:Dh P T=true) {ρ:E3} {o:Oper} {r:AV} (e:stq T ρ o=some r) (ht:stTy P o=true) {w:World} {μ:Mu} {c:Operand→Value}
  (hx: ∀x∈o.op.operands,∀k y,ρ k x=some y→VR w μ y (c x)): ∃z,(execOp c o).run P w= .ok (.value z) w∧VR w μ r z:=by
 unfold stq at e
 unfold stTy at ht
 split at e
 ·rename_i op xt x y yt ho
  rw [ho] at ht hx
  dsimp only at ht
  split at e
  ·rename_i fs gs offs e1 e2 hd
   have hu:=hx x (by simp [Op.operands]) _ _ e1
   have hv:=hx y (by simp [Op.operands]) _ _ e2
   split at e
   ·rename_i b hb
    cases e
    refine ⟨.bool b,?_,by simp only [VR,CR]⟩
    unfold execOp;rw [ho]
    exact Fm (UG hT ht hd hb (Or.inl ⟨rfl,rfl⟩) x y hu hv)
   ·rename_i b hb
    cases e
    refine ⟨.bool (!b),?_,by simp only [VR,CR]⟩
    unfold execOp;rw [ho]
    exact Fm (UG hT ht hd hb (Or.inr ⟨rfl,rfl⟩) x y hu hv)
   ·cases e
  ·cases e
 ·cases e
def K0 (T:Ep) (ρ:E3):List Operand→List TypeId→Option (List AV)
 | [],_=>some []
 |x::xs,t::ts=>match ρ (Kb T t) x,K0 T ρ xs ts with
  |some y,some ys=>some (y::ys)
  |_,_=>none
 |x::xs,[]=>match ρ 0 x,K0 T ρ xs [] with
  |some y,some ys=>some (y::ys)
  |_,_=>none
def callee (T:Ep) (ρ:E3) (o:Oper):Option (FuncId×List AV):=
 match o.op with
 | .call c=>match c.callee with
   | .value f=>match ρ 0 f,K0 T ρ c.args.toList c.argTypes.toList with
     |some (.fn g caps),some ys=>some (g,ys++caps)
     |_,_=>none
   |_=>none
 |_=>none
inductive CallOk (P:Program) (W:World) (T:Ep) (ρ:E3) (h:A7) (o:Oper) (r:AV) (h':A7):Prop
 |closed (g:FuncId) (vs:List AV) (r0:AV) (S:List Obj) (hc:callee T ρ o=some (g,vs)) (hcl:Ab vs=true) (hp:Ar P W g vs r0 S) (hr:r=r0.ren (· +h.next)) (hh:h'=h.add S)
 |flat (g:FuncId) (vs ss:List AV) (r0:AV) (S:List Obj) (hc:callee T ρ o=some (g,vs)) (hs:mapC (BU [] h 8) vs=some ss) (hp:Ar P W g ss r0 S)
  (hf:flat r0=true) (hF:S.all (fun o=>o.els.all fun y=>y.cells.all flat)=true) (hr:r=r0.ren (· +h.next)) (hh:h'=h.add S)
inductive MD (P:Program) (W:World) (T:Ep) (ρ:E3) (h:A7) (o:Oper) (r:AV) (h':A7):Prop
 |q (e:Iz T ρ h o=some r) (hh:h'=h)
 |n (e:VH T ρ h o=some (r,h'))
 |c (e:CallOk P W T ρ h o r h')
 |s (e:stq T ρ o=some r) (ht:stTy P o=true) (hh:h'=h)
 |g (hg: ∀(w:World) (μ:Mu) (c:Operand→Value),Ga W w→(∀x∈o.op.operands,∀k y,ρ k x=some y→VR w μ y (c x))→ ∃z,(execOp c o).run P w= .ok (.value z) w∧VR w μ r z) (hh:h'=h)
theorem Nw {T:Ep} {ρ:E3} {w:World} {μ:Mu} {c:Operand→Value}: ∀ {xs:List Operand} {ts:List TypeId} {ys:List AV},K0 T ρ xs ts=some ys→(∀x∈xs,∀k y,ρ k x=some y→VR w μ y (c x))→D2 w μ ys (xs.map c)
 | [],ts,ys,h,_=>by simp [K0] at h;subst h;simp [D2]
 |x::xs,t::ts,ys,h,hc=>by
  simp only [K0] at h
  split at h
  ·rename_i y zs h1 h2
   cases h
   simp only [List.map_cons,D2]
   exact ⟨_,_,rfl,hc x (by simp) _ y h1,Nw h2 fun z hz=>hc z (by simp [hz])⟩
  ·cases h
 |x::xs,[],ys,h,hc=>by
  simp only [K0] at h
  split at h
  ·rename_i y zs h1 h2
   cases h
   simp only [List.map_cons,D2]
   exact ⟨_,_,rfl,hc x (by simp) _ y h1,Nw h2 fun z hz=>hc z (by simp [hz])⟩
  ·cases h
theorem Md (h:A7) (S:List Obj) (i:Nat) (hi:i<h.next):(h.add S).get i=h.get i:=by
 rw [JV,if_neg (by omega)]
theorem sim_y {w0 w:World} {μ:Mu} {h:A7} (s:FM w0 μ w h) (g:Nat) (hg:μ.mut g):g<w.heap.size:=by
 rcases hg with hy|⟨id,t,ht,rfl⟩
 ·have:=s.ylt g hy;have:=s.below.size;omega
 ·exact (s.lt id t ht).2
section
variable {P:Program} {W:World} {T:Ep}
theorem Nt {ρ:E3} {o:Oper} {g:FuncId} {vs:List AV} (h:callee T ρ o=some (g,vs)) {w:World} {μ:Mu} {a:Act} (hx: ∀x∈o.op.operands,∀k y,ρ k x=some y→VR w μ y (a.eval x)):
  ∃us:List Value,D2 w μ vs us∧((∀(us:Array Value) (w:World),(callFunc (g % 1000000) us).run P w= .ok (.enter (g % 1000000) us) w)→(execOp a.eval o).run P w= .ok (.enter (g % 1000000) (PN g us)) w):=by
 unfold callee at h
 split at h
 ·rename_i c ho
  split at h
  ·rename_i f hcal
   split at h
   ·rename_i g' caps vs' e1 e2
    cases h
    have hf:=hx f (by rw [ho];simp [Op.operands,Call.operands,hcal]) _ _ e1
    have has:=Nw (c:=a.eval) e2 fun x hm=>hx x (by rw [ho];simp only [Op.operands,Call.operands,hcal,Array.mem_append];exact Or.inr (by simpa using hm))
    simp only [VR] at hf
    obtain ⟨cs,ef,hcs⟩:=hf
    refine ⟨c.args.toList.map a.eval++cs.toList,KH has hcs,fun he=> ?_⟩
    unfold execOp
    rw [ho]
    rcases ef with ⟨hM,ef⟩|⟨hM,hsz,ef⟩
    ·have e3:(c.args.map a.eval++cs)=(c.args.toList.map a.eval++cs.toList).toArray:=by
       apply Array.ext';simp
     rw [J3 hM] at he ⊢
     simp only [resolve,hcal,ef,Deferred.ofValue,Sem.run_bind,Sem.run_pure,Result.andThen_ok,invoke,Array.empty_append,JS hM]
     first
      |rw [e3,he]
      |(simp only [e3,he])
    ·have e3:(cs++c.args.map a.eval)=PN g (c.args.toList.map a.eval++cs.toList):=by
       unfold PN
       rw [if_neg (Nat.not_lt.2 hM)]
       have hl:(c.args.toList.map a.eval++cs.toList).length-g /1000000=(c.args.toList.map a.eval).length:=by
        rw [List.length_append,←hsz];simp
       rw [hl,List.drop_left,List.take_left]
       apply Array.ext';simp
     simp only [resolve,hcal,ef,Deferred.ofValue,Sem.run_bind,Sem.run_pure,Result.andThen_ok,invoke,Array.append_empty]
     first
      |rw [e3,he]
      |(simp only [e3,he])
   ·cases h
  ·cases h
 ·cases h
theorem Wj (hT:Dh P T=true) {ρ:E3} {h h':A7} {o:Oper} {r:AV} (he:MD P W T ρ h o r h') {w0 w:World} {μ:Mu} {a:Act} (hG:Ga W w0) (s:FM w0 μ w h) (hf: ∀id,h.next≤id→id<h'.next→μ id=none)
  (hx: ∀x∈o.op.operands,∀k y,ρ k x=some y→VR w μ y (a.eval x)) {K:Act→World→Prop} {Q:Exit→Act→World→Prop}
  (hK: ∀v w' μ',VR w' μ' r v→Hw w0 μ w h μ' w' h'→K (a.put o.dst v) w'):o.wp P a w K Q:=by
 cases he with
 |q e hh=>
  subst hh
  obtain ⟨v,w',μ',h1,h2,h3⟩:=qop_ok hT e w0 μ w a.eval s hf hx
  unfold Oper.wp;rw [h1];exact hK v w' μ' h2 h3
 |n e=>
  obtain ⟨v,w',μ',h1,h2,h3⟩:=nop_ok hT e w0 μ w a.eval s hf hx
  unfold Oper.wp;rw [h1];exact hK v w' μ' h2 h3
 |s e ht hh=>
  subst hh
  obtain ⟨v,h1,h2⟩:=stq_ok hT e ht hx
  unfold Oper.wp;rw [h1];exact hK v w μ h2 (Hw.refl s)
 |g hg hh=>
  subst hh
  obtain ⟨v,h1,h2⟩:=hg w μ a.eval (hG.mono s.below) hx
  unfold Oper.wp;rw [h1];exact hK v w μ h2 (Hw.refl s)
 |c e=>
  cases e with
  |closed g vs r0 S hc hcl hp hr hh=>
   subst hr;subst hh
   obtain ⟨us,hus,hrun⟩:=Nt (P:=P) hc hx
   unfold Oper.wp;rw [hrun hp.enters]
   have hcr:FL w (Eo μ.mut) vs us:=Gs (fun a u ⟨h1,h2,h3⟩=>⟨h1,(fun q=>by
    rcases q with q|⟨_,_,q,_⟩
    ·exact h2 q
    ·cases q),h3⟩) _ _ (Dl _ _ hcl hus)
   refine (hp.calls w μ.mut us (hG.mono s.below) (sim_y s) hcr).mono ?_
   rintro e w' ⟨v,μ',rfl,hy,hv,s',hf'⟩
   have hren: ∀id,μ' id≠none→(μ.plus h.next S.length μ') (id+h.next)=μ' id:=by
    intro id hi
    have:id<S.length:=by
     rcases Nat.lt_or_ge id S.length with q|q
     ·exact q
     ·exact absurd (hf' id q) hi
    dsimp only [Mu.plus]
    rw [if_pos (by omega)]
    congr 1;omega
   obtain ⟨k1,k2⟩:=QE s (fun id p q=>hf id p q) s' hf' hv (fun x u _ hxu=>VP _ hren (by
    rintro ad q ⟨h1,h2,h3⟩
    refine ⟨h1,?_,h3⟩
    rintro (hh|⟨id,t,ht,hg⟩)
    ·exact h2 (Or.inl (by rw [hy];exact Or.inl hh))
    ·dsimp only [Mu.plus] at ht;split at ht
     ·exact h2 (Or.inr ⟨_,t,ht,hg⟩)
     ·exact h2 (Or.inl (by rw [hy];exact Or.inr ⟨id,t,ht,hg⟩))) x u hxu)
   exact hK v w' _ k2 k1
  |flat g vs ss r0 S hc hs hp hfl hF hr hh=>
   subst hr;subst hh
   obtain ⟨us,hus,hrun⟩:=Nt (P:=P) hc hx
   unfold Oper.wp;rw [hrun hp.enters]
   have hk:So μ (Eo μ.Y) []:=by
    intro g hg
    rcases hg with q|⟨_,_,q,_⟩
    ·exact Or.inl q
    ·cases q
   have hcr:FL w (Eo μ.Y) ss us:=MZ s hk (fun x y v=>Iq s hk 8 x y v) hs hus
   refine (hp.calls w μ.Y us (hG.mono s.below) (fun g hg=>sim_y s g (Or.inl hg)) hcr).mono ?_
   rintro e w' ⟨v,μ',rfl,hy,hv,s',hf'⟩
   have hren: ∀id,μ' id≠none→(μ.plus h.next S.length μ') (id+h.next)=μ' id:=by
    intro id hi
    have:id<S.length:=by
     rcases Nat.lt_or_ge id S.length with q|q
     ·exact q
     ·exact absurd (hf' id q) hi
    dsimp only [Mu.plus]
    rw [if_pos (by omega)]
    congr 1;omega
   obtain ⟨k1,k2⟩:=QE s (fun id p q=>hf id p q) s' hf' hv (fun x u hw hxu=>by
    refine Ss _ hren x u ?_ hxu
    rcases hw with rfl|⟨ob,ho,y,hy',hx'⟩
    ·exact hfl
    ·have:=List.all_eq_true.1 (List.all_eq_true.1 (List.all_eq_true.1 hF ob ho) y hy') x hx'
     exact this)
   exact hK v w' _ k2 k1
theorem Wi {ρ:E3} {h h':A7} {o:Oper} {r:AV} (he:MD P W T ρ h o r h'):h.next≤h'.next∧ ∀i,i<h.next→h'.get i=h.get i:=by
 cases he with
 |q e hh=>subst hh;exact ⟨Nat.le_refl _,fun _ _=>rfl⟩
 |s e ht hh=>subst hh;exact ⟨Nat.le_refl _,fun _ _=>rfl⟩
 |g hg hh=>subst hh;exact ⟨Nat.le_refl _,fun _ _=>rfl⟩
 |n e=>
  have hnew: ∀ob:Obj,h.next≤(h.new ob).next∧ ∀i,i<h.next→(h.new ob).get i=h.get i:=fun ob=>⟨Nat.le_succ _,fun i hi=>by rw [Gt,if_neg (by omega)]⟩
  unfold VH at e
  repeat' (split at e)
  all_goals first
   |(cases e;done)
   |(cases e;exact ⟨Nat.le_refl _,fun _ _=>rfl⟩)
   |(cases e;exact hnew _)
 |c e=>
  cases e with
  |closed g vs r0 S hc hcl hp hr hh=>subst hh;exact ⟨Nat.le_add_right _ _,fun i hi=>Md h S i hi⟩
  |flat g vs ss r0 S hc hs hp hfl hF hr hh=>subst hh;exact ⟨Nat.le_add_right _ _,fun i hi=>Md h S i hi⟩
end
end
end Go.Lift
namespace Go.Lift
noncomputable section
open Go Go.RowKit
def lit (k:Nat):Value→Option AV
 | .bool b=>some (.b b)
 | .int k n=>some (.i k n)
 | .string s=>if s.size≤Gb then some (.s s) else none
 | .slice none 0 0=>some (.sl k true [])
 | .pointer none=>some .nilp
 | .nilFunc=>some .nilf
 |_=>none
def ev (env:C7):E3:=fun k x=>match x with
 | .tmp t=>some (env.get t)
 | .const v=>lit k v
 | .func f=>cond (Nat.ble f 999999) (some (.fn f [])) none
 | .global _=>none
def C7.put (env:C7) (d:Option Tmp) (x:AV):C7:=match d with
 |some d=>(d,x)::env
 |none=>env
theorem C7.get_put (env:C7) (d:Option Tmp) (x:AV) (t:Nat):(env.put d x).get t=if d=some t then x else env.get t:=by
 cases d with
 |none=>rw [if_neg (by simp)];rfl
 |some d=>
  unfold C7.put C7.get
  simp only [Cg]
  by_cases h:t=d
  ·subst h;simp
  ·rw [if_neg h,if_neg (by simpa using fun e=>h e.symm)]
theorem lit_ok {w:World} {μ:Mu} {k:Nat} {v:Value} {x:AV} (h:lit k v=some x):VR w μ x v:=by
 unfold lit at h
 split at h
 ·cases h;simp only [VR,CR]
 ·cases h;simp only [VR,CR]
 ·split at h
  ·rename_i hs;cases h;simp only [VR,CR];exact ⟨trivial,hs⟩
  ·cases h
 ·cases h;simp only [VR,CR];exact Or.inl ⟨trivial,trivial⟩
 ·cases h;simp only [VR]
 ·cases h;simp only [VR]
 ·cases h
theorem SE {w:World} {μ:Mu} {env:C7} {a:Act} {x:Operand} (h: ∀t,x= .tmp t→VR w μ (env.get t) (a.tmps.getD t undef)) {k:Nat} {y:AV} (hy:ev env k x=some y):VR w μ y (a.eval x):=by
 cases x with
 |tmp t=>simp only [ev] at hy;cases hy;exact h t rfl
 |const v=>simp only [ev] at hy;exact lit_ok hy
 |func f=>
  simp only [ev] at hy
  cases hb:Nat.ble f 999999 with
  |false=>rw [hb] at hy;cases hy
  |true=>rw [hb] at hy;cases hy;simp only [VR,D2];exact ⟨#[],Or.inl ⟨Nat.lt_succ_of_le (Nat.le_of_ble_eq_true hb),rfl⟩,rfl⟩
 |global g=>simp [ev] at hy
structure Sk (P:Program) (W:World) (f:FuncId) (args:List AV) (h:A7) (r:AV) (h':A7):Prop where
 enters: ∀(vs:Array Value) (w:World),(callFunc f vs).run P w= .ok (.enter f vs) w
 small:f<1000000
 calls: ∀(w0:World) (μ:Mu) (w:World) (vs:List Value),Ga W w0→FM w0 μ w h→(∀id,h.next≤id→μ id=none)→D2 w μ args vs→
  Calls P f vs.toArray w fun e w'=> ∃v μ',e= .returned v∧VR w' μ' r v∧Mh w0 μ w h μ' w' h'
inductive Sm (P:Program) (W:World) (T:Ep) (ρ:E3) (h:A7) (o:Oper) (r:AV) (h':A7):Prop
 |x (e:MD P W T ρ h o r h')
 |e (e:Nv T ρ h o=some (r,h'))
 |c (g:FuncId) (vs:List AV) (hc:callee T ρ o=some (g,vs)) (hp:Sk P W g vs h r h')
def Di (ops:Array Oper) (env:C7) (o:Oper):Option Bool:=match o.guard with
 |none=>some true
 |some (j,want)=>match (ops[j]?).bind (·.dst) with
  |some d=>match env.get d with
   | .b t=>some (t==want)
   | .tup []=>some false
   |_=>none
  |none=>none
def DD (n:Nat) (o:Oper):Bool:=match o.dst with
 |some d=>decide (d<n)
 |none=>true
theorem EZ {ops:Array Oper} {env:C7} {o:Oper} {b:Bool} (h:Di ops env o=some b) {w:World} {μ:Mu} {tmps:Array Value}
  (he: ∀j want d,o.guard=some (j,want)→(ops[j]?).bind (·.dst)=some d→VR w μ (env.get d) (tmps.getD d undef)):Region.wanted o (yielded ops tmps)=b:=by
 unfold Di at h
 unfold Region.wanted
 split at h
 ·rename_i hg;cases h;rw [hg]
 ·rename_i j want hg
  rw [hg]
  split at h
  ·rename_i d hd
   have hv:=he j want d hg hd
   split at h
   ·rename_i t ht
    cases h
    rw [ht] at hv
    simp only [VR,CR] at hv
    have hy:yielded ops tmps j=some t:=by
     unfold yielded
     rw [hd]
     simp only [Option.bind_some]
     rw [Array.getD_eq_getD_getElem?] at hv
     cases e:tmps[d]? with
     |none=>rw [e] at hv;simp [undef] at hv
     |some u=>rw [e] at hv;simp at hv;rw [hv]
    simp only [hy]
    cases t<;>cases want<;>rfl
   ·rename_i hd2
    cases h
    rw [hd2] at hv
    simp only [VR,D2] at hv
    obtain ⟨cs,e,hcs⟩:=hv
    have hy:yielded ops tmps j=none:=by
     unfold yielded
     rw [hd]
     simp only [Option.bind_some]
     rw [Array.getD_eq_getD_getElem?] at e
     cases e2:tmps[d]? with
     |none=>rfl
     |some u=>rw [e2] at e;simp at e;rw [e]
    simp only [hy]
    cases want<;>rfl
   ·cases h
  ·cases h
section
variable {P:Program} {W:World} {T:Ep} (hT:Dh P T=true) {n:Nat}
include hT
theorem P7 {a:Act} {d:Option Tmp} {v:Value} (hd: ∀t,d=some t→t<a.tmps.size) (t:Nat):(a.put d v).tmps.getD t undef=if d=some t then v else a.tmps.getD t undef:=by
 cases d with
 |none=>rw [if_neg (by simp)];rfl
 |some d=>
  have:=hd d rfl
  simp only [Act.put,Array.getD_eq_getD_getElem?,Array.getElem?_setIfInBounds]
  by_cases h:d=t
  ·subst h;simp [this]
  ·rw [if_neg h,if_neg (by simpa using h)]
theorem Pw {a:Act} {d:Option Tmp} {v:Value}:(a.put d v).tmps.size=a.tmps.size:=by
 cases d with
 |none=>rfl
 |some d=>simp [Act.put]
theorem My {a:Act} {d:Option Tmp} {v:Value}:(a.put d v).defers=a.defers:=by cases d<;>rfl
theorem FK {B:HD} {w0 w w':World} {μ μ':Mu} {env:C7} {h h':A7} {a:Act} (R:ER n B w0 μ env h a w) (st:Mh w0 μ w h μ' w' h') {d:Option Tmp} (hd: ∀t,d=some t→t<n) {x:AV} {v:Value} (hv:VR w' μ' x v):
  ER n B w0 μ' (env.put d x) h' (a.put d v) w' where
 glob:=R.glob
 snc:=R.snc.step st R.low
 low:=Nat.le_trans R.low st.next
 sim:=st.sim
 env:=fun t=>by
  rw [C7.get_put,P7 hT (by rw [R.sz];exact hd)]
  split
  ·exact hv
  ·exact IQ st.ext _ _ (R.env t)
 sz:=by rw [Pw hT];exact R.sz
 dfr:=by rw [My hT];exact R.dfr
 fresh:=fun id hi=>by
  cases e:μ' id with
  |none=>rfl
  |some s=>
   have hle:=st.next
   have:=st.dom id (R.fresh id (by omega)) (by rw [e];simp)
   omega
theorem OZ {env:C7} {h h':A7} {o:Oper} {r:AV} (he:Sm P W T (ev env) h o r h') {B:HD} (hB:B.W=W) {w0 w:World} {μ:Mu} {a:Act} (R:ER n B w0 μ env h a w) (hd:DD n o=true) {K:Act→World→Prop} {Q:Exit→Act→World→Prop}
  (hK: ∀a' w' μ',ER n B w0 μ' (env.put o.dst r) h' a' w'→K a' w'):o.wp P a w K Q:=by
 have hdd: ∀t,o.dst=some t→t<n:=by
  intro t ht
  unfold DD at hd
  rw [ht] at hd
  simpa using hd
 have hx: ∀x∈o.op.operands,∀k y,ev env k x=some y→VR w μ y (a.eval x):=fun x _ k y hy=>SE (fun t _=>R.env t) hy
 cases he with
 |x e=>exact Wj hT e (hB ▸ R.glob) R.sim (fun id p _=>R.fresh id p) hx fun v w' μ' hv g=>hK _ _ _ (FK hT R g.step hdd hv)
 |e e=>
  obtain ⟨v,w',μ',h1,h2,h3⟩:=Wg hT e w0 μ w a.eval R.sim R.fresh hx
  unfold Oper.wp
  rcases h1 with h1|⟨h1,rfl⟩
  ·rw [h1];exact hK _ _ _ (FK hT R h3 hdd h2)
  ·rw [h1];exact hK _ _ _ (FK hT R h3 hdd h2)
 |c g vs hc hp=>
  obtain ⟨us,hus,hrun⟩:=Nt (P:=P) hc hx
  rw [J3 hp.small,JS hp.small] at hrun
  unfold Oper.wp;rw [hrun hp.enters]
  refine (hp.calls w0 μ w us (hB ▸ R.glob) R.sim R.fresh hus).mono ?_
  rintro e w' ⟨v,μ',rfl,hv,st⟩
  exact hK _ _ _ (FK hT R st hdd hv)
end
def A4 (P:Program) (W:World) (T:Ep) (n:Nat) (ops:Array Oper):List Oper→C7→A7→(C7→A7→Prop)→Prop
 | [],env,h,Q=>Q env h
 |o::r,env,h,Q=>match Di ops env o with
  |some true=>DD n o=true∧ ∃x h',Sm P W T (ev env) h o x h'∧A4 P W T n ops r (env.put o.dst x) h' Q
  |some false=>DD n o=true∧A4 P W T n ops r (env.put o.dst (.tup [])) h Q
  |none=>False
theorem Jf {P:Program} {W:World} {T:Ep} (hT:Dh P T=true) {n:Nat} {ops:Array Oper} {Q:Exit→Act→World→Prop}:
  ∀(l:List Nat) {os:List Oper} {env:C7} {h:A7} {R:C7→A7→Prop},l.map (fun i=>ops[i]?)=os.map some→A4 P W T n ops os env h R→
   ∀ {B:HD} (_:B.W=W) {w0:World} {μ:Mu} {a:Act} {w:World},ER n B w0 μ env h a w→(∀env' h' μ' a' w',R env' h'→ER n B w0 μ' env' h' a' w'→Q .normal a' w')→wpOps P ops Q l a w
 | [],os,env,h,R,hl,k,B,hB,w0,μ,a,w,rel,hQ=>by
   have:os=[]:=by cases os<;>simp at hl;rfl
   subst this
   exact hQ env h μ a w k rel
 |i::l,os,env,h,R,hl,k,B,hB,w0,μ,a,w,rel,hQ=>by
  cases os with
  |nil=>simp at hl
  |cons o os=>
   simp only [List.map_cons,List.cons.injEq] at hl
   obtain ⟨ho,hl⟩:=hl
   simp only [wpOps,ho]
   simp only [A4] at k
   split at k
   ·rename_i hw
    obtain ⟨hd,x,h',he,k⟩:=k
    rw [if_pos (EZ hw (fun j want d _ _=>rel.env d))]
    exact Or.inl (OZ hT he hB rel hd fun a' w' μ' rel'=>Jf hT l hl k hB rel' hQ)
   ·rename_i hw
    obtain ⟨hd,k⟩:=k
    rw [if_neg (by rw [EZ hw (fun j want d _ _=>rel.env d)];simp)]
    have hdd: ∀t,o.dst=some t→t<n:=by
     intro t ht
     unfold DD at hd
     rw [ht] at hd
     simpa using hd
    exact Jf hT l hl k hB (FK hT rel (Hw.refl rel.sim).step hdd (by simp only [VR,D2];exact ⟨#[],rfl,rfl⟩)) hQ
   ·exact k.elim
end
end Go.Lift
namespace Go.Lift
noncomputable section
open Go Go.RowKit
def Lq (acc:List Nat) (o:Oper):Nat:=o.after.toList.foldl (fun s e=>if Region.binds .any e then s|||(2^e.on|||acc.getD e.on 0) else s) 0
def Jz:List Oper→List Nat→List Nat
 | [],acc=>acc
 |o::r,acc=>Jz r (acc++[Lq acc o])
def N4 (ops:Array Oper) (i:Nat):Nat:=(Jz ops.toList []).getD i 0
theorem N1: ∀(l:List Oper) (acc:List Nat),∃r,Jz l acc=acc++r
 | [],acc=>⟨[],by simp [Jz]⟩
 |o::l,acc=>by
  obtain ⟨r,hr⟩:=N1 l (acc++[Lq acc o])
  exact ⟨Lq acc o::r,by simp [Jz,hr]⟩
theorem QJ: ∀(l:List Oper) (acc:List Nat) (i:Nat) (o:Oper),l[i]? =some o→(Jz l acc).getD (acc.length+i) 0=Lq ((Jz l acc).take (acc.length+i)) o
 | [],acc,i,o,h=>by simp at h
 |p::l,acc,i,o,h=>by
  cases i with
  |zero=>
   simp at h;subst h
   obtain ⟨r,hr⟩:=N1 l (acc++[Lq acc p])
   simp only [Jz,hr,Nat.add_zero]
   simp
  |succ i=>
   simp at h
   have:=QJ l (acc++[Lq acc p]) i o h
   simp only [Jz]
   rw [show acc.length+(i+1)=(acc++[Lq acc p]).length+i by simp;omega]
   exact this
theorem P5 (acc:List Nat) (j:Nat): ∀(es:List Edge) (s:Nat),(es.foldl (fun s e=>if Region.binds .any e then s|||(2^e.on|||acc.getD e.on 0) else s) s).testBit j=true→
  s.testBit j=true∨ ∃e∈es,Region.binds .any e=true∧(e.on=j∨(acc.getD e.on 0).testBit j=true)
 | [],s,h=>Or.inl (by simpa using h)
 |e::es,s,h=>by
  simp only [List.foldl_cons] at h
  rcases P5 acc j es _ h with h|⟨e',h1,h2,h3⟩
  ·split at h
   ·rename_i hb
    rw [Nat.testBit_or,Nat.testBit_or,Nat.testBit_two_pow] at h
    simp only [Bool.or_eq_true,decide_eq_true_eq] at h
    rcases h with h|h|h
    ·exact Or.inl h
    ·exact Or.inr ⟨e,by simp,hb,Or.inl h⟩
    ·exact Or.inr ⟨e,by simp,hb,Or.inr h⟩
   ·exact Or.inl h
  ·exact Or.inr ⟨e',by simp [h1],h2,h3⟩
def Fr (ops:Array Oper) (S:Nat→Bool) (i:Nat):Prop:= ∀o,ops[i]? =some o→ ∀e∈o.after.toList,Region.binds .any e=true→S e.on=true
theorem Vl {ops:Array Oper}:(Jz ops.toList []).length=ops.size:=by
 have: ∀(l:List Oper) (acc:List Nat),(Jz l acc).length=acc.length+l.length:=by
  intro l
  induction l with
  |nil=>intro acc;simp [Jz]
  |cons o l ih=>intro acc;simp only [Jz];rw [ih];simp;omega
 rw [this];simp
theorem RQ {ops:Array Oper} {S:Nat→Bool} (hS: ∀i,S i=true→Fr ops S i): ∀(i j:Nat),Fr ops S i→(N4 ops i).testBit j=true→S j=true:=by
 intro i
 induction i using Nat.strongRecOn with
 |_ i ih=>
  intro j hi hj
  unfold N4 at hj
  cases ho:ops[i]? with
  |none=>
   have hl:(Jz ops.toList []).length=ops.size:=Vl
   rw [List.getD_eq_getElem?_getD,List.getElem?_eq_none (by rw [hl];exact Array.getElem?_eq_none_iff.1 ho)] at hj
   simp at hj
  |some o=>
   have hg:=QJ ops.toList [] i o (by simpa using ho)
   simp only [List.length_nil,Nat.zero_add] at hg
   rw [hg] at hj
   unfold Lq at hj
   rcases P5 _ _ _ _ hj with h|⟨e,h1,h2,h3⟩
   ·simp at h
   ·have hs:=hi o ho e h1 h2
    rcases h3 with h3|h3
    ·rw [←h3];exact hs
    ·rw [List.getD_eq_getElem?_getD,List.getElem?_take] at h3
     split at h3
     ·rename_i hlt
      refine ih e.on hlt j (hS _ hs) ?_
      unfold N4
      rw [List.getD_eq_getElem?_getD];exact h3
     ·simp at h3
def IA (ops:Array Oper) (m:Nat) (pu:Nat→Bool):Bool:=
 (List.range ops.size).all fun i=>match ops[i]? with
   |none=>true
   |some o=>o.after.toList.all (fun e=> !Region.binds .any e||decide (e.on<i))&&
    (List.range i).all fun j=>match ops[j]? with
      |none=>true
      |some p=>(N4 ops i).testBit j||((decide (i<m)||pu j)&&p.apart ops o)
abbrev regOk (ops:Array Oper) (m:Nat):Bool:=IA ops m fun _=>false
def JZ (S:Nat→Bool):Nat→Nat
 |0=>0
 |k+1=>JZ S k+if S k then 1 else 0
theorem Uj (S:Nat→Bool): ∀k,JZ S k≤k
 |0=>Nat.le_refl _
 |k+1=>by have:=Uj S k;simp only [JZ];split<;>omega
theorem QA {S:Nat→Bool}: ∀ {k},JZ S k=k→ ∀i,i<k→S i=true
 |0,_,i,hi=>absurd hi (by omega)
 |k+1,h,i,hi=>by
  have:=Uj S k
  simp only [JZ] at h
  split at h
  ·rename_i hk
   rcases Nat.lt_succ_iff_lt_or_eq.1 hi with q|q
   ·exact QA (by omega) i q
   ·subst q;exact hk
  ·omega
theorem Sz {S:Nat→Bool}: ∀ {k},(∀i,i<k→S i=true)→JZ S k=k
 |0,_=>rfl
 |k+1,h=>by simp only [JZ];rw [Sz fun i hi=>h i (by omega),h k (by omega)];simp
theorem OT {S S':Nat→Bool}: ∀ {k},(∀i,i<k→S i=S' i)→JZ S k=JZ S' k
 |0,_=>rfl
 |k+1,h=>by simp only [JZ];rw [OT fun i hi=>h i (by omega),h k (by omega)]
theorem SA {S S':Nat→Bool} {j:Nat} (h1:S j=false) (h2:S' j=true) (h3: ∀i,i≠j→S' i=S i): ∀ {k},j<k→JZ S' k=JZ S k+1
 |0,h=>absurd h (by omega)
 |k+1,h=>by
  simp only [JZ]
  by_cases hk:k=j
  ·subst hk
   rw [h1,h2,OT fun i hi=>h3 i (by omega)];simp
  ·rw [SA h1 h2 h3 (by omega:j<k),h3 k hk];omega
end
end Go.Lift
namespace Go.Lift
noncomputable section
open Go Go.RowKit
def Aw (P:Program) (W:World) (T:Ep) (n:Nat) (ops:Array Oper) (m:Nat):Nat→List Oper→C7→A7→(C7→A7→Prop)→Prop
 |_,[],env,h,Q=>Q env h
 |i,o::r,env,h,Q=>match Di ops env o with
  |some true=>DD n o=true∧ ∃x h',(if i<m then MD P W T (ev env) h o x h' else Sm P W T (ev env) h o x h')∧Aw P W T n ops m (i+1) r (env.put o.dst x) h' Q
  |some false=>DD n o=true∧Aw P W T n ops m (i+1) r (env.put o.dst (.tup [])) h Q
  |none=>False
def HF (P:Program) (W:World) (T:Ep) (n:Nat) (ops:Array Oper) (m:Nat) (E:Nat→C7) (H:Nat→A7) (i:Nat) (o:Oper):Prop:=
 DD n o=true∧((Di ops (E i) o=some true∧ ∃x,(if i<m then MD P W T (ev (E i)) (H i) o x (H (i+1)) else Sm P W T (ev (E i)) (H i) o x (H (i+1)))∧E (i+1)=(E i).put o.dst x)∨
  (Di ops (E i) o=some false∧H (i+1)=H i∧E (i+1)=(E i).put o.dst (.tup [])))
theorem Nj {P:Program} {W:World} {T:Ep} {n:Nat} {ops:Array Oper} {m:Nat}: ∀ {l:List Oper} {i:Nat} {env:C7} {h:A7} {Q:C7→A7→Prop},Aw P W T n ops m i l env h Q→
  ∃E H,E i=env∧H i=h∧(∀j o,l[j]? =some o→HF P W T n ops m E H (i+j) o)∧Q (E (i+l.length)) (H (i+l.length))
 | [],i,env,h,Q,k=>⟨fun _=>env,fun _=>h,rfl,rfl,fun j o ho=>by simp at ho,k⟩
 |o::r,i,env,h,Q,k=>by
  have key: ∀(env1:C7) (h1:A7),Aw P W T n ops m (i+1) r env1 h1 Q→(∀E H,E i=env→H i=h→E (i+1)=env1→H (i+1)=h1→HF P W T n ops m E H i o)→
    ∃E H,E i=env∧H i=h∧(∀j p,(o::r)[j]? =some p→HF P W T n ops m E H (i+j) p)∧Q (E (i+(o::r).length)) (H (i+(o::r).length)):=by
   intro env1 h1 k1 hs
   obtain ⟨E,H,e1,e2,e3,e4⟩:=Nj k1
   refine ⟨fun k=>if k=i then env else E k,fun k=>if k=i then h else H k,by simp,by simp,fun j p hp=> ?_,?_⟩
   ·cases j with
    |zero=>
     simp at hp;subst hp
     exact hs _ _ (by simp) (by simp) (by simp [e1]) (by simp [e2])
    |succ j=>
     simp at hp
     have:=e3 j p hp
     unfold HF at this ⊢
     rw [show i+(j+1)=i+1+j by omega]
     simp only [show ¬(i+1+j=i) by omega,show ¬(i+1+j+1=i) by omega,if_false]
     exact this
   ·simp only [List.length_cons]
    rw [if_neg (by omega),if_neg (by omega),show i+(r.length+1)=i+1+r.length by omega]
    exact e4
  simp only [Aw] at k
  split at k
  ·rename_i hw
   obtain ⟨hd,x,h',he,k⟩:=k
   refine key _ _ k fun E H e1 e2 e3 e4=>⟨hd,Or.inl ⟨by rw [e1];exact hw,x,?_,by rw [e3,e1]⟩⟩
   rw [e1,e2,e4];exact he
  ·rename_i hw
   obtain ⟨hd,k⟩:=k
   exact key _ _ k fun E H e1 e2 e3 e4=>⟨hd,Or.inr ⟨by rw [e1];exact hw,by rw [e4,e2],by rw [e3,e1]⟩⟩
  ·exact k.elim
section
variable {P:Program} {W:World} {T:Ep} (hT:Dh P T=true) {n:Nat} {ops:Array Oper} {m:Nat} {E:Nat→C7} {H:Nat→A7} {pu:Nat→Bool}
def cw (ops:Array Oper) (E:Nat→C7) (S:Nat→Bool) (t:Nat):Nat→AV
 |0=>(E 0).get t
 |k+1=>if S k=true∧(ops[k]?).bind (·.dst)=some t then (E (k+1)).get t else cw ops E S t k
theorem MJ {S S':Nat→Bool} {t:Nat}: ∀ {k},(∀j,j<k→(ops[j]?).bind (·.dst)=some t→S j=S' j)→cw ops E S t k=cw ops E S' t k
 |0,_=>rfl
 |k+1,h=>by
  simp only [cw]
  rw [MJ fun j hj=>h j (by omega)]
  by_cases hd:(ops[k]?).bind (·.dst)=some t
  ·rw [h k (by omega) hd]
  ·simp [hd]
theorem MK {S:Nat→Bool} {t i:Nat}: ∀ {k},i≤k→(∀j,i≤j→j<k→(ops[j]?).bind (·.dst)=some t→S j=false)→cw ops E S t k=cw ops E S t i
 |0,hi,_=>by have:i=0:=by omega
             rw [this]
 |k+1,hi,h=>by
  rcases Nat.lt_or_ge i (k+1) with q|q
  ·simp only [cw]
   rw [if_neg,MK (by omega) fun j h1 h2=>h j h1 (by omega)]
   rintro ⟨a,b⟩
   rw [h k (by omega) (by omega) b] at a;simp at a
  ·have:i=k+1:=by omega
   rw [this]
theorem Rs (hE: ∀i o,i<m→ops[i]? =some o→HF P W T n ops m E H i o) (hmn:m≤ops.size) {t:Nat}: ∀ {k},k≤m→(E k).get t=cw ops E (fun _=>true) t k
 |0,_=>rfl
 |k+1,hk=>by
  simp only [cw]
  have ho:ops[k]? =some ops[k]:=Array.getElem?_eq_getElem (by omega)
  have hs:=hE k _ (by omega) ho
  rw [ho]
  simp only [Option.bind_some,true_and]
  split
  ·rfl
  ·rename_i hd
   rw [←Rs hE hmn (by omega)]
   rcases hs.2 with ⟨_,x,_,e⟩|⟨_,_,e⟩<;>rw [e,C7.get_put,if_neg hd]
theorem QR (hr:IA ops m pu=true) {i:Nat} {o:Oper} (ho:ops[i]? =some o): ∀e∈o.after.toList,Region.binds .any e=true→e.on<i:=by
 intro e he hb
 have hi:i<ops.size:=(Array.getElem?_eq_some_iff.1 ho).1
 have:=List.all_eq_true.1 hr i (by simpa using hi)
 rw [ho] at this
 simp only [Bool.and_eq_true] at this
 have:=List.all_eq_true.1 this.1 e he
 rw [hb] at this
 simpa using this
theorem Px (hr:IA ops m pu=true) {i j:Nat} {o p:Oper} (ho:ops[i]? =some o) (hp:ops[j]? =some p) (hj:j<i):(N4 ops i).testBit j=true∨((i<m∨pu j=true)∧p.apart ops o=true):=by
 have hi:i<ops.size:=(Array.getElem?_eq_some_iff.1 ho).1
 have:=List.all_eq_true.1 hr i (by simpa using hi)
 rw [ho] at this
 simp only [Bool.and_eq_true] at this
 have:=List.all_eq_true.1 this.2 j (by simpa using hj)
 rw [hp] at this
 simp only [Bool.or_eq_true,Bool.and_eq_true,decide_eq_true_eq] at this
 exact this
theorem Pr (hr:IA ops m pu=true) {S:Nat→Bool} (hS: ∀i,S i=true→Fr ops S i) {i j:Nat} {o p:Oper} (ho:ops[i]? =some o) (hp:ops[j]? =some p) (hj:j<i) (hi:Fr ops S i)
  (hc: ¬p.apart ops o=true):S j=true:=by
 rcases Px hr ho hp hj with h|h
 ·exact RQ hS i j hi h
 ·exact absurd h.2 hc
theorem Vn {o:Oper} {t:Tmp} (h:Operand.tmp t∈o.op.operands):t∈o.looksAt ops:=by
 unfold Oper.looksAt
 refine List.mem_append.2 (Or.inl (List.mem_filterMap.2 ⟨.tmp t,by simpa using h,rfl⟩))
theorem SJ {o:Oper} {g:Nat} {want:Bool} {d:Tmp} (h:o.guard=some (g,want)) (hd:(ops[g]?).bind (·.dst)=some d):d∈o.looksAt ops:=by
 unfold Oper.looksAt
 refine List.mem_append.2 (Or.inr ?_)
 simp [h,hd]
theorem Rv {i:Nat} {o:Oper} {t:Tmp} (ho:ops[i]? =some o) (h:(ops[i]?).bind (·.dst)=some t):o.dst=some t:=by
 rw [ho] at h;exact h
theorem Wa (hr:IA ops m pu=true) (hE: ∀i o,i<m→ops[i]? =some o→HF P W T n ops m E H i o) {S:Nat→Bool} (hS: ∀i,S i=true→Fr ops S i) {i:Nat} {o:Oper} (ho:ops[i]? =some o) (hi:Fr ops S i) (hn:S i=false) (him:i<m) (hmn:m≤ops.size)
  {t:Tmp} (ht:t∈o.looksAt ops):cw ops E S t ops.size=(E i).get t:=by
 have hil:i<ops.size:=(Array.getElem?_eq_some_iff.1 ho).1
 rw [Rs hE hmn (by omega),MK (i:=i) (by omega)]
 ·refine MJ fun j hj hd=> ?_
  have hp:ops[j]? =some ops[j]:=Array.getElem?_eq_getElem (by omega)
  have hdj:=Rv hp hd
  rw [Pr hr hS ho hp hj hi fun ha=>(Oper.apart_spec ha).1 t hdj ht]
 ·intro j h1 h2 hd
  rcases Nat.lt_or_ge i j with q|q
  ·have hp:ops[j]? =some ops[j]:=Array.getElem?_eq_getElem (by omega)
   have hdj:=Rv hp hd
   cases hs:S j with
   |false=>rfl
   |true=>
    have:=Pr hr hS hp ho q (hS j hs) fun ha=>(Oper.apart_spec ha).2.2 t hdj ht
    rw [this] at hn;cases hn
  ·have:j=i:=by omega
   subst this;exact hn
theorem UP (hr:IA ops m pu=true) (hE: ∀i o,i<m→ops[i]? =some o→HF P W T n ops m E H i o) {S S':Nat→Bool} (hS: ∀i,S i=true→Fr ops S i) {i:Nat} {o:Oper} (ho:ops[i]? =some o) (hi:Fr ops S i) (hn:S i=false)
  (h1:S' i=true) (h2: ∀j,j≠i→S' j=S j) (t:Tmp):cw ops E S' t ops.size=if o.dst=some t then (E (i+1)).get t else cw ops E S t ops.size:=by
 have hil:i<ops.size:=(Array.getElem?_eq_some_iff.1 ho).1
 split
 ·rename_i hd
  rw [MK (i:=i+1) (by omega)]
  ·simp only [cw]
   rw [if_pos ⟨h1,by rw [ho];exact hd⟩]
  ·intro j q1 q2 hdj
   have hp:ops[j]? =some ops[j]:=Array.getElem?_eq_getElem (by omega)
   rw [h2 j (by omega)]
   cases hs:S j with
   |false=>rfl
   |true=>
    have:=Pr hr hS hp ho (by omega) (hS j hs) fun ha=>(Oper.apart_spec ha).2.1 t hd (Rv hp hdj)
    rw [this] at hn;cases hn
 ·rename_i hd
  refine MJ fun j hj hdj=>h2 j fun e=> ?_
  subst e
  exact hd (Rv ho hdj)
end
end
end Go.Lift
namespace Go.Lift
noncomputable section
open Go Go.RowKit
def HY (listed:Array Bool) (i:Nat):Bool:=listed.getD i false
section
variable {P:Program} {W:World} {T:Ep} {n:Nat} {ops:Array Oper} {m:Nat} {E:Nat→C7} {H:Nat→A7} {pu:Nat→Bool}
theorem LV {listed:Array Bool} (hl:listed.size=ops.size) {i:Nat} (h:i∈Region.ready .any ops listed):i<ops.size∧HY listed i=false∧Fr ops (HY listed) i:=by
 unfold Region.ready at h
 simp only [List.mem_filter,List.mem_range,Bool.and_eq_true,Bool.not_eq_true'] at h
 obtain ⟨h1,h2,h3⟩:=h
 refine ⟨h1,?_,fun o ho e he hb=> ?_⟩
 ·unfold HY
  rw [Array.getD_eq_getD_getElem?] at h2 ⊢
  rw [Array.getElem?_eq_getElem (by omega)] at h2 ⊢
  simpa using h2
 ·rw [ho] at h3
  simp only [Option.map_some,Option.getD_some] at h3
  have:=Array.all_eq_true.1 h3
  obtain ⟨j,hj,rfl⟩:=List.getElem_of_mem he
  have:=this j (by simpa using hj)
  simp only [Array.getElem_toList] at hb
  rw [hb] at this
  unfold HY
  simpa using this
theorem Te {listed:Array Bool} (hl:listed.size=ops.size) {i:Nat} (hi:i<ops.size) (hn:HY listed i=false) (hd:Fr ops (HY listed) i):i∈Region.ready .any ops listed:=by
 unfold Region.ready
 simp only [List.mem_filter,List.mem_range,Bool.and_eq_true,Bool.not_eq_true']
 refine ⟨hi,?_,?_⟩
 ·unfold HY at hn
  rw [Array.getD_eq_getD_getElem?] at hn ⊢
  rw [Array.getElem?_eq_getElem (by omega)] at hn ⊢
  simpa using hn
 ·have ho:ops[i]? =some ops[i]:=Array.getElem?_eq_getElem hi
  rw [ho]
  simp only [Option.map_some,Option.getD_some]
  rw [Array.all_eq_true]
  intro j hj
  by_cases hb:Region.binds .any ops[i].after[j]=true
  ·have:=hd _ ho ops[i].after[j] (by simp) hb
   unfold HY at this
   simp [this]
  ·simp [hb]
theorem OM (hr:IA ops m pu=true) {listed:Array Bool} (hl:listed.size=ops.size) (h:Region.ready .any ops listed=[]): ∀i,i<ops.size→HY listed i=true:=by
 intro i
 induction i using Nat.strongRecOn with
 |_ i ih=>
  intro hi
  cases hs:HY listed i with
  |true=>rfl
  |false=>
   exfalso
   have:=Te hl hi hs fun o ho e he hb=>by
    have:=QR hr ho e he hb
    exact ih e.on this (by omega)
   rw [h] at this;simp at this
theorem HZ {listed:Array Bool} (hl:listed.size=ops.size) {i:Nat} (hi:i<ops.size) (j:Nat):HY (listed.setIfInBounds i true) j=if j=i then true else HY listed j:=by
 unfold HY
 rw [Array.getD_eq_getD_getElem?,Array.getD_eq_getD_getElem?,Array.getElem?_setIfInBounds]
 by_cases h:i=j
 ·subst h;simp [hl,hi]
 ·rw [if_neg h,if_neg (by omega)]
theorem SC {listed:Array Bool} (hl:listed.size=ops.size) {i:Nat} (hi:i<ops.size) (hS: ∀j,HY listed j=true→Fr ops (HY listed) j) (hd:Fr ops (HY listed) i):
  ∀j,HY (listed.setIfInBounds i true) j=true→Fr ops (HY (listed.setIfInBounds i true)) j:=by
 intro j hj o ho e he hb
 rw [HZ hl hi] at hj ⊢
 split
 ·rfl
 ·split at hj
  ·rename_i q;subst q;exact hd o ho e he hb
  ·exact hS j hj o ho e he hb
theorem TL {o:Oper} (hd:DD n o=true): ∀t,o.dst=some t→t<n:=by
 intro t ht
 unfold DD at hd
 rw [ht] at hd
 simpa using hd
theorem OX (hT:Dh P T=true) (hpu: ∀j,pu j=true→j<m) (hr:IA ops m pu=true) (hE: ∀i o,m≤i→ops[i]? =some o→HF P W T n ops m E H i o) {Q:Exit→Act→World→Prop} {B:HD} (hB:B.W=W) {w0:World}
  (hQ: ∀μ a w,ER n B w0 μ (E ops.size) (H ops.size) a w→Q .normal a w):
  ∀(d k:Nat) (listed:Array Bool) (μ:Mu) (a:Act) (w:World),k+d=ops.size→m≤k→listed.size=ops.size→(∀i,i<ops.size→HY listed i=decide (i<k))→(∀j,HY listed j=true→Fr ops (HY listed) j)→
   ER n B w0 μ (E k) (H k) a w→wpAny P .any ops Q d listed a w
 |0,k,listed,μ,a,w,hk,hm,hl,hs,hS,R=>by
  have:k=ops.size:=by omega
  subst this
  refine ⟨?_,hQ μ a w R⟩
  cases hre:Region.ready .any ops listed with
  |nil=>rfl
  |cons i l=>
   obtain ⟨h1,h2,_⟩:=LV hl (i:=i) (by rw [hre];simp)
   rw [hs i h1] at h2;simp [h1] at h2
 |d+1,k,listed,μ,a,w,hk,hm,hl,hs,hS,R=>by
  refine ⟨fun hre=> ?_,fun i hi=> ?_⟩
  ·have:=OM hr hl hre k (by omega)
   rw [hs k (by omega)] at this;simp at this
  ·obtain ⟨h1,h2,h3⟩:=LV hl hi
   have ho:ops[i]? =some ops[i]:=Array.getElem?_eq_getElem h1
   have hik:i=k:=by
    rw [hs i h1] at h2
    have hki:k≤i:=by simpa using h2
    rcases Nat.lt_or_ge k i with q|q
    ·have hp:ops[k]? =some ops[k]:=Array.getElem?_eq_getElem (by omega)
     rcases Px hr ho hp q with b|b
     ·have:=RQ hS i k h3 b
      rw [hs k (by omega)] at this;simp at this
     ·rcases b.1 with c|c
      ·omega
      ·have:=hpu k c;omega
    ·omega
   subst hik
   have st:=hE i _ hm ho
   unfold wpOp
   rw [ho]
   have hnext: ∀a' w' μ',ER n B w0 μ' (E (i+1)) (H (i+1)) a' w'→wpAny P .any ops Q d (listed.setIfInBounds i true) a' w':=fun a' w' μ' R'=>
    OX hT hpu hr hE hB hQ d (i+1) _ μ' a' w' (by omega) (by omega) (by simp [hl]) (fun j hj=>by
     rw [HZ hl h1]
     split
     ·rename_i q;subst q;simp
     ·rw [hs j hj];congr 1;simp only [eq_iff_iff];omega) (SC hl h1 hS h3) R'
   have hdd:=TL st.1
   rcases st.2 with ⟨hw,x,he,e⟩|⟨hw,e1,e2⟩
   ·simp only []
    rw [if_pos (EZ hw (fun j want t _ _=>R.env t))]
    rw [if_neg (by omega)] at he
    exact Or.inl (OZ hT he hB R st.1 fun a' w' μ' R'=>hnext a' w' μ' (by rw [e];exact R'))
   ·simp only []
    rw [if_neg (by rw [EZ hw (fun j want t _ _=>R.env t)];simp)]
    refine hnext _ _ μ ?_
    rw [e2,e1]
    exact FK hT R (Hw.refl R.sim).step hdd (by simp only [VR,D2];exact ⟨#[],rfl,rfl⟩)
structure InvP (n:Nat) (ops:Array Oper) (m:Nat) (E:Nat→C7) (H:Nat→A7) (B:HD) (w0:World) (μ0:Mu) (listed:Array Bool) (μ:Mu) (a:Act) (w:World):Prop where
 glob:Ga B.W w0
 snc:OH B μ w
 lt: ∀i,HY listed i=true→i<m
 sim:FM w0 μ w (H m)
 keep: ∀id s,μ0 id=some s→μ id=some s
 dom: ∀id s,μ id=some s→μ0 id=some s∨ ∃i,HY listed i=true∧(H i).next≤id∧id<(H (i+1)).next
 env: ∀t,VR w μ (cw ops E (HY listed) t ops.size) (a.tmps.getD t undef)
 sz:a.tmps.size=n
 dfr:a.defers=[]
theorem UE {w0 w:World} {μ:Mu} {h h2:A7} (hs: ∀id o,h.get id=some o→μ id≠none→h2.get id=some o) (hd: ∀id o,h.get id=some o→μ id≠some none) (s:FM w0 μ w h2):FM w0 μ w h where
 below:=s.below
 lt:=s.lt
 inj:=s.inj
 live:=hd
 ylt:=s.ylt
 blk:=fun id o t ho ht=>s.blk id o t (hs id o ho (by rw [ht];simp)) ht
theorem VB (hE: ∀i o,i<m→ops[i]? =some o→HF P W T n ops m E H i o) {i:Nat} (hi:i<m) (hil:i<ops.size):(H i).next≤(H (i+1)).next∧ ∀id,id<(H i).next→(H (i+1)).get id=(H i).get id:=by
 have st:=hE i _ hi (Array.getElem?_eq_getElem hil)
 rcases st.2 with ⟨hw,x,he,e⟩|⟨hw,e1,e2⟩
 ·rw [if_pos hi] at he;exact Wi he
 ·rw [e1];exact ⟨Nat.le_refl _,fun _ _=>rfl⟩
theorem Kq (hE: ∀i o,i<m→ops[i]? =some o→HF P W T n ops m E H i o) (hm:m≤ops.size) {i j:Nat} (hij:i≤j) (hj:j≤m):(H i).next≤(H j).next∧ ∀id,id<(H i).next→(H j).get id=(H i).get id:=by
 induction j with
 |zero=>have:i=0:=by omega
        subst this;exact ⟨Nat.le_refl _,fun _ _=>rfl⟩
 |succ j ih=>
  rcases Nat.lt_or_ge i (j+1) with q|q
  ·obtain ⟨h1,h2⟩:=ih (by omega) (by omega)
   obtain ⟨h3,h4⟩:=VB hE (i:=j) (by omega) (by omega)
   exact ⟨by omega,fun id hi=>by rw [h4 id (by omega),h2 id hi]⟩
  ·have:i=j+1:=by omega
   subst this;exact ⟨Nat.le_refl _,fun _ _=>rfl⟩
end
end
end Go.Lift
namespace Go.Lift
noncomputable section
open Go Go.RowKit
section
variable {P:Program} {W:World} {T:Ep} {n:Nat} {ops:Array Oper} {m:Nat} {E:Nat→C7} {H:Nat→A7} {pu:Nat→Bool}
def Qi (ops:Array Oper) (m:Nat) (pu:Nat→Bool):Bool:=
 ((List.range ops.size).all fun j=> !pu j)||Region.noSelect ops&&(List.range ops.size).all fun j=> !pu j||(decide (j<m)&&match ops[j]? with
   |some oj=>(match oj.op,oj.guard with
    | .extract _ _,none=>true
    |_,_=>false)&&(List.range ops.size).all fun i=>i==j||(decide (i<m)&& !pu i)||match ops[i]? with
     |some oi=>oi.after.any (fun e=>Region.binds .any e&&e.on==j)||oj.apart ops oi
     |none=>true
   |none=>false)
theorem puOk_no:Qi ops m (fun _=>false)=true:=by
 unfold Qi
 simp
theorem WR (h:Qi ops m pu=true) {j:Nat} (hp:pu j=true) (hj:j<ops.size):Region.noSelect ops=true:=by
 unfold Qi at h
 simp only [Bool.or_eq_true,Bool.and_eq_true,List.all_eq_true,List.mem_range] at h
 rcases h with h|h
 ·have:=h j hj;rw [hp] at this;cases this
 ·exact h.1
theorem Vu (h:Qi ops m pu=true) {j:Nat} {o:Oper} (hp:pu j=true) (ho:ops[j]? =some o):
  j<m∧(∃t ix,o.op= .extract t ix)∧o.guard=none∧ ∀i oi,ops[i]? =some oi→i≠j→(i<m→pu i=true)→(∀e∈oi.after,Region.binds .any e=true→e.on≠j)→o.apart ops oi=true:=by
 unfold Qi at h
 have hj:j<ops.size:=(Array.getElem?_eq_some_iff.1 ho).1
 rw [Bool.or_eq_true] at h
 rcases h with h|h
 ·have:=List.all_eq_true.1 h j (List.mem_range.2 hj);rw [hp] at this;cases this
 have h2:=List.all_eq_true.1 (Bool.and_eq_true _ _ ▸ h).2 j (List.mem_range.2 hj)
 rw [hp,ho] at h2
 simp only [Bool.not_true,Bool.false_or,Bool.and_eq_true,decide_eq_true_eq,List.all_eq_true,List.mem_range] at h2
 obtain ⟨h3,h4,h5⟩:=h2
 refine ⟨h3,?_,?_,fun i oi hi hne hpi hno=> ?_⟩
 ·split at h4
  ·rename_i e _;exact ⟨_,_,e⟩
  ·cases h4
 ·split at h4
  ·rename_i e;exact e
  ·cases h4
 ·have h6:=h5 i (Array.getElem?_eq_some_iff.1 hi).1
  rw [hi] at h6
  simp only [Bool.or_eq_true,beq_iff_eq,Bool.and_eq_true,decide_eq_true_eq,Bool.not_eq_true'] at h6
  rcases h6 with (h6|h6)|h6
  ·exact absurd h6 hne
  ·rw [hpi h6.1] at h6;cases h6.2
  ·rcases h6 with h6|h6
   ·obtain ⟨e,he,hb⟩:=Array.any_eq_true'.1 h6
    simp only [Bool.and_eq_true,beq_iff_eq] at hb
    exact absurd hb.2 (hno e he hb.1)
   ·exact h6
theorem SM {f:Nat→Bool} {m:Nat} (h: ¬ ∀i,i<m→f i=true): ∃j,j<m∧f j=false∧ ∀k,k<j→f k=true:=by
 induction m with
 |zero=>exact absurd (fun i hi=>absurd hi (Nat.not_lt_zero i)) h
 |succ m ih=>
  by_cases hm: ∀i,i<m→f i=true
  ·refine ⟨m,Nat.lt_succ_self m,?_,hm⟩
   cases e:f m with
   |false=>rfl
   |true=>
    refine absurd (fun i hi=> ?_) h
    rcases Nat.lt_or_ge i m with q|q
    ·exact hm i q
    ·have:i=m:=by omega
     subst this;exact e
  ·obtain ⟨j,h1,h2,h3⟩:=ih hm
   exact ⟨j,by omega,h2,h3⟩
theorem Ru (hT:Dh P T=true) (hpo:Qi ops m pu=true) (hr:IA ops m pu=true) (hmn:m≤ops.size) (hE: ∀i o,i<m→ops[i]? =some o→HF P W T n ops m E H i o) {Q:Exit→Act→World→Prop} (hQp:(∃j,pu j=true)→ ∀e a w,Q e a w→e= .normal) {B:HD} (hB:B.W=W) {w0:World} {μ0:Mu} (hlow:B.N≤(H 0).next)
  (hf0: ∀id,(H 0).next≤id→μ0 id=none)
  (hQ: ∀μ a w (listed:Array Bool),ER n B w0 μ (E m) (H m) a w→listed.size=ops.size→(∀i,i<ops.size→HY listed i=decide (i<m))→(∀j,HY listed j=true→Fr ops (HY listed) j)→wpAny P .any ops Q (ops.size-m) listed a w):
  ∀(d:Nat) (listed:Array Bool) (μ:Mu) (a:Act) (w:World),d+JZ (HY listed) ops.size=ops.size→listed.size=ops.size→(∀j,HY listed j=true→Fr ops (HY listed) j)→
   InvP n ops m E H B w0 μ0 listed μ a w→wpAny P .any ops Q d listed a w:=by
 have full: ∀(d:Nat) (listed:Array Bool) (μ:Mu) (a:Act) (w:World),d+JZ (HY listed) ops.size=ops.size→listed.size=ops.size→(∀j,HY listed j=true→Fr ops (HY listed) j)→
   InvP n ops m E H B w0 μ0 listed μ a w→(∀i,i<m→HY listed i=true)→wpAny P .any ops Q d listed a w:=by
  intro d listed μ a w hd hl hS I hall
  have hs: ∀i,i<ops.size→HY listed i=decide (i<m):=by
   intro i hi
   by_cases q:i<m
   ·simp [q,hall i q]
   ·cases e:HY listed i with
    |false=>simp [q]
    |true=>exact absurd (I.lt i e) q
  have hcnt:JZ (HY listed) ops.size=m:=by
   have h1:JZ (HY listed) m=m:=Sz hall
   have: ∀k,m≤k→JZ (HY listed) k=m:=by
    intro k
    induction k with
    |zero=>intro q;have:m=0:=by omega
           subst this;rfl
    |succ k ih=>
     intro q
     rcases Nat.lt_or_ge m (k+1) with q2|q2
     ·simp only [JZ];rw [ih (by omega)]
      cases e:HY listed k with
      |false=>simp
      |true=>have:=I.lt k e;omega
     ·have:m=k+1:=by omega
      rw [←this];exact h1
   exact this _ hmn
  have hdm:d=ops.size-m:=by omega
  rw [hdm]
  refine hQ μ a w listed ⟨I.glob,I.snc,Nat.le_trans hlow (Kq hE hmn (Nat.zero_le m) (Nat.le_refl m)).1,I.sim,fun t=> ?_,I.sz,I.dfr,fun id hi=> ?_⟩ hl hs hS
  ·have:=I.env t
   rw [Rs hE hmn (Nat.le_refl _)]
   rw [MK (i:=m) hmn fun j h1 h2 _=>by rw [hs j h2];simp;omega] at this
   rw [MJ (S':=HY listed) fun j hj _=>by rw [hall j hj]]
   exact this
  ·cases e:μ id with
   |none=>rfl
   |some s=>
    rcases I.dom id s e with h1|⟨i,h1,h2,h3⟩
    ·have:=(Kq hE hmn (Nat.zero_le m) (Nat.le_refl m)).1
     rw [hf0 id (by omega)] at h1;cases h1
    ·have:=(Kq hE hmn (i:=i+1) (j:=m) (by have:=I.lt i h1;omega) (Nat.le_refl m)).1
     omega
 intro d
 induction d with
 |zero=>
  intro listed μ a w hd hl hS I
  exact full 0 listed μ a w hd hl hS I fun i hi=>QA (k:=ops.size) (by omega) i (by omega)
 |succ d ih=>
  intro listed μ a w hd hl hS I
  by_cases hall: ∀i,i<m→HY listed i=true
  ·exact full (d+1) listed μ a w hd hl hS I hall
  have stepJ: ∀i,i<m→i∈Region.ready .any ops listed→wpOp P ops Q i (wpAny P .any ops Q d (listed.setIfInBounds i true)) a w:=by
   intro i him hi
   obtain ⟨h1,h2,h3⟩:=LV hl hi
   have ho:ops[i]? =some ops[i]:=Array.getElem?_eq_getElem h1
   have st:=hE i _ him ho
   have hdd:=TL st.1
   have hreads: ∀t,t∈ops[i].looksAt ops→VR w μ ((E i).get t) (a.tmps.getD t undef):=fun t ht=>by
    rw [←Wa hr hE hS ho h3 h2 him hmn ht];exact I.env t
   have hcnt:=SA (S:=HY listed) (S':=HY (listed.setIfInBounds i true)) (j:=i) h2 (by rw [HZ hl h1];simp) (fun j hj=>by rw [HZ hl h1,if_neg hj]) h1
   have hS':=SC hl h1 hS h3
   have hcw:=fun t=>UP hr hE (S':=HY (listed.setIfInBounds i true)) hS ho h3 h2 (by rw [HZ hl h1];simp) (fun j hj=>by rw [HZ hl h1,if_neg hj]) t
   have hnm:=fun j (hj:j≤m) (k:Nat) (hk:k≤j)=>Kq hE hmn (i:=k) (j:=j) hk hj
   have hlt': ∀j,HY (listed.setIfInBounds i true) j=true→j<m:=by
    intro j hj
    rw [HZ hl h1] at hj
    split at hj
    ·omega
    ·exact I.lt j hj
   unfold wpOp
   rw [ho]
   simp only []
   have hwant: ∀b,Di ops (E i) ops[i]=some b→Region.wanted ops[i] (yielded ops a.tmps)=b:=fun b hw=>
    EZ hw (fun j want t hg hd=>hreads t (SJ hg hd))
   rcases st.2 with ⟨hw,x,he,e⟩|⟨hw,e1,e2⟩
   ·rw [if_pos (hwant _ hw)]
    rw [if_pos him] at he
    left
    have hsub: ∀id o,(H i).get id=some o→μ id≠none→(H m).get id=some o:=fun id o hg _=>by
     rw [(hnm m (Nat.le_refl _) i (by omega)).2 id (H5 hg)];exact hg
    have hsim:FM w0 μ w (H i):=UE hsub (fun id o hg hc=>I.sim.live id o (hsub id o hg (by rw [hc];simp)) hc) I.sim
    have hfr: ∀id,(H i).next≤id→id<(H (i+1)).next→μ id=none:=by
     intro id q1 q2
     cases e:μ id with
     |none=>rfl
     |some s=>
      rcases I.dom id s e with h4|⟨j,h4,h5,h6⟩
      ·have:=(hnm i (by omega) 0 (Nat.zero_le _)).1
       rw [hf0 id (by omega)] at h4;cases h4
      ·exfalso
       have hjm:=I.lt j h4
       rcases Nat.lt_trichotomy i j with q|q|q
       ·have:=(hnm j (by omega) (i+1) (by omega)).1;omega
       ·subst q;rw [h2] at h4;cases h4
       ·have:=(hnm i (by omega) (j+1) (by omega)).1;omega
    refine Wj hT he (hB ▸ I.glob) hsim hfr (fun y hy k z hz=>SE (fun t ht=>hreads t (Vn (by rw [←ht];exact hy))) hz) fun v w' μ' hv g=> ?_
    refine ih _ μ' _ w' (by omega) (by simp [hl]) hS' ⟨I.glob,I.snc.step g.step (Nat.le_trans hlow (hnm i (by omega) 0 (Nat.zero_le _)).1),hlt',?_,fun id s hs=>g.keep id s (I.keep id s hs),fun id s hs=> ?_,fun t=> ?_,by rw [Pw hT];exact I.sz,by rw [My hT];exact I.dfr⟩
    ·
     have hlast:=hnm m (Nat.le_refl _) (i+1) (by omega)
     have hold: ∀id s,μ' id=some s→μ id=some s∨((H i).next≤id∧id<(H (i+1)).next):=fun id s hs=>by
      rcases g.dom id s hs with q|⟨q1,q2,_⟩
      ·exact Or.inl q
      ·exact Or.inr ⟨q1,q2⟩
     refine ⟨g.sim.below,g.sim.lt,g.sim.inj,fun id o hg hc=> ?_,g.sim.ylt,fun id o t hg ht=> ?_⟩
     ·rcases hold id none hc with q|⟨q1,q2⟩
      ·exact I.sim.live id o hg q
      ·rw [hlast.2 id q2] at hg;exact g.sim.live id o hg hc
     ·rcases hold id (some t) ht with q|⟨q1,q2⟩
      ·exact (I.sim.blk id o t hg q).mono g.ext (g.old _ (I.sim.lt id t q).2)
      ·rw [hlast.2 id q2] at hg;exact g.sim.blk id o t hg ht
    ·rcases g.dom id s hs with q|⟨q1,q2,_⟩
     ·rcases I.dom id s q with h4|⟨j,h4,h5⟩
      ·exact Or.inl h4
      ·refine Or.inr ⟨j,?_,h5⟩
       rw [HZ hl h1];split
       ·rfl
       ·exact h4
     ·exact Or.inr ⟨i,by rw [HZ hl h1];simp,q1,q2⟩
    ·rw [hcw t,P7 hT (by rw [I.sz];exact hdd)]
     split
     ·rename_i hd
      rw [e,C7.get_put,if_pos hd];exact hv
     ·exact IQ g.ext _ _ (I.env t)
   ·rw [if_neg (by rw [hwant _ hw];simp)]
    refine ih _ μ _ w (by omega) (by simp [hl]) hS' ⟨I.glob,I.snc,hlt',I.sim,I.keep,fun id s hs=> ?_,fun t=> ?_,by rw [Pw hT];exact I.sz,by rw [My hT];exact I.dfr⟩
    ·rcases I.dom id s hs with h4|⟨j,h4,h5⟩
     ·exact Or.inl h4
     ·refine Or.inr ⟨j,?_,h5⟩
      rw [HZ hl h1];split
      ·rfl
      ·exact h4
    ·rw [hcw t,P7 hT (by rw [I.sz];exact hdd)]
     split
     ·rename_i hd
      rw [e2,C7.get_put,if_pos hd];simp only [VR,D2];exact ⟨#[],rfl,rfl⟩
     ·exact I.env t
  by_cases hnp: ∀i,i<m→pu i=false→HY listed i=true
  ·
   obtain ⟨j,hj,hjn,hjl⟩:=SM hall
   have hjp:pu j=true:=by
    cases e:pu j with
    |true=>rfl
    |false=>rw [hnp j hj e] at hjn;cases hjn
   have hjs:j<ops.size:=by omega
   have ho:ops[j]? =some ops[j]:=Array.getElem?_eq_getElem hjs
   have hrd:j∈Region.ready .any ops listed:=Te hl hjs hjn (fun o ho' e he hb=>hjl e.on (QR hr ho' e he hb))
   obtain ⟨_,⟨t,ix,hop⟩,hg,hap⟩:=Vu hpo hjp ho
   have h1:=stepJ j hj hrd
   unfold wpOp at h1
   rw [ho] at h1
   simp only [] at h1
   have hwt:Region.wanted ops[j] (yielded ops a.tmps)=true:=by unfold Region.wanted;rw [hg]
   rw [if_pos hwt] at h1
   have hy: ∃v0,∀w2,(execOp a.eval ops[j]).run P w2= .ok (.value v0) w2:=by
    rcases h1 with h1|⟨_,a2,w2,q⟩
    ·unfold Oper.wp at h1
     have hx: ∀w2,(execOp a.eval ops[j]).run P w2=((Instr.extract (a.eval t) ix>>=fun v=>pure (Next.value v):Sem Next)).run P w2:=by
      intro w2;unfold execOp;rw [hop]
     rw [hx] at h1
     cases hv:a.eval t with
     |tuple vs=>
      rw [hv] at h1 hx
      cases hvs:vs[ix]? with
      |some v=>exact ⟨v,fun w2=>by rw [hx];simp [Instr.extract,hvs]⟩
      |none=>exfalso;simp [Instr.extract,hvs,stuck,Oper.upon] at h1
     |_=>exfalso;rw [hv] at h1;simp [Instr.extract,stuck,Oper.upon] at h1
    ·have:=hQp ⟨j,hjp⟩ _ _ _ q;cases this
   obtain ⟨v0,hy⟩:=hy
   have hns:Region.noSelect ops=true:=WR hpo hjp hjs
   refine wpAny_first ho (Region.noSelect_spec hns) (fun c a w q=>by have:=hQp ⟨j,hjp⟩ _ _ _ q;cases this) d listed a w (fun j' oj' hj' hne hun hno=>hap j' oj' hj' hne (fun hm'=> ?_) hno) hrd (Or.inl ⟨hwt,hy⟩) ?_
   ·cases e:pu j' with
    |true=>rfl
    |false=>
     have:=hnp j' hm' e
     unfold HY at this
     rw [Array.getD_eq_getD_getElem?] at this hun
     rw [Array.getElem?_eq_getElem (by omega)] at this hun
     simp at this hun
     rw [this] at hun;cases hun
   ·rcases h1 with h1|⟨_,a2,w2,q⟩
    ·unfold Oper.wp at h1
     rw [hy w] at h1
     exact h1
    ·have:=hQp ⟨j,hjp⟩ _ _ _ q;cases this
  refine ⟨fun hre=> ?_,fun i hi=> ?_⟩
  ·exact absurd (fun i (hi:i<m)=>OM hr hl hre i (by omega)) hall
  ·refine stepJ i ?_ hi
   obtain ⟨h1,h2,h3⟩:=LV hl hi
   have ho:ops[i]? =some ops[i]:=Array.getElem?_eq_getElem h1
   rcases Nat.lt_or_ge i m with q|q
   ·exact q
   ·exfalso
    refine hnp fun j hj hpj=> ?_
    have hp:ops[j]? =some ops[j]:=Array.getElem?_eq_getElem (by omega)
    rcases Px hr ho hp (by omega) with b|b
    ·exact RQ hS i j h3 b
    ·rcases b.1 with c|c
     ·omega
     ·rw [hpj] at c;cases c
theorem Py (hT:Dh P T=true) (hm:P.follows .mixedOrders=true) (hpo:Qi ops m pu=true) (hr:IA ops m pu=true) (hmn:m≤ops.size) {id:Nat} {env:C7} {h:A7} {R:C7→A7→Prop} (k:Aw P W T n ops m 0 (ops.toList.take m) env h R)
  {B:HD} (hB:B.W=W) {w0:World} {μ:Mu} {a:Act} {w:World} (rel:ER n B w0 μ env h a w) {Q:Exit→Act→World→Prop} (hQp:(∃j,pu j=true)→ ∀e a w,Q e a w→e= .normal)
  (hQ: ∀env' h' μ' a' w' (listed:Array Bool),R env' h'→ER n B w0 μ' env' h' a' w'→listed.size=ops.size→(∀i,i<ops.size→HY listed i=decide (i<m))→(∀j,HY listed j=true→Fr ops (HY listed) j)→wpAny P .any ops Q (ops.size-m) listed a' w'):(Code.region id ops true).wp P Q a w:=by
 obtain ⟨E,H,e1,e2,hE,hR⟩:=Nj k
 have hlen:(ops.toList.take m).length=m:=by simp;omega
 simp only [Nat.zero_add,hlen] at hE hR
 have hE': ∀i o,i<m→ops[i]? =some o→HF P W T n ops m E H i o:=fun i o hi ho=>hE i o (by rw [List.getElem?_take_of_lt hi];simpa using ho)
 have rel':ER n B w0 μ env h a {w with drawn:=w.drawn+1}:=by
  have e:ID w μ {w with drawn:=w.drawn+1} μ:=ID.of (fun g _ _=>rfl) (fun _ _ h=>Or.inl h) (fun g hg=>Or.inl hg)
  exact ⟨rel.glob,⟨rel.snc.ext.trans e,rel.snc.y,rel.snc.dom,rel.snc.top⟩,rel.low,O5 rel.sim rfl rfl rfl rfl,fun t=>IQ e _ _ (rel.env t),rel.sz,rel.dfr,rel.fresh⟩
 have hS0: ∀j,HY (Array.replicate ops.size false) j=false:=by
  intro j
  unfold HY
  rw [Array.getD_eq_getD_getElem?,Array.getElem?_replicate]
  split<;>rfl
 have hf: ∀id,(H 0).next≤id→μ id=none:=by rw [e2];exact rel.fresh
 have hlast:=Kq hE' hmn (Nat.zero_le m) (Nat.le_refl m)
 refine wp_region_any hm (Ru hT hpo hr hmn hE' hQp hB (w0:=w0) (μ0:=μ) (by rw [e2];exact rel.low) hf (fun μ' a' w' listed R' l1 l2 l3=>hQ _ _ μ' a' w' listed hR R' l1 l2 l3) ops.size _ μ a _ ?_ (by simp) (fun j hj=>by rw [hS0 j] at hj;cases hj) ⟨rel'.glob,rel'.snc,(fun i hi=>by rw [hS0 i] at hi;cases hi),?_,fun _ _ h=>h,fun _ _ h=>Or.inl h,fun t=> ?_,rel'.sz,rel'.dfr⟩)
 ·have: ∀k,JZ (HY (Array.replicate ops.size false)) k=0:=by
    intro k
    induction k with
    |zero=>rfl
    |succ k ih=>simp only [JZ];rw [ih,hS0 k];simp
  rw [this];rfl
 ·have hs:=rel'.sim
  rw [←e2] at hs
  have hin: ∀id o,(H m).get id=some o→μ id≠none→(H 0).get id=some o:=fun id o hg hne=>by
   have:id<(H 0).next:=by
    rcases Nat.lt_or_ge id (H 0).next with q|q
    ·exact q
    ·exact absurd (hf id q) hne
   rw [←hlast.2 id this];exact hg
  exact UE hin (fun id o hg hc=>hs.live id o (hin id o hg (by rw [hc];simp)) hc) hs
 ·rw [MK (i:=0) (Nat.zero_le _) (fun j _ _ _=>hS0 j)]
  show VR _ _ ((E 0).get t) _
  rw [e1];exact rel'.env t
theorem L7 {P:Program} {W:World} {T:Ep} {n:Nat} {ops:Array Oper} {m:Nat}: ∀(c:Nat) {l:List Oper} {i:Nat} {env:C7} {h:A7} {Q:C7→A7→Prop},Aw P W T n ops m i l env h Q→Aw P W T n ops m i (l.take c) env h fun e s=>Aw P W T n ops m (i+(l.take c).length) (l.drop c) e s Q
 |0,l,i,env,h,Q,k=>by simpa [Aw] using k
 |c+1,[],i,env,h,Q,k=>by simpa [Aw] using k
 |c+1,o::r,i,env,h,Q,k=>by
  simp only [List.take_succ_cons,List.drop_succ_cons,Aw,List.length_cons] at k ⊢
  split at k
  ·obtain ⟨h1,x,h',h2,k⟩:=k
   refine ⟨h1,x,h',h2,?_⟩
   have:=L7 c k
   rwa [show i+1+(r.take c).length=i+((r.take c).length+1) by omega] at this
  ·obtain ⟨h1,k⟩:=k
   refine ⟨h1,?_⟩
   have:=L7 c k
   rwa [show i+1+(r.take c).length=i+((r.take c).length+1) by omega] at this
  ·exact k.elim
theorem Mb (hT:Dh P T=true) (hm:P.follows .mixedOrders=true) (hpo:Qi ops m pu=true) (hpu: ∀j,pu j=true→j<m) (hr:IA ops m pu=true) (hmn:m≤ops.size) {id:Nat} {env:C7} {h:A7} {R:C7→A7→Prop} (k:Aw P W T n ops m 0 ops.toList env h R)
  {B:HD} (hB:B.W=W) {w0:World} {μ:Mu} {a:Act} {w:World} (rel:ER n B w0 μ env h a w) {Q:Exit→Act→World→Prop} (hQ: ∀env' h' μ' a' w',R env' h'→ER n B w0 μ' env' h' a' w'→Q .normal a' w'):(Code.region id ops true).wp P Q a w:=by
 refine wp_mono (Py (Q:=fun e a w=>e= .normal∧Q e a w) hT hm hpo hr hmn (L7 m k) hB rel (fun _ _ _ _ h=>h.1) fun env' h' μ' a' w' listed k' R' l1 l2 l3=> ?_) (fun _ _ _ h=>h.2)
 obtain ⟨E,H,e1,e2,hE,hR⟩:=Nj k'
 have hlen:(ops.toList.take m).length=m:=by simp;omega
 rw [hlen] at e1 e2 hE hR
 simp only [Nat.zero_add,List.length_drop,Array.length_toList] at e1 e2 hE hR
 rw [show m+(ops.size-m)=ops.size by omega] at hR
 have hE': ∀i o,m≤i→ops[i]? =some o→HF P W T n ops m E H i o:=fun i o hi ho=>by
  have:=hE (i-m) o (by rw [List.getElem?_drop,show m+(i-m)=i by omega];simpa using ho)
  rwa [show m+(i-m)=i by omega] at this
 exact OX hT hpu hr hE' hB (fun μ a w R=>⟨rfl,hQ _ _ μ a w hR R⟩) (ops.size-m) m listed μ' a' w' (by omega) (Nat.le_refl _) l1 l2 l3 (by rw [e1,e2];exact R')
theorem RY (hT:Dh P T=true) (hm:P.follows .mixedOrders=true) (hr:regOk ops m=true) (hmn:m≤ops.size) {id:Nat} {env:C7} {h:A7} {R:C7→A7→Prop} (k:Aw P W T n ops m 0 ops.toList env h R)
  {B:HD} (hB:B.W=W) {w0:World} {μ:Mu} {a:Act} {w:World} (rel:ER n B w0 μ env h a w) {Q:Exit→Act→World→Prop} (hQ: ∀env' h' μ' a' w',R env' h'→ER n B w0 μ' env' h' a' w'→Q .normal a' w'):(Code.region id ops true).wp P Q a w:=
 Mb hT hm puOk_no (fun j h=>by cases h) hr hmn k hB rel hQ
end
end
end Go.Lift
