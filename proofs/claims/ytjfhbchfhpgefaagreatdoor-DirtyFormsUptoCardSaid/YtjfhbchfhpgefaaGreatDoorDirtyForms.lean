/-
  Lemmas of this claim: a layer over the kit's calls, contracts of the functions that the law reaches, and the law's row. No condition of its own.
-/
import Derived.Test.YtjfhbchfhpgefaaGreatDoorCards
import Derived.Test.YtjfhbchfhpgefaaGreatDoorTie
import Derived.Test.YtjfhbchfhpgefaaGreatDoorLbDirtyForms
import Derived.Test.YtjfhbchfhpgefaaGreatDoorScDirtyForms
import Derived.Test.YtjfhbchfhpgefaaGreatDoorWcDirtyForms
import Derived.WalkKit
import Derived.ProofKit
import Derived.OpenShut
import Derived.Deep.DeepHandedRow
import Derived.Lib.LaidTab
set_option linter.unusedVariables false
namespace Go.Proofs.YtjfhbchfhpgefaaGreatDoor.dirtyForms
open Go.ChangeShapes Go.WideShapes Go.ChangeAt Go.RowKit Go.Lift
theorem own:ownKnob Tryz.prog.godebug=none:=by kernel_rfl
theorem hlaid:laidOutB Tryz.prog=true:=by kernel_rfl
def TA:DataW Unit→List Value
 | .lit (.int k n)=>[.int k n]
 | .lit (.bool b)=>[.bool b]
 | .agg parts=>cellsDs parts
 |_=>[]
where cellsDs:List (DataW Unit)→List Value
 | []=>[]
 |d::r=>TA d++cellsDs r
def SL (cs:List Value):Obj→Obj
 | .cells _ t frozen=> .cells cs.toArray t frozen
 |o=>o
noncomputable def Ny (os:Os):World:=
 {World.holding Tryz.prog os ⟨#[],#[],[]⟩ with heap:=((World.holding Tryz.prog os ⟨#[],#[],[]⟩).heap.modify 1 (SL (TA Rows.laid_unicode_utf8_first))).modify 2 (SL (TA Rows.laid_unicode_utf8_acceptRanges))}
theorem Wt (os:Os):laidMet Tryz.prog Rows.dirtyFormsUptoRow.laid ((Ny os).forCall (fun _ _=>0) ⟨#[],#[.int .i64 0,.int .i64 0],[]⟩).memory:=
 laidMet_of_run' 8 (by kernel_rfl) (by kernel_rfl)
theorem reads (os:Os) {H:Type} (enc:TypeId×Value→H): ∃places,DataW.whole enc Tryz.prog ((Ny os).forCall (fun _ _=>0) ⟨#[],#[.int .i64 0,.int .i64 0],[]⟩).memory Tryz.f6.params.toList Rows.dirtyFormsSpec.vars false #[Value.int .i64 0,Value.int .i64 0].toList 8=some ([.lit (.int .i64 0),.lit (.int .i64 0)],[],places):=
 ⟨[],by kernel_rfl⟩
theorem Rp {H:Type}: ∀l:List (DataW H),Rows.uptoBulkAll l=(l.map Rows.uptoBulk).sum
 | []=>rfl
 |d::r=>by simp only [Rows.uptoBulkAll,List.map_cons,List.sum_cons,Rp r]
theorem bulk_ok {H:Type}:BulkOk (Rows.uptoBulk (H:=H)) where
 str bs:=by simp only [Rows.uptoBulk]
 one d:=by
  cases d with
  |lit l=>cases l<;>simp [Rows.uptoBulk]
  |_=>simp [Rows.uptoBulk]
 sl e s:=by simp only [Rows.uptoBulk,Rp];omega
 agg ps:=by simp only [Rows.uptoBulk,Rp];omega
set_option maxRecDepth 100000 in
theorem contract (H:Type) (enc:TypeId×Value→H) (W:World) (base:Nat) (args:Array Value) (ds gs:List (DataW H)) (before:List MemPlace)
  (hval: ∀(j:Nat) t v,Tryz.f6.params[j]? =some t→args[j]? =some v→Value.okWide Tryz.prog W .any base t v)
  (hW:DataW.Whole enc Tryz.prog Tryz.f6.params.toList Rows.dirtyFormsSpec.vars false W args.toList ds gs before) (hcond: ∀k,(Rows.OpenSpec.upto Rows.dirtyFormsSpec).cond=some k→k H (ds++gs)=true) (hSh:W.ShapedOpen Tryz.prog):
  Calls Tryz.prog 6 args W fun e W'=> ∃v,e= .returned v∧Rows.dirtyFormsSpec.post enc Tryz.prog Tryz.f6 false true false false W args v W':=by
 have hW':=hW
 obtain ⟨p,q,hA0,hV,rfl,hfz,hnd⟩:=hW
 have hA:DataW.TrodAll enc Tryz.prog W 0 (fun _=>true) true Tryz.f6.params.toList args.toList ds p:=hA0
 rw [Tryz.params6] at hA hval
 obtain ⟨v0,vs0,d0,ds0,p0,q0,hargs,rfl,rfl,h0,r0⟩:=trodAll_cons hA
 obtain ⟨v1,vs1,d1,ds1,p1,q1,rfl,rfl,rfl,h1,r1⟩:=trodAll_cons r0
 obtain ⟨rfl,rfl,rfl⟩:=trodAll_nil r1
 obtain rfl:args= #[v0,v1]:=by cases args;simp_all
 obtain ⟨rfl,rfl⟩:=trodVars_none hV
 have hds:Rows.uptoBulkAll [d0,d1]≤1048576:=by
  have:=hcond _ rfl
  simpa [Rows.uptoSmall] using this
 have hd:Rows.uptoBulk d0≤1048576∧Rows.uptoBulk d1≤1048576:=by
  simp only [Rows.uptoBulkAll] at hds;omega
 have hμ: ∀g,¬(Eo fun _=>False).mut g:=by
  rintro g (h|⟨id,s,h,_⟩)
  ·exact h
  ·cases h
 obtain ⟨which,rfl,rfl,rfl,w0⟩:=open_int Tryz.underlying3 (hval 0 3 v0 rfl rfl) h0
 obtain ⟨x,rfl,rfl,rfl,w1⟩:=open_int Tryz.underlying3 (hval 1 3 v1 rfl rfl) h1
 obtain ⟨m,hm⟩:=Tryz.laysM146.s1_3 W hSh
 refine RL hlaid (by kernel_rfl) rfl Tryz.underlying4 rfl rfl hW' ?_
 have hp:=Mz W hm which x
 rw [L4 which x] at hp
 exact V0 hp ⟨.int .i64 which,_,rfl,rfl,⟨.int .i64 x,_,rfl,rfl,rfl⟩⟩
set_option maxRecDepth 100000 in
theorem lifted (os:Os) (started:os.Started) (H:Type) (enc:TypeId×Value→H) (F:Stop.Interp):
  ReturnsInHanded {} Tryz.checked os 6 .any ((Rows.OpenSpec.upto Rows.dirtyFormsSpec).preRow enc Tryz.prog Tryz.f6 Rows.dirtyFormsUptoRow.domain false Rows.dirtyFormsUptoRow.laid) (((Rows.OpenSpec.upto Rows.dirtyFormsSpec).at F).post enc Tryz.prog Tryz.f6 false true false false):=by
 obtain ⟨places,hx⟩:=reads os enc
 refine returnsInHanded_of_row (C:=Tryz.checked) (s:=Rows.OpenSpec.upto Rows.dirtyFormsSpec) own started (by kernel_rfl) Tryz.func6
  (witness_row_at (enc:=enc) (C:=Tryz.checked) false (Ny os) #[.int .i64 0,.int .i64 0] rfl (by kernel_rfl) (by kernel_rfl) (by kernel_rfl)
    (OpenSpec.preRow_of_cond 8 hx (by kernel_rfl) (fun k hk=>by cases hk;kernel_rfl) (by kernel_rfl) (Wt os))) ?_
 intro W base args ds gs before hval hW _ hcond _ hL hSh _
 exact contract H enc W base args ds gs before hval hW hcond hSh
theorem j1:(Rows.dirtyFormsUptoRow.inPlace==Tryz.pinned.checked.prog.inPlace 6)=true:=by kernel_rfl
theorem j2:(Rows.dirtyFormsUptoRow.unfollowed==Tryz.pinned.checked.prog.unfollowed 6)=true:=by kernel_rfl
theorem j3:(Rows.dirtyFormsUptoRow.recurses==Tryz.pinned.checked.prog.recurses 6)=true:=by kernel_rfl
theorem j4:(Rows.dirtyFormsUptoRow.named==Tryz.pinned.checked.prog.varsNamed 6)=true:=by kernel_rfl
theorem closedF:joinedFacts Tryz.pinned.checked.prog 6 Tryz.f6 (Rows.OpenSpec.upto Rows.dirtyFormsSpec).bare Rows.dirtyFormsUptoRow=true:=by
 unfold joinedFacts;rw [j1,j2,j3,j4];kernel_rfl
theorem said:Rows.DirtyFormsUptoSaid:=
 OpenClaim.holds_of_cond 6 Tryz.f6 rfl rfl rfl rfl rfl rfl rfl ⟨rfl,rfl,rfl,rfl,rfl⟩ rfl rfl rfl rfl rfl (by kernel_rfl) Tryz.func6 closedF
  (of_decide_eq_true (by kernel_rfl)) (by unfold Func.isWrapper;first|(rw [if_pos (by decide+kernel)];kernel_rfl)|(rw [if_neg (by decide+kernel)];exact ⟨rfl,rfl⟩))
  (fun os started H enc _ F=>by rw [OpenClaim.pre_eq_preRow];exact lifted os started H enc F)
theorem plain (f:FuncId) (fn:Func) (hf:Tryz.pinned.checked.prog.funcNamed "crucible/cruciblelaw19.DirtyForms" =some f) (hfn:Tryz.pinned.checked.prog.funcs[f]? =some fn):
  false=Tryz.pinned.checked.prog.looks []∧ ∀(j:Nat) t,fn.params[j]? =some t→Tryz.pinned.checked.prog.wantsStandIn t=false:=by
 obtain rfl:f=6:=Option.some.inj ((show Tryz.prog.funcNamed "crucible/cruciblelaw19.DirtyForms" =some 6 by kernel_rfl).symm.trans hf)|>.symm
 obtain rfl:fn=Tryz.f6:=(Option.some.inj (Tryz.func6.symm.trans hfn)).symm
 refine ⟨by kernel_rfl,fun j t ht=> ?_⟩
 have h:(Tryz.f6.params.toList.all fun t=> !Tryz.prog.wantsStandIn t)=true:=by kernel_rfl
 have:=List.all_eq_true.1 h t (by simpa using Array.mem_of_getElem? ht)
 exact (show Tryz.prog.wantsStandIn t=false by simpa using this)
theorem card:Rows.DirtyFormsUptoCardSaid:=
 Claim7.holds_tied_plain_at .later [] _ _ _ _ said (fun _ h=>by cases h) (by kernel_rfl) (fun _ h=>by cases h) dirtyFormsUpto_row_tie rfl ⟨rfl,rfl⟩ (by kernel_rfl) rfl plain (by kernel_rfl)
#print axioms card
end Go.Proofs.YtjfhbchfhpgefaaGreatDoor.dirtyForms
