/-
  Proved: for every input, WorldSteps returns true, and its arguments read afterwards as they read before.
  Conditions: none beyond those of the given row.
-/
import Derived.Test.YtgjdiioennhoeaaGreatPlainB
import Derived.Test.YtgjdiioennhoeaaGreatRows
import Derived.WalkKit
namespace Go.Abs.World
open Go Go.Abs Go.Proofs
theorem xG:Rd Tryz.prog 3 A4 Cc:=nJ Tryz.underlying3
theorem vJ:Rd Tryz.prog 2 A4 Cc:=nJ Tryz.underlying2
theorem xV:Rd Tryz.prog 43 RE (fun xs:(List Int)=> ∀a∈xs,Cc a):=LB (sz:=1) Tryz.underlying43 xG (fun _=>rfl) (by decide) (by kernel_rfl)
theorem yG:Rd Tryz.prog 4 wP (fun _:Bool=>True):=rE Tryz.underlying4
theorem xW:Rd Tryz.prog 45 D2 (fun x:Agent=>(fun xs:(List Int)=> ∀a∈xs,Cc a) x.Route∧Cc x.S∧Cc x.V∧Cc x.Len∧Cc x.Begin∧(fun _:Bool=>True) x.Obey∧(fun _:Bool=>True) x.Gone):=
  WT (MV Tryz.underlying45 (wf:=_) (Ii (n:=1) xV rfl (fun _=>rfl) (Ii (n:=1) vJ rfl (fun _=>rfl) (Ii (n:=1) vJ rfl (fun _=>rfl) (Ii (n:=1) vJ rfl (fun _=>rfl) (Ii (n:=1) vJ rfl (fun _=>rfl) (Ii (n:=1) yG rfl (fun _=>rfl) (Ii (n:=1) yG rfl (fun _=>rfl) WU))))))) (by intro y;kernel_rfl)) D2 (fun x:Agent=>(fun xs:(List Int)=> ∀a∈xs,Cc a) x.Route∧Cc x.S∧Cc x.V∧Cc x.Len∧Cc x.Begin∧(fun _:Bool=>True) x.Obey∧(fun _:Bool=>True) x.Gone) (fun y=>⟨y.1,y.2.1,y.2.2.1,y.2.2.2.1,y.2.2.2.2.1,y.2.2.2.2.2.1,y.2.2.2.2.2.2.1⟩) (fun _=>rfl) (fun y h=>⟨h.1,h.2.1,h.2.2.1,h.2.2.2.1,h.2.2.2.2.1,h.2.2.2.2.2.1,h.2.2.2.2.2.2.1⟩)
theorem xX:Rd Tryz.prog 22 nZ (fun xs:(List Agent)=> ∀a∈xs,(fun x:Agent=>(fun xs:(List Int)=> ∀a∈xs,Cc a) x.Route∧Cc x.S∧Cc x.V∧Cc x.Len∧Cc x.Begin∧(fun _:Bool=>True) x.Obey∧(fun _:Bool=>True) x.Gone) a):=LB (sz:=7) Tryz.underlying22 xW (fun _=>rfl) (by decide) (by kernel_rfl)
theorem xH:Rd Tryz.prog 127 I9 (fun x:Stay=>Cc x.Agent_∧Cc x.Zone_∧Cc x.Since∧Cc x.Rank):=
  WT (MV Tryz.underlying127 (wf:=_) (Ii (n:=1) xG rfl (fun _=>rfl) (Ii (n:=1) xG rfl (fun _=>rfl) (Ii (n:=1) vJ rfl (fun _=>rfl) (Ii (n:=1) xG rfl (fun _=>rfl) WU)))) (by intro y;kernel_rfl)) I9 (fun x:Stay=>Cc x.Agent_∧Cc x.Zone_∧Cc x.Since∧Cc x.Rank) (fun y=>⟨y.1,y.2.1,y.2.2.1,y.2.2.2.1⟩) (fun _=>rfl) (fun y h=>⟨h.1,h.2.1,h.2.2.1,h.2.2.2.1⟩)
theorem xY:Rd Tryz.prog 23 rO (fun xs:(List Stay)=> ∀a∈xs,(fun x:Stay=>Cc x.Agent_∧Cc x.Zone_∧Cc x.Since∧Cc x.Rank) a):=LB (sz:=4) Tryz.underlying23 xH (fun _=>rfl) (by decide) (by kernel_rfl)
theorem xZ:Rd Tryz.prog 25 U4 (fun x:State=>Cc x.Tick∧(fun xs:(List Agent)=> ∀a∈xs,(fun x:Agent=>(fun xs:(List Int)=> ∀a∈xs,Cc a) x.Route∧Cc x.S∧Cc x.V∧Cc x.Len∧Cc x.Begin∧(fun _:Bool=>True) x.Obey∧(fun _:Bool=>True) x.Gone) a) x.Agents∧(fun xs:(List Stay)=> ∀a∈xs,(fun x:Stay=>Cc x.Agent_∧Cc x.Zone_∧Cc x.Since∧Cc x.Rank) a) x.In):=
  WT (MV Tryz.underlying25 (wf:=_) (Ii (n:=1) vJ rfl (fun _=>rfl) (Ii (n:=1) xX rfl (fun _=>rfl) (Ii (n:=1) xY rfl (fun _=>rfl) WU))) (by intro y;kernel_rfl)) U4 (fun x:State=>Cc x.Tick∧(fun xs:(List Agent)=> ∀a∈xs,(fun x:Agent=>(fun xs:(List Int)=> ∀a∈xs,Cc a) x.Route∧Cc x.S∧Cc x.V∧Cc x.Len∧Cc x.Begin∧(fun _:Bool=>True) x.Obey∧(fun _:Bool=>True) x.Gone) a) x.Agents∧(fun xs:(List Stay)=> ∀a∈xs,(fun x:Stay=>Cc x.Agent_∧Cc x.Zone_∧Cc x.Since∧Cc x.Rank) a) x.In) (fun y=>⟨y.1,y.2.1,y.2.2.1⟩) (fun _=>rfl) (fun y h=>⟨h.1,h.2.1,h.2.2.1⟩)
theorem yA:Rd Tryz.prog 48 RE (fun xs:(List Int)=> ∀a∈xs,Cc a):=LB (sz:=1) Tryz.underlying48 vJ (fun _=>rfl) (by decide) (by kernel_rfl)
end Go.Abs.World
namespace Go.Proofs.YtgjdiioennhoeaaGreat.worldSteps
open Go.ChangeShapes Go.WideShapes Go.ChangeAt Go.RowKit Go.Abs Go.Abs.World
set_option linter.unusedVariables false
theorem own:ownKnob Tryz.prog.godebug=none:=by kernel_rfl
theorem PR:laidOutB Tryz.prog=true:=by kernel_rfl
set_option maxRecDepth 100000 in
theorem lifted (os:Os)(started:os.Started)(H:Type)(enc:TypeId×Value→H):
    ReturnsInHanded {} Tryz.checked os 6 .any (Rows.worldStepsSpec.pre6 enc Tryz.prog Tryz.f6 Rows.worldStepsRow.domain false) (Rows.worldStepsSpec.post enc Tryz.prog Tryz.f6 false true false false):=by
  refine returnsInHanded_of_change (C:=Tryz.checked) own started (by kernel_rfl) Tryz.func6
    (ChangeSpec.witness6 (enc:=enc) (C:=Tryz.checked) false ⟨#[],#[.int .i64 0, .agg #[.int .i64 0, .slice none 0 0, .slice none 0 0], .slice none 0 0],[]⟩ 8 (by kernel_rfl) (by kernel_rfl) (by kernel_rfl) (by kernel_rfl)) ?_
  intro W base args ds gs before hval0 hW hcnd _
  have hval: ∀(j:Nat) t v,Tryz.f6.params[j]? =some t→args[j]? =some v→Value.okWide Tryz.prog W .any base t v:=hval0
  have hW':=hW
  obtain ⟨p,q,hA0,hV,rfl,hfz,hnd⟩:=hW
  have hA:DataW.TrodAll enc Tryz.prog W 0 (fun _=>true) true Tryz.f6.params.toList args.toList ds p:=hA0
  rw [Tryz.params6]at hA hval
  obtain ⟨v0,vs0,d0,ds0,p0,q0,hargs,rfl,rfl,h0,r0⟩:=trodAll_cons hA
  obtain ⟨v1,vs1,d1,ds1,p1,q1,rfl,rfl,rfl,h1,r1⟩:=trodAll_cons r0
  obtain ⟨v2,vs2,d2,ds2,p2,q2,rfl,rfl,rfl,h2,r2⟩:=trodAll_cons r1
  obtain ⟨rfl,rfl,rfl⟩:=trodAll_nil r2
  obtain rfl:args= #[v0,v1,v2]:=by cases args;simp_all
  obtain ⟨rfl,rfl⟩:=trodVars_none hV
  have k0:=h0
  have lt0: ∀x∈p0,x.block<W.heap.size:=by obtain ⟨m,hm⟩:=k0;exact DataW.trod_lt m _ _ _ hm
  obtain ⟨a0,w0,e0⟩:=fR xG (by obtain ⟨_,rfl⟩:=okWide_int Tryz.underlying3 (hval 0 3 v0 rfl rfl);rfl) h0
  have k1:=h1
  have lt1: ∀x∈p1,x.block<W.heap.size:=by obtain ⟨m,hm⟩:=k1;exact DataW.trod_lt m _ _ _ hm
  obtain ⟨a1,w1,e1⟩:=rF xZ Tryz.underlying25 (hval 1 25 v1 rfl rfl) h1
  have k2:=h2
  have lt2: ∀x∈p2,x.block<W.heap.size:=by obtain ⟨m,hm⟩:=k2;exact DataW.trod_lt m _ _ _ hm
  obtain ⟨a2,w2,e2⟩:=fR yA (by obtain ⟨_,_,_,rfl⟩:=okWide_slice Tryz.underlying48 (hval 2 48 v2 rfl rfl);rfl) h2
  clear hA0 hval0
  refine (nI (vs:= [v0,v1,v2]) (HN a0 a1 a2 _ (DM a0 a1 a2 w0 w1 w2)) rfl ?_).mono fun e W' ⟨he,bel⟩=> ?_
  ·intro i d hi
   match i,hi with
   |0,hi=>cases hi;exact e0
   |1,hi=>cases hi;exact e1
   |2,hi=>cases hi;exact e2
   |i+3,hi=>simp at hi
  ·subst he
   exact ⟨_,rfl,_,_,_,[],_,[],hW',trodAll_mk1 (shut_bool Tryz.underlying4 _),(trodAll_cons_mk (Below.trod PR (by kernel_rfl) (bI (by kernel_rfl)) k0 bel lt0) (trodAll_cons_mk (Below.trod PR (by kernel_rfl) (bI (by kernel_rfl)) k1 bel lt1) (trodAll_cons_mk (Below.trod PR (by kernel_rfl) (bI (by kernel_rfl)) k2 bel lt2) trodAll_mk0))),rfl,bel.frame _,fun h=>by cases h⟩
theorem j0:(mapsRowed Tryz.prog)=true:=by kernel_rfl
theorem j1:(Rows.worldStepsRow.inPlace==Tryz.prog.inPlace 6)=true:=by kernel_rfl
theorem j2:(Rows.worldStepsRow.unfollowed==Tryz.prog.unfollowed 6)=true:=by kernel_rfl
theorem j3:(Rows.worldStepsRow.recurses==Tryz.prog.recurses 6)=true:=by kernel_rfl
theorem j4:(Rows.worldStepsRow.named==Tryz.prog.varsNamed 6)=true:=by kernel_rfl
theorem j5:(Rows.worldStepsRow.plainKeys==Tryz.prog.plainKeys)=true:=by kernel_rfl
theorem j6:(Tryz.prog.stopsHeard)=true:=by kernel_rfl
theorem j7:(Tryz.prog.mayEnter)=true:=by kernel_rfl
theorem j8:(Rows.worldStepsRow.lifted==Tryz.prog.liftsFinal)=true:=by kernel_rfl
theorem j9:(Tryz.prog.make==some Rows.worldStepsRow.make)=true:=by kernel_rfl
theorem yV:(Rows.worldStepsRow.loops==(Tryz.f6.params.toList++Rows.worldStepsSpec.plain.varTypes Tryz.prog).any (Tryz.prog.loopsFrom ·))=true:=by kernel_rfl
theorem vK:joinedFacts Tryz.prog 6 Tryz.f6 Rows.worldStepsSpec Rows.worldStepsRow=true:=by
  unfold joinedFacts
  simp only [bP]
  repeat' apply And.intro
  all_goals first|with_reducible exact PR|with_reducible exact j0|with_reducible exact j1|with_reducible exact j2|with_reducible exact j3|with_reducible exact j4|with_reducible exact j5|with_reducible exact j6|with_reducible exact j7|with_reducible exact j8|with_reducible exact j9|with_reducible exact yV|kernel_rfl
theorem over:Rows.worldStepsRow.holds Tryz.pinned (OpenSpec.ofChange Rows.worldStepsSpec):=
  OpenClaim.holds_of_wide 6 Tryz.f6 rfl rfl rfl rfl rfl rfl rfl ⟨rfl,rfl,rfl,rfl,rfl⟩ rfl rfl rfl rfl rfl (by kernel_rfl) Tryz.func6 vK
    (bI (by kernel_rfl)) (by unfold Func.isWrapper;first|(rw [bL (by decide+kernel)];kernel_rfl)|(rw [bM (by decide+kernel)];exact ⟨rfl,rfl⟩))
    (fun os started H enc _=>lifted os started H enc)
end Go.Proofs.YtgjdiioennhoeaaGreat.worldSteps
namespace Go.Proofs.YtgjdiioennhoeaaGreat
theorem worldSteps_holds:Rows.WorldStepsSaid:=worldSteps.over
end Go.Proofs.YtgjdiioennhoeaaGreat
