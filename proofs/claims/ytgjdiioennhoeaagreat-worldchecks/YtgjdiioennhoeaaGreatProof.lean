/-
  Proved: for every input, WorldChecks returns true, and its arguments read afterwards as they read before.
  Conditions: none beyond those of the given row.
-/
import Derived.Test.YtgjdiioennhoeaaGreatPlainB
import Derived.Test.YtgjdiioennhoeaaGreatRows
import Derived.WalkKit
namespace Go.Abs.World
open Go Go.Abs Go.Proofs
theorem rd3:Rd Tryz.prog 3 A5 A6l:=D4l Tryz.underlying3
theorem rd2:Rd Tryz.prog 2 A5 A6l:=D4l Tryz.underlying2
theorem rd43:Rd Tryz.prog 43 C8u (fun xs:(List Int)=> ∀a∈xs,A6l a):=C2t (sz:=1) Tryz.underlying43 rd3 (fun _=>rfl) (by decide) (by kernel_rfl)
theorem rd4:Rd Tryz.prog 4 D8x (fun _:Bool=>True):=D61 Tryz.underlying4
theorem rd45:Rd Tryz.prog 45 D2 (fun x:Agent=>(fun xs:(List Int)=> ∀a∈xs,A6l a) x.Route∧A6l x.S∧A6l x.V∧A6l x.Len∧A6l x.Begin∧(fun _:Bool=>True) x.Obey∧(fun _:Bool=>True) x.Gone):=
  C7b (B9x Tryz.underlying45 (wf:=_) (A49 (n:=1) rd43 rfl (fun _=>rfl) (A49 (n:=1) rd2 rfl (fun _=>rfl) (A49 (n:=1) rd2 rfl (fun _=>rfl) (A49 (n:=1) rd2 rfl (fun _=>rfl) (A49 (n:=1) rd2 rfl (fun _=>rfl) (A49 (n:=1) rd4 rfl (fun _=>rfl) (A49 (n:=1) rd4 rfl (fun _=>rfl) C5x))))))) (by intro y;kernel_rfl)) D2 (fun x:Agent=>(fun xs:(List Int)=> ∀a∈xs,A6l a) x.Route∧A6l x.S∧A6l x.V∧A6l x.Len∧A6l x.Begin∧(fun _:Bool=>True) x.Obey∧(fun _:Bool=>True) x.Gone) (fun y=>⟨y.1,y.2.1,y.2.2.1,y.2.2.2.1,y.2.2.2.2.1,y.2.2.2.2.2.1,y.2.2.2.2.2.2.1⟩) (fun _=>rfl) (fun y h=>⟨h.1,h.2.1,h.2.2.1,h.2.2.2.1,h.2.2.2.2.1,h.2.2.2.2.2.1,h.2.2.2.2.2.2.1⟩)
theorem rd22:Rd Tryz.prog 22 D3k (fun xs:(List Agent)=> ∀a∈xs,(fun x:Agent=>(fun xs:(List Int)=> ∀a∈xs,A6l a) x.Route∧A6l x.S∧A6l x.V∧A6l x.Len∧A6l x.Begin∧(fun _:Bool=>True) x.Obey∧(fun _:Bool=>True) x.Gone) a):=C2t (sz:=7) Tryz.underlying22 rd45 (fun _=>rfl) (by decide) (by kernel_rfl)
theorem D97:Rd Tryz.prog 127 L7 (fun x:Stay=>A6l x.Agent_∧A6l x.Zone_∧A6l x.Since∧A6l x.Rank):=
  C7b (B9x Tryz.underlying127 (wf:=_) (A49 (n:=1) rd3 rfl (fun _=>rfl) (A49 (n:=1) rd3 rfl (fun _=>rfl) (A49 (n:=1) rd2 rfl (fun _=>rfl) (A49 (n:=1) rd3 rfl (fun _=>rfl) C5x)))) (by intro y;kernel_rfl)) L7 (fun x:Stay=>A6l x.Agent_∧A6l x.Zone_∧A6l x.Since∧A6l x.Rank) (fun y=>⟨y.1,y.2.1,y.2.2.1,y.2.2.2.1⟩) (fun _=>rfl) (fun y h=>⟨h.1,h.2.1,h.2.2.1,h.2.2.2.1⟩)
theorem rd23:Rd Tryz.prog 23 D6f (fun xs:(List Stay)=> ∀a∈xs,(fun x:Stay=>A6l x.Agent_∧A6l x.Zone_∧A6l x.Since∧A6l x.Rank) a):=C2t (sz:=4) Tryz.underlying23 D97 (fun _=>rfl) (by decide) (by kernel_rfl)
theorem rd25:Rd Tryz.prog 25 A2s (fun x:State=>A6l x.Tick∧(fun xs:(List Agent)=> ∀a∈xs,(fun x:Agent=>(fun xs:(List Int)=> ∀a∈xs,A6l a) x.Route∧A6l x.S∧A6l x.V∧A6l x.Len∧A6l x.Begin∧(fun _:Bool=>True) x.Obey∧(fun _:Bool=>True) x.Gone) a) x.Agents∧(fun xs:(List Stay)=> ∀a∈xs,(fun x:Stay=>A6l x.Agent_∧A6l x.Zone_∧A6l x.Since∧A6l x.Rank) a) x.In):=
  C7b (B9x Tryz.underlying25 (wf:=_) (A49 (n:=1) rd2 rfl (fun _=>rfl) (A49 (n:=1) rd22 rfl (fun _=>rfl) (A49 (n:=1) rd23 rfl (fun _=>rfl) C5x))) (by intro y;kernel_rfl)) A2s (fun x:State=>A6l x.Tick∧(fun xs:(List Agent)=> ∀a∈xs,(fun x:Agent=>(fun xs:(List Int)=> ∀a∈xs,A6l a) x.Route∧A6l x.S∧A6l x.V∧A6l x.Len∧A6l x.Begin∧(fun _:Bool=>True) x.Obey∧(fun _:Bool=>True) x.Gone) a) x.Agents∧(fun xs:(List Stay)=> ∀a∈xs,(fun x:Stay=>A6l x.Agent_∧A6l x.Zone_∧A6l x.Since∧A6l x.Rank) a) x.In) (fun y=>⟨y.1,y.2.1,y.2.2.1⟩) (fun _=>rfl) (fun y h=>⟨h.1,h.2.1,h.2.2.1⟩)
end Go.Abs.World
namespace Go.Proofs.YtgjdiioennhoeaaGreat.worldChecks
open Go.ChangeShapes Go.WideShapes Go.ChangeAt Go.RowKit Go.Abs Go.Abs.World
set_option linter.unusedVariables false
theorem own:ownKnob Tryz.prog.godebug=none:=by kernel_rfl
theorem C6l:laidOutB Tryz.prog=true:=by kernel_rfl
set_option maxRecDepth 100000 in
theorem lifted (os:Os)(started:os.Started)(H:Type)(enc:TypeId×Value→H):
    ReturnsInHanded {} Tryz.checked os 3 .any (Rows.worldChecksSpec.pre6 enc Tryz.prog Tryz.f3 Rows.worldChecksRow.domain false) (Rows.worldChecksSpec.post enc Tryz.prog Tryz.f3 false true false false):=by
  refine returnsInHanded_of_change (C:=Tryz.checked) own started (by kernel_rfl) Tryz.func3
    (ChangeSpec.witness6 (enc:=enc) (C:=Tryz.checked) false ⟨#[],#[.int .i64 0, .agg #[.int .i64 0, .slice none 0 0, .slice none 0 0]],[]⟩ 8 (by kernel_rfl) (by kernel_rfl) (by kernel_rfl) (by kernel_rfl)) ?_
  intro W base args ds gs before hval0 hW hcnd _
  have hval: ∀(j:Nat) t v,Tryz.f3.params[j]? =some t→args[j]? =some v→Value.okWide Tryz.prog W .any base t v:=hval0
  have hW':=hW
  obtain ⟨p,q,hA0,hV,rfl,hfz,hnd⟩:=hW
  have hA:DataW.TrodAll enc Tryz.prog W 0 (fun _=>true) true Tryz.f3.params.toList args.toList ds p:=hA0
  rw [Tryz.params3]at hA hval
  obtain ⟨v0,vs0,d0,ds0,p0,q0,hargs,rfl,rfl,h0,r0⟩:=trodAll_cons hA
  obtain ⟨v1,vs1,d1,ds1,p1,q1,rfl,rfl,rfl,h1,r1⟩:=trodAll_cons r0
  obtain ⟨rfl,rfl,rfl⟩:=trodAll_nil r1
  obtain rfl:args= #[v0,v1]:=by cases args;simp_all
  obtain ⟨rfl,rfl⟩:=trodVars_none hV
  have k0:=h0
  have lt0: ∀x∈p0,x.block<W.heap.size:=by obtain ⟨m,hm⟩:=k0;exact DataW.trod_lt m _ _ _ hm
  obtain ⟨a0,w0,e0⟩:=D63 rd3 (by obtain ⟨_,rfl⟩:=okWide_int Tryz.underlying3 (hval 0 3 v0 rfl rfl);rfl) h0
  have k1:=h1
  have lt1: ∀x∈p1,x.block<W.heap.size:=by obtain ⟨m,hm⟩:=k1;exact DataW.trod_lt m _ _ _ hm
  obtain ⟨a1,w1,e1⟩:=D62 rd25 Tryz.underlying25 (hval 1 25 v1 rfl rfl) h1
  clear hA0 hval0
  refine (D3b (vs:= [v0,v1]) (B4z a0 a1 _ (B3l a0 a1 w0 w1)) rfl ?_).mono fun e W' ⟨he,bel⟩=> ?_
  ·intro i d hi
   match i,hi with
   |0,hi=>cases hi;exact e0
   |1,hi=>cases hi;exact e1
   |i+2,hi=>simp at hi
  ·subst he
   exact ⟨_,rfl,_,_,_,[],_,[],hW',trodAll_mk1 (shut_bool Tryz.underlying4 _),(trodAll_cons_mk (Below.trod C6l (by kernel_rfl) (of_decide_eq_true (by kernel_rfl)) k0 bel lt0) (trodAll_cons_mk (Below.trod C6l (by kernel_rfl) (of_decide_eq_true (by kernel_rfl)) k1 bel lt1) trodAll_mk0)),rfl,bel.frame _,fun h=>by cases h⟩
theorem j0:(mapsRowed Tryz.prog)=true:=by kernel_rfl
theorem j1:(Rows.worldChecksRow.inPlace==Tryz.prog.inPlace 3)=true:=by kernel_rfl
theorem j2:(Rows.worldChecksRow.unfollowed==Tryz.prog.unfollowed 3)=true:=by kernel_rfl
theorem j3:(Rows.worldChecksRow.recurses==Tryz.prog.recurses 3)=true:=by kernel_rfl
theorem j4:(Rows.worldChecksRow.named==Tryz.prog.varsNamed 3)=true:=by kernel_rfl
theorem j5:(Rows.worldChecksRow.plainKeys==Tryz.prog.plainKeys)=true:=by kernel_rfl
theorem j6:(Tryz.prog.stopsHeard)=true:=by kernel_rfl
theorem j7:(Tryz.prog.mayEnter)=true:=by kernel_rfl
theorem j8:(Rows.worldChecksRow.lifted==Tryz.prog.liftsFinal)=true:=by kernel_rfl
theorem j9:(Tryz.prog.make==some Rows.worldChecksRow.make)=true:=by kernel_rfl
theorem j10:(Rows.worldChecksRow.loops==(Tryz.f3.params.toList++Rows.worldChecksSpec.plain.varTypes Tryz.prog).any (Tryz.prog.loopsFrom ·))=true:=by kernel_rfl
theorem D4y:joinedFacts Tryz.prog 3 Tryz.f3 Rows.worldChecksSpec Rows.worldChecksRow=true:=by
  unfold joinedFacts
  simp only [Bool.and_eq_true]
  repeat' apply And.intro
  all_goals first|with_reducible exact C6l|with_reducible exact j0|with_reducible exact j1|with_reducible exact j2|with_reducible exact j3|with_reducible exact j4|with_reducible exact j5|with_reducible exact j6|with_reducible exact j7|with_reducible exact j8|with_reducible exact j9|with_reducible exact j10|kernel_rfl
theorem over:Rows.worldChecksRow.holds Tryz.pinned (OpenSpec.ofChange Rows.worldChecksSpec):=
  OpenClaim.holds_of_wide 3 Tryz.f3 rfl rfl rfl rfl rfl rfl rfl ⟨rfl,rfl,rfl,rfl,rfl⟩ rfl rfl rfl rfl rfl (by kernel_rfl) Tryz.func3 D4y
    (of_decide_eq_true (by kernel_rfl)) (by unfold Func.isWrapper;first|(rw [if_pos (by decide+kernel)];kernel_rfl)|(rw [if_neg (by decide+kernel)];exact ⟨rfl,rfl⟩))
    (fun os started H enc _=>lifted os started H enc)
end Go.Proofs.YtgjdiioennhoeaaGreat.worldChecks
namespace Go.Proofs.YtgjdiioennhoeaaGreat
theorem worldChecks_holds:Rows.WorldChecksSaid:=worldChecks.over
end Go.Proofs.YtgjdiioennhoeaaGreat
