/-
  Proved: for every input, WorldMoves returns true, and its arguments read afterwards as they read before.
  Conditions: none beyond those of the given row.
-/
import Derived.Test.YtgjdiioennhoeaaGreatPlainB
import Derived.Test.YtgjdiioennhoeaaGreatRows
import Derived.WalkKit
namespace Go.Abs.World
open Go Go.Abs Go.Proofs
theorem rd3:Rd Tryz.prog 3 A4 A6v:=D7g Tryz.underlying3
theorem rd2:Rd Tryz.prog 2 A4 A6v:=D7g Tryz.underlying2
theorem rd43:Rd Tryz.prog 43 D15 (fun xs:(List Int)=> ∀a∈xs,A6v a):=C4n (sz:=1) Tryz.underlying43 rd3 (fun _=>rfl) (by decide) (by kernel_rfl)
theorem rd4:Rd Tryz.prog 4 E20 (fun _:Bool=>True):=D8u Tryz.underlying4
theorem rd45:Rd Tryz.prog 45 D8 (fun x:Agent=>(fun xs:(List Int)=> ∀a∈xs,A6v a) x.Route∧A6v x.S∧A6v x.V∧A6v x.Len∧A6v x.Begin∧(fun _:Bool=>True) x.Obey∧(fun _:Bool=>True) x.Gone):=
  C9f (C1f Tryz.underlying45 (wf:=_) (A4v (n:=1) rd43 rfl (fun _=>rfl) (A4v (n:=1) rd2 rfl (fun _=>rfl) (A4v (n:=1) rd2 rfl (fun _=>rfl) (A4v (n:=1) rd2 rfl (fun _=>rfl) (A4v (n:=1) rd2 rfl (fun _=>rfl) (A4v (n:=1) rd4 rfl (fun _=>rfl) (A4v (n:=1) rd4 rfl (fun _=>rfl) C81))))))) (by intro y;kernel_rfl)) D8 (fun x:Agent=>(fun xs:(List Int)=> ∀a∈xs,A6v a) x.Route∧A6v x.S∧A6v x.V∧A6v x.Len∧A6v x.Begin∧(fun _:Bool=>True) x.Obey∧(fun _:Bool=>True) x.Gone) (fun y=>⟨y.1,y.2.1,y.2.2.1,y.2.2.2.1,y.2.2.2.2.1,y.2.2.2.2.2.1,y.2.2.2.2.2.2.1⟩) (fun _=>rfl) (fun y h=>⟨h.1,h.2.1,h.2.2.1,h.2.2.2.1,h.2.2.2.2.1,h.2.2.2.2.2.1,h.2.2.2.2.2.2.1⟩)
theorem rd22:Rd Tryz.prog 22 D69 (fun xs:(List Agent)=> ∀a∈xs,(fun x:Agent=>(fun xs:(List Int)=> ∀a∈xs,A6v a) x.Route∧A6v x.S∧A6v x.V∧A6v x.Len∧A6v x.Begin∧(fun _:Bool=>True) x.Obey∧(fun _:Bool=>True) x.Gone) a):=C4n (sz:=7) Tryz.underlying22 rd45 (fun _=>rfl) (by decide) (by kernel_rfl)
theorem E2a:Rd Tryz.prog 127 N1 (fun x:Stay=>A6v x.Agent_∧A6v x.Zone_∧A6v x.Since∧A6v x.Rank):=
  C9f (C1f Tryz.underlying127 (wf:=_) (A4v (n:=1) rd3 rfl (fun _=>rfl) (A4v (n:=1) rd3 rfl (fun _=>rfl) (A4v (n:=1) rd2 rfl (fun _=>rfl) (A4v (n:=1) rd3 rfl (fun _=>rfl) C81)))) (by intro y;kernel_rfl)) N1 (fun x:Stay=>A6v x.Agent_∧A6v x.Zone_∧A6v x.Since∧A6v x.Rank) (fun y=>⟨y.1,y.2.1,y.2.2.1,y.2.2.2.1⟩) (fun _=>rfl) (fun y h=>⟨h.1,h.2.1,h.2.2.1,h.2.2.2.1⟩)
theorem rd23:Rd Tryz.prog 23 D94 (fun xs:(List Stay)=> ∀a∈xs,(fun x:Stay=>A6v x.Agent_∧A6v x.Zone_∧A6v x.Since∧A6v x.Rank) a):=C4n (sz:=4) Tryz.underlying23 E2a (fun _=>rfl) (by decide) (by kernel_rfl)
theorem rd25:Rd Tryz.prog 25 A30 (fun x:State=>A6v x.Tick∧(fun xs:(List Agent)=> ∀a∈xs,(fun x:Agent=>(fun xs:(List Int)=> ∀a∈xs,A6v a) x.Route∧A6v x.S∧A6v x.V∧A6v x.Len∧A6v x.Begin∧(fun _:Bool=>True) x.Obey∧(fun _:Bool=>True) x.Gone) a) x.Agents∧(fun xs:(List Stay)=> ∀a∈xs,(fun x:Stay=>A6v x.Agent_∧A6v x.Zone_∧A6v x.Since∧A6v x.Rank) a) x.In):=
  C9f (C1f Tryz.underlying25 (wf:=_) (A4v (n:=1) rd2 rfl (fun _=>rfl) (A4v (n:=1) rd22 rfl (fun _=>rfl) (A4v (n:=1) rd23 rfl (fun _=>rfl) C81))) (by intro y;kernel_rfl)) A30 (fun x:State=>A6v x.Tick∧(fun xs:(List Agent)=> ∀a∈xs,(fun x:Agent=>(fun xs:(List Int)=> ∀a∈xs,A6v a) x.Route∧A6v x.S∧A6v x.V∧A6v x.Len∧A6v x.Begin∧(fun _:Bool=>True) x.Obey∧(fun _:Bool=>True) x.Gone) a) x.Agents∧(fun xs:(List Stay)=> ∀a∈xs,(fun x:Stay=>A6v x.Agent_∧A6v x.Zone_∧A6v x.Since∧A6v x.Rank) a) x.In) (fun y=>⟨y.1,y.2.1,y.2.2.1⟩) (fun _=>rfl) (fun y h=>⟨h.1,h.2.1,h.2.2.1⟩)
end Go.Abs.World
namespace Go.Proofs.YtgjdiioennhoeaaGreat.worldMoves
open Go.ChangeShapes Go.WideShapes Go.ChangeAt Go.RowKit Go.Abs Go.Abs.World
set_option linter.unusedVariables false
theorem own:ownKnob Tryz.prog.godebug=none:=by kernel_rfl
theorem C2m:laidOutB Tryz.prog=true:=by kernel_rfl
set_option maxRecDepth 100000 in
theorem lifted (os:Os)(started:os.Started)(H:Type)(enc:TypeId×Value→H):
    ReturnsInHanded {} Tryz.checked os 5 .any (Rows.worldMovesSpec.pre6 enc Tryz.prog Tryz.f5 Rows.worldMovesRow.domain false) (Rows.worldMovesSpec.post enc Tryz.prog Tryz.f5 false true false false):=by
  refine returnsInHanded_of_change (C:=Tryz.checked) own started (by kernel_rfl) Tryz.func5
    (ChangeSpec.witness6 (enc:=enc) (C:=Tryz.checked) false ⟨#[],#[.int .i64 0, .agg #[.int .i64 0, .slice none 0 0, .slice none 0 0], .int .i64 0, .int .i64 0],[]⟩ 8 (by kernel_rfl) (by kernel_rfl) (by kernel_rfl) (by kernel_rfl)) ?_
  intro W base args ds gs before hval0 hW hcnd _
  have hval: ∀(j:Nat) t v,Tryz.f5.params[j]? =some t→args[j]? =some v→Value.okWide Tryz.prog W .any base t v:=hval0
  have hW':=hW
  obtain ⟨p,q,hA0,hV,rfl,hfz,hnd⟩:=hW
  have hA:DataW.TrodAll enc Tryz.prog W 0 (fun _=>true) true Tryz.f5.params.toList args.toList ds p:=hA0
  rw [Tryz.params5]at hA hval
  obtain ⟨v0,vs0,d0,ds0,p0,q0,hargs,rfl,rfl,h0,r0⟩:=trodAll_cons hA
  obtain ⟨v1,vs1,d1,ds1,p1,q1,rfl,rfl,rfl,h1,r1⟩:=trodAll_cons r0
  obtain ⟨v2,vs2,d2,ds2,p2,q2,rfl,rfl,rfl,h2,r2⟩:=trodAll_cons r1
  obtain ⟨v3,vs3,d3,ds3,p3,q3,rfl,rfl,rfl,h3,r3⟩:=trodAll_cons r2
  obtain ⟨rfl,rfl,rfl⟩:=trodAll_nil r3
  obtain rfl:args= #[v0,v1,v2,v3]:=by cases args;simp_all
  obtain ⟨rfl,rfl⟩:=trodVars_none hV
  have k0:=h0
  have lt0: ∀x∈p0,x.block<W.heap.size:=by obtain ⟨m,hm⟩:=k0;exact DataW.trod_lt m _ _ _ hm
  obtain ⟨a0,w0,e0⟩:=C82 rd3 (by obtain ⟨_,rfl⟩:=okWide_int Tryz.underlying3 (hval 0 3 v0 rfl rfl);rfl) h0
  have k1:=h1
  have lt1: ∀x∈p1,x.block<W.heap.size:=by obtain ⟨m,hm⟩:=k1;exact DataW.trod_lt m _ _ _ hm
  obtain ⟨a1,w1,e1⟩:=D8v rd25 Tryz.underlying25 (hval 1 25 v1 rfl rfl) h1
  have k2:=h2
  have lt2: ∀x∈p2,x.block<W.heap.size:=by obtain ⟨m,hm⟩:=k2;exact DataW.trod_lt m _ _ _ hm
  obtain ⟨a2,w2,e2⟩:=C82 rd3 (by obtain ⟨_,rfl⟩:=okWide_int Tryz.underlying3 (hval 2 3 v2 rfl rfl);rfl) h2
  have k3:=h3
  have lt3: ∀x∈p3,x.block<W.heap.size:=by obtain ⟨m,hm⟩:=k3;exact DataW.trod_lt m _ _ _ hm
  obtain ⟨a3,w3,e3⟩:=C82 rd2 (by obtain ⟨_,rfl⟩:=okWide_int Tryz.underlying2 (hval 3 2 v3 rfl rfl);rfl) h3
  clear hA0 hval0
  refine (D60 (vs:= [v0,v1,v2,v3]) (B6y a0 a1 a2 a3 _ (B4p a0 a1 a2 a3 w0 w1 w2 w3)) rfl ?_).mono fun e W' ⟨he,bel⟩=> ?_
  ·intro i d hi
   match i,hi with
   |0,hi=>cases hi;exact e0
   |1,hi=>cases hi;exact e1
   |2,hi=>cases hi;exact e2
   |3,hi=>cases hi;exact e3
   |i+4,hi=>simp at hi
  ·subst he
   exact ⟨_,rfl,_,_,_,[],_,[],hW',trodAll_mk1 (shut_bool Tryz.underlying4 _),(trodAll_cons_mk (Below.trod C2m (by kernel_rfl) (of_decide_eq_true (by kernel_rfl)) k0 bel lt0) (trodAll_cons_mk (Below.trod C2m (by kernel_rfl) (of_decide_eq_true (by kernel_rfl)) k1 bel lt1) (trodAll_cons_mk (Below.trod C2m (by kernel_rfl) (of_decide_eq_true (by kernel_rfl)) k2 bel lt2) (trodAll_cons_mk (Below.trod C2m (by kernel_rfl) (of_decide_eq_true (by kernel_rfl)) k3 bel lt3) trodAll_mk0)))),rfl,bel.frame _,fun h=>by cases h⟩
theorem j0:(mapsRowed Tryz.prog)=true:=by kernel_rfl
theorem j1:(Rows.worldMovesRow.inPlace==Tryz.prog.inPlace 5)=true:=by kernel_rfl
theorem j2:(Rows.worldMovesRow.unfollowed==Tryz.prog.unfollowed 5)=true:=by kernel_rfl
theorem j3:(Rows.worldMovesRow.recurses==Tryz.prog.recurses 5)=true:=by kernel_rfl
theorem j4:(Rows.worldMovesRow.named==Tryz.prog.varsNamed 5)=true:=by kernel_rfl
theorem j5:(Rows.worldMovesRow.plainKeys==Tryz.prog.plainKeys)=true:=by kernel_rfl
theorem j6:(Tryz.prog.stopsHeard)=true:=by kernel_rfl
theorem j7:(Tryz.prog.mayEnter)=true:=by kernel_rfl
theorem j8:(Rows.worldMovesRow.lifted==Tryz.prog.liftsFinal)=true:=by kernel_rfl
theorem j9:(Tryz.prog.make==some Rows.worldMovesRow.make)=true:=by kernel_rfl
theorem j10:(Rows.worldMovesRow.loops==(Tryz.f5.params.toList++Rows.worldMovesSpec.plain.varTypes Tryz.prog).any (Tryz.prog.loopsFrom ·))=true:=by kernel_rfl
theorem D4n:joinedFacts Tryz.prog 5 Tryz.f5 Rows.worldMovesSpec Rows.worldMovesRow=true:=by
  unfold joinedFacts
  simp only [Bool.and_eq_true]
  repeat' apply And.intro
  all_goals first|with_reducible exact C2m|with_reducible exact j0|with_reducible exact j1|with_reducible exact j2|with_reducible exact j3|with_reducible exact j4|with_reducible exact j5|with_reducible exact j6|with_reducible exact j7|with_reducible exact j8|with_reducible exact j9|with_reducible exact j10|kernel_rfl
theorem over:Rows.worldMovesRow.holds Tryz.pinned (OpenSpec.ofChange Rows.worldMovesSpec):=
  OpenClaim.holds_of_wide 5 Tryz.f5 rfl rfl rfl rfl rfl rfl rfl ⟨rfl,rfl,rfl,rfl,rfl⟩ rfl rfl rfl rfl rfl (by kernel_rfl) Tryz.func5 D4n
    (of_decide_eq_true (by kernel_rfl)) (by unfold Func.isWrapper;first|(rw [if_pos (by decide+kernel)];kernel_rfl)|(rw [if_neg (by decide+kernel)];exact ⟨rfl,rfl⟩))
    (fun os started H enc _=>lifted os started H enc)
end Go.Proofs.YtgjdiioennhoeaaGreat.worldMoves
namespace Go.Proofs.YtgjdiioennhoeaaGreat
theorem worldMoves_holds:Rows.WorldMovesSaid:=worldMoves.over
end Go.Proofs.YtgjdiioennhoeaaGreat
