/-
  Proved: for every input, WorldMarks returns true, and its arguments read afterwards as they read before.
  Conditions: none beyond those of the given row.
-/
import Derived.Test.YtgjdiioennhoeaaGreatPlain
import Derived.Test.YtgjdiioennhoeaaGreatRows
import Derived.WalkKit
namespace Go.Abs.World
open Go Go.Abs Go.Proofs
theorem rd2:Rd Tryz.prog 2 A4 A6b:=C6g Tryz.underlying2
theorem rd3:Rd Tryz.prog 3 A4 A6b:=C6g Tryz.underlying3
theorem rd43:Rd Tryz.prog 43 C2e (fun xs:(List Int)=> ∀a∈xs,A6b a):=B7j (sz:=1) Tryz.underlying43 rd3 (fun _=>rfl) (by decide) (by kernel_rfl)
theorem rd4:Rd Tryz.prog 4 C9z (fun _:Bool=>True):=C7m Tryz.underlying4
theorem rd45:Rd Tryz.prog 45 C3 (fun x:Agent=>(fun xs:(List Int)=> ∀a∈xs,A6b a) x.Route∧A6b x.S∧A6b x.V∧A6b x.Len∧A6b x.Begin∧(fun _:Bool=>True) x.Obey∧(fun _:Bool=>True) x.Gone):=
  C10 (B5j Tryz.underlying45 (wf:=_) (A1w (n:=1) rd43 rfl (fun _=>rfl) (A1w (n:=1) rd2 rfl (fun _=>rfl) (A1w (n:=1) rd2 rfl (fun _=>rfl) (A1w (n:=1) rd2 rfl (fun _=>rfl) (A1w (n:=1) rd2 rfl (fun _=>rfl) (A1w (n:=1) rd4 rfl (fun _=>rfl) (A1w (n:=1) rd4 rfl (fun _=>rfl) C00))))))) (by intro y;kernel_rfl)) C3 (fun x:Agent=>(fun xs:(List Int)=> ∀a∈xs,A6b a) x.Route∧A6b x.S∧A6b x.V∧A6b x.Len∧A6b x.Begin∧(fun _:Bool=>True) x.Obey∧(fun _:Bool=>True) x.Gone) (fun y=>⟨y.1,y.2.1,y.2.2.1,y.2.2.2.1,y.2.2.2.2.1,y.2.2.2.2.2.1,y.2.2.2.2.2.2.1⟩) (fun _=>rfl) (fun y h=>⟨h.1,h.2.1,h.2.2.1,h.2.2.2.1,h.2.2.2.2.1,h.2.2.2.2.2.1,h.2.2.2.2.2.2.1⟩)
theorem rd22:Rd Tryz.prog 22 C5u (fun xs:(List Agent)=> ∀a∈xs,(fun x:Agent=>(fun xs:(List Int)=> ∀a∈xs,A6b a) x.Route∧A6b x.S∧A6b x.V∧A6b x.Len∧A6b x.Begin∧(fun _:Bool=>True) x.Obey∧(fun _:Bool=>True) x.Gone) a):=B7j (sz:=7) Tryz.underlying22 rd45 (fun _=>rfl) (by decide) (by kernel_rfl)
theorem D03:Rd Tryz.prog 127 L4 (fun x:Stay=>A6b x.Agent_∧A6b x.Zone_∧A6b x.Since∧A6b x.Rank):=
  C10 (B5j Tryz.underlying127 (wf:=_) (A1w (n:=1) rd3 rfl (fun _=>rfl) (A1w (n:=1) rd3 rfl (fun _=>rfl) (A1w (n:=1) rd2 rfl (fun _=>rfl) (A1w (n:=1) rd3 rfl (fun _=>rfl) C00)))) (by intro y;kernel_rfl)) L4 (fun x:Stay=>A6b x.Agent_∧A6b x.Zone_∧A6b x.Since∧A6b x.Rank) (fun y=>⟨y.1,y.2.1,y.2.2.1,y.2.2.2.1⟩) (fun _=>rfl) (fun y h=>⟨h.1,h.2.1,h.2.2.1,h.2.2.2.1⟩)
theorem rd23:Rd Tryz.prog 23 C7z (fun xs:(List Stay)=> ∀a∈xs,(fun x:Stay=>A6b x.Agent_∧A6b x.Zone_∧A6b x.Since∧A6b x.Rank) a):=B7j (sz:=4) Tryz.underlying23 D03 (fun _=>rfl) (by decide) (by kernel_rfl)
theorem rd25:Rd Tryz.prog 25 A0r (fun x:State=>A6b x.Tick∧(fun xs:(List Agent)=> ∀a∈xs,(fun x:Agent=>(fun xs:(List Int)=> ∀a∈xs,A6b a) x.Route∧A6b x.S∧A6b x.V∧A6b x.Len∧A6b x.Begin∧(fun _:Bool=>True) x.Obey∧(fun _:Bool=>True) x.Gone) a) x.Agents∧(fun xs:(List Stay)=> ∀a∈xs,(fun x:Stay=>A6b x.Agent_∧A6b x.Zone_∧A6b x.Since∧A6b x.Rank) a) x.In):=
  C10 (B5j Tryz.underlying25 (wf:=_) (A1w (n:=1) rd2 rfl (fun _=>rfl) (A1w (n:=1) rd22 rfl (fun _=>rfl) (A1w (n:=1) rd23 rfl (fun _=>rfl) C00))) (by intro y;kernel_rfl)) A0r (fun x:State=>A6b x.Tick∧(fun xs:(List Agent)=> ∀a∈xs,(fun x:Agent=>(fun xs:(List Int)=> ∀a∈xs,A6b a) x.Route∧A6b x.S∧A6b x.V∧A6b x.Len∧A6b x.Begin∧(fun _:Bool=>True) x.Obey∧(fun _:Bool=>True) x.Gone) a) x.Agents∧(fun xs:(List Stay)=> ∀a∈xs,(fun x:Stay=>A6b x.Agent_∧A6b x.Zone_∧A6b x.Since∧A6b x.Rank) a) x.In) (fun y=>⟨y.1,y.2.1,y.2.2.1⟩) (fun _=>rfl) (fun y h=>⟨h.1,h.2.1,h.2.2.1⟩)
end Go.Abs.World
namespace Go.Proofs.YtgjdiioennhoeaaGreat.worldMarks
open Go.ChangeShapes Go.WideShapes Go.ChangeAt Go.RowKit Go.Abs Go.Abs.World
set_option linter.unusedVariables false
theorem own:ownKnob Tryz.prog.godebug=none:=by kernel_rfl
theorem C0a:laidOutB Tryz.prog=true:=by kernel_rfl
set_option maxRecDepth 100000 in
theorem lifted (os:Os)(started:os.Started)(H:Type)(enc:TypeId×Value→H):
    ReturnsInHanded {} Tryz.checked os 12 .any (Rows.worldMarksSpec.pre6 enc Tryz.prog Tryz.f12 Rows.worldMarksRow.domain false) (Rows.worldMarksSpec.post enc Tryz.prog Tryz.f12 false true false false):=by
  refine returnsInHanded_of_change (C:=Tryz.checked) own started (by kernel_rfl) Tryz.func12
    (ChangeSpec.witness6 (enc:=enc) (C:=Tryz.checked) false ⟨#[],#[.agg #[.int .i64 0, .slice none 0 0, .slice none 0 0], .int .i64 0],[]⟩ 8 (by kernel_rfl) (by kernel_rfl) (by kernel_rfl) (by kernel_rfl)) ?_
  intro W base args ds gs before hval0 hW hcnd _
  have hval: ∀(j:Nat) t v,Tryz.f12.params[j]? =some t→args[j]? =some v→Value.okWide Tryz.prog W .any base t v:=hval0
  have hW':=hW
  obtain ⟨p,q,hA0,hV,rfl,hfz,hnd⟩:=hW
  have hA:DataW.TrodAll enc Tryz.prog W 0 (fun _=>true) true Tryz.f12.params.toList args.toList ds p:=hA0
  rw [Tryz.params12]at hA hval
  obtain ⟨v0,vs0,d0,ds0,p0,q0,hargs,rfl,rfl,h0,r0⟩:=trodAll_cons hA
  obtain ⟨v1,vs1,d1,ds1,p1,q1,rfl,rfl,rfl,h1,r1⟩:=trodAll_cons r0
  obtain ⟨rfl,rfl,rfl⟩:=trodAll_nil r1
  obtain rfl:args= #[v0,v1]:=by cases args;simp_all
  obtain ⟨rfl,rfl⟩:=trodVars_none hV
  have k0:=h0
  have lt0: ∀x∈p0,x.block<W.heap.size:=by obtain ⟨m,hm⟩:=k0;exact DataW.trod_lt m _ _ _ hm
  obtain ⟨a0,w0,e0⟩:=C7n rd25 Tryz.underlying25 (hval 0 25 v0 rfl rfl) h0
  have k1:=h1
  have lt1: ∀x∈p1,x.block<W.heap.size:=by obtain ⟨m,hm⟩:=k1;exact DataW.trod_lt m _ _ _ hm
  obtain ⟨a1,w1,e1⟩:=C7o rd2 (by obtain ⟨_,rfl⟩:=okWide_int Tryz.underlying2 (hval 1 2 v1 rfl rfl);rfl) h1
  clear hA0 hval0
  refine (C5m (vs:= [v0,v1]) (B2i a0 a1 _ (B0s a0 a1)) rfl ?_).mono fun e W' ⟨he,bel⟩=> ?_
  ·intro i d hi
   match i,hi with
   |0,hi=>cases hi;exact e0
   |1,hi=>cases hi;exact e1
   |i+2,hi=>simp at hi
  ·subst he
   exact ⟨_,rfl,_,_,_,[],_,[],hW',trodAll_mk1 (shut_bool Tryz.underlying4 _),(trodAll_cons_mk (Below.trod C0a (by kernel_rfl) (of_decide_eq_true (by kernel_rfl)) k0 bel lt0) (trodAll_cons_mk (Below.trod C0a (by kernel_rfl) (of_decide_eq_true (by kernel_rfl)) k1 bel lt1) trodAll_mk0)),rfl,bel.frame _,fun h=>by cases h⟩
theorem j0:(mapsRowed Tryz.prog)=true:=by kernel_rfl
theorem j1:(Rows.worldMarksRow.inPlace==Tryz.prog.inPlace 12)=true:=by kernel_rfl
theorem j2:(Rows.worldMarksRow.unfollowed==Tryz.prog.unfollowed 12)=true:=by kernel_rfl
theorem j3:(Rows.worldMarksRow.recurses==Tryz.prog.recurses 12)=true:=by kernel_rfl
theorem j4:(Rows.worldMarksRow.named==Tryz.prog.varsNamed 12)=true:=by kernel_rfl
theorem j5:(Rows.worldMarksRow.plainKeys==Tryz.prog.plainKeys)=true:=by kernel_rfl
theorem j6:(Tryz.prog.stopsHeard)=true:=by kernel_rfl
theorem j7:(Tryz.prog.mayEnter)=true:=by kernel_rfl
theorem j8:(Rows.worldMarksRow.lifted==Tryz.prog.liftsFinal)=true:=by kernel_rfl
theorem j9:(Tryz.prog.make==some Rows.worldMarksRow.make)=true:=by kernel_rfl
theorem j10:(Rows.worldMarksRow.loops==(Tryz.f12.params.toList++Rows.worldMarksSpec.plain.varTypes Tryz.prog).any (Tryz.prog.loopsFrom ·))=true:=by kernel_rfl
theorem C6l:joinedFacts Tryz.prog 12 Tryz.f12 Rows.worldMarksSpec Rows.worldMarksRow=true:=by
  unfold joinedFacts
  simp only [Bool.and_eq_true]
  repeat' apply And.intro
  all_goals first|with_reducible exact C0a|with_reducible exact j0|with_reducible exact j1|with_reducible exact j2|with_reducible exact j3|with_reducible exact j4|with_reducible exact j5|with_reducible exact j6|with_reducible exact j7|with_reducible exact j8|with_reducible exact j9|with_reducible exact j10|kernel_rfl
theorem over:Rows.worldMarksRow.holds Tryz.pinned (OpenSpec.ofChange Rows.worldMarksSpec):=
  OpenClaim.holds_of_wide 12 Tryz.f12 rfl rfl rfl rfl rfl rfl rfl ⟨rfl,rfl,rfl,rfl,rfl⟩ rfl rfl rfl rfl rfl (by kernel_rfl) Tryz.func12 C6l
    (of_decide_eq_true (by kernel_rfl)) (by unfold Func.isWrapper;first|(rw [if_pos (by decide+kernel)];kernel_rfl)|(rw [if_neg (by decide+kernel)];exact ⟨rfl,rfl⟩))
    (fun os started H enc _=>lifted os started H enc)
end Go.Proofs.YtgjdiioennhoeaaGreat.worldMarks
namespace Go.Proofs.YtgjdiioennhoeaaGreat
theorem worldMarks_holds:Rows.WorldMarksSaid:=worldMarks.over
end Go.Proofs.YtgjdiioennhoeaaGreat
