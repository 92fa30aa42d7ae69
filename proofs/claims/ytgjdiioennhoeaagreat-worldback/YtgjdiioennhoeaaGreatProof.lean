/-
  Proved: for every input, WorldBack returns true, and its arguments read afterwards as they read before.
  Conditions: none beyond those of the given row.
-/
import Derived.Test.YtgjdiioennhoeaaGreatPlainB
import Derived.Test.YtgjdiioennhoeaaGreatRows
import Derived.WalkKit
namespace Go.Abs.World
open Go Go.Abs Go.Proofs
theorem zI:Rd Tryz.prog 3 A5 Fr:=mK Tryz.underlying3
theorem yU:Rd Tryz.prog 2 A5 Fr:=mK Tryz.underlying2
theorem rd4:Rd Tryz.prog 4 xT (fun _:Bool=>True):=rE Tryz.underlying4
theorem zJ:Rd Tryz.prog 73 Qe (fun x:KitActor=>Fr x.R∧Fr x.S∧Fr x.V∧Fr x.Len∧Fr x.Begin∧(fun _:Bool=>True) x.Disobeys):=
  mH (fX Tryz.underlying73 (wf:=_) (Xj (n:=1) zI rfl (fun _=>rfl) (Xj (n:=1) yU rfl (fun _=>rfl) (Xj (n:=1) yU rfl (fun _=>rfl) (Xj (n:=1) yU rfl (fun _=>rfl) (Xj (n:=1) zI rfl (fun _=>rfl) (Xj (n:=1) rd4 rfl (fun _=>rfl) rF)))))) (by intro y;kernel_rfl)) Qe (fun x:KitActor=>Fr x.R∧Fr x.S∧Fr x.V∧Fr x.Len∧Fr x.Begin∧(fun _:Bool=>True) x.Disobeys) (fun y=>⟨y.1,y.2.1,y.2.2.1,y.2.2.2.1,y.2.2.2.2.1,y.2.2.2.2.2.1⟩) (fun _=>rfl) (fun y h=>⟨h.1,h.2.1,h.2.2.1,h.2.2.2.1,h.2.2.2.2.1,h.2.2.2.2.2.1⟩)
theorem zK:Rd Tryz.prog 54 XA (fun xs:(List KitActor)=> ∀a∈xs,(fun x:KitActor=>Fr x.R∧Fr x.S∧Fr x.V∧Fr x.Len∧Fr x.Begin∧(fun _:Bool=>True) x.Disobeys) a):=NQ (sz:=6) Tryz.underlying54 zJ (fun _=>rfl) (by decide) (by kernel_rfl)
theorem zL:Rd Tryz.prog 48 Yq (fun xs:(List Int)=> ∀a∈xs,Fr a):=NQ (sz:=1) Tryz.underlying48 yU (fun _=>rfl) (by decide) (by kernel_rfl)
theorem zM:Rd Tryz.prog 55 UF (fun xs:(List (List Int))=> ∀a∈xs,(fun xs:(List Int)=> ∀a∈xs,Fr a) a):=NQ (sz:=1) Tryz.underlying55 zL (fun _=>rfl) (by decide) (by kernel_rfl)
end Go.Abs.World
namespace Go.Proofs.YtgjdiioennhoeaaGreat.worldBack
open Go.ChangeShapes Go.WideShapes Go.ChangeAt Go.RowKit Go.Abs Go.Abs.World
set_option linter.unusedVariables false
theorem own:ownKnob Tryz.prog.godebug=none:=by kernel_rfl
theorem ME:laidOutB Tryz.prog=true:=by kernel_rfl
set_option maxRecDepth 100000 in
theorem lifted (os:Os)(started:os.Started)(H:Type)(enc:TypeId×Value→H):
    ReturnsInHanded {} Tryz.checked os 15 .any (Rows.worldBackSpec.pre6 enc Tryz.prog Tryz.f15 Rows.worldBackRow.domain false) (Rows.worldBackSpec.post enc Tryz.prog Tryz.f15 false true false false):=by
  refine returnsInHanded_of_change (C:=Tryz.checked) own started (by kernel_rfl) Tryz.func15
    (ChangeSpec.witness6 (enc:=enc) (C:=Tryz.checked) false ⟨#[],#[.int .i64 0, .slice none 0 0, .slice none 0 0],[]⟩ 8 (by kernel_rfl) (by kernel_rfl) (by kernel_rfl) (by kernel_rfl)) ?_
  intro W base args ds gs before hval0 hW hcnd _;have hval: ∀(j:Nat) t v,Tryz.f15.params[j]? =some t→args[j]? =some v→Value.okWide Tryz.prog W .any base t v:=hval0;have hW':=hW;obtain ⟨p,q,hA0,hV,rfl,hfz,hnd⟩:=hW;have hA:DataW.TrodAll enc Tryz.prog W 0 (fun _=>true) true Tryz.f15.params.toList args.toList ds p:=hA0;rw [Tryz.params15]at hA hval;obtain ⟨v0,vs0,d0,ds0,p0,q0,hargs,rfl,rfl,h0,r0⟩:=trodAll_cons hA;obtain ⟨v1,vs1,d1,ds1,p1,q1,rfl,rfl,rfl,h1,r1⟩:=trodAll_cons r0;obtain ⟨v2,vs2,d2,ds2,p2,q2,rfl,rfl,rfl,h2,r2⟩:=trodAll_cons r1;obtain ⟨rfl,rfl,rfl⟩:=trodAll_nil r2;obtain rfl:args= #[v0,v1,v2]:=by cases args;simp_all
  obtain ⟨rfl,rfl⟩:=trodVars_none hV;have k0:=h0;have lt0: ∀x∈p0,x.block<W.heap.size:=by obtain ⟨m,hm⟩:=k0;exact DataW.trod_lt m _ _ _ hm
  obtain ⟨a0,w0,e0⟩:=TY zI (by obtain ⟨_,rfl⟩:=okWide_int Tryz.underlying3 (hval 0 3 v0 rfl rfl);rfl) h0;have k1:=h1;have lt1: ∀x∈p1,x.block<W.heap.size:=by obtain ⟨m,hm⟩:=k1;exact DataW.trod_lt m _ _ _ hm
  obtain ⟨a1,w1,e1⟩:=TY zK (by obtain ⟨_,_,_,rfl⟩:=okWide_slice Tryz.underlying54 (hval 1 54 v1 rfl rfl);rfl) h1;have k2:=h2;have lt2: ∀x∈p2,x.block<W.heap.size:=by obtain ⟨m,hm⟩:=k2;exact DataW.trod_lt m _ _ _ hm
  obtain ⟨a2,w2,e2⟩:=TY zM (by obtain ⟨_,_,_,rfl⟩:=okWide_slice Tryz.underlying55 (hval 2 55 v2 rfl rfl);rfl) h2;clear hA0 hval0;refine (mI (vs:= [v0,v1,v2]) (FU a0 a1 a2 _ (AL a0 a1 a2)) rfl ?_).mono fun e W' ⟨he,bel⟩=> ?_
  ·intro i d hi
   match i,hi with
   |0,hi=>cases hi;exact e0
   |1,hi=>cases hi;exact e1
   |2,hi=>cases hi;exact e2
   |i+3,hi=>simp at hi
  ·subst he;exact ⟨_,rfl,_,_,_,[],_,[],hW',trodAll_mk1 (shut_bool Tryz.underlying4 _),(trodAll_cons_mk (Below.trod ME (by kernel_rfl) (bK (by kernel_rfl)) k0 bel lt0) (trodAll_cons_mk (Below.trod ME (by kernel_rfl) (bK (by kernel_rfl)) k1 bel lt1) (trodAll_cons_mk (Below.trod ME (by kernel_rfl) (bK (by kernel_rfl)) k2 bel lt2) trodAll_mk0))),rfl,bel.frame _,fun h=>by cases h⟩
theorem j0:(mapsRowed Tryz.prog)=true:=by kernel_rfl
theorem j1:(Rows.worldBackRow.inPlace==Tryz.prog.inPlace 15)=true:=by kernel_rfl
theorem j2:(Rows.worldBackRow.unfollowed==Tryz.prog.unfollowed 15)=true:=by kernel_rfl
theorem j3:(Rows.worldBackRow.recurses==Tryz.prog.recurses 15)=true:=by kernel_rfl
theorem j4:(Rows.worldBackRow.named==Tryz.prog.varsNamed 15)=true:=by kernel_rfl
theorem j5:(Rows.worldBackRow.plainKeys==Tryz.prog.plainKeys)=true:=by kernel_rfl
theorem j6:(Tryz.prog.stopsHeard)=true:=by kernel_rfl
theorem j7:(Tryz.prog.mayEnter)=true:=by kernel_rfl
theorem j8:(Rows.worldBackRow.lifted==Tryz.prog.liftsFinal)=true:=by kernel_rfl
theorem j9:(Tryz.prog.make==some Rows.worldBackRow.make)=true:=by kernel_rfl
theorem j10:(Rows.worldBackRow.loops==(Tryz.f15.params.toList++Rows.worldBackSpec.plain.varTypes Tryz.prog).any (Tryz.prog.loopsFrom ·))=true:=by kernel_rfl
theorem xB:joinedFacts Tryz.prog 15 Tryz.f15 Rows.worldBackSpec Rows.worldBackRow=true:=by
  unfold joinedFacts;simp only [bS]
  repeat' apply And.intro
  all_goals first|with_reducible exact ME|with_reducible exact j0|with_reducible exact j1|with_reducible exact j2|with_reducible exact j3|with_reducible exact j4|with_reducible exact j5|with_reducible exact j6|with_reducible exact j7|with_reducible exact j8|with_reducible exact j9|with_reducible exact j10|kernel_rfl
theorem over:Rows.worldBackRow.holds Tryz.pinned (OpenSpec.ofChange Rows.worldBackSpec):=
  OpenClaim.holds_of_wide 15 Tryz.f15 rfl rfl rfl rfl rfl rfl rfl ⟨rfl,rfl,rfl,rfl,rfl⟩ rfl rfl rfl rfl rfl (by kernel_rfl) Tryz.func15 xB
    (bK (by kernel_rfl)) (by unfold Func.isWrapper;first|(rw [bO (by decide+kernel)];kernel_rfl)|(rw [bP (by decide+kernel)];exact ⟨rfl,rfl⟩))
    (fun os started H enc _=>lifted os started H enc)
end Go.Proofs.YtgjdiioennhoeaaGreat.worldBack
namespace Go.Proofs.YtgjdiioennhoeaaGreat
theorem worldBack_holds:Rows.WorldBackSaid:=worldBack.over
end Go.Proofs.YtgjdiioennhoeaaGreat
