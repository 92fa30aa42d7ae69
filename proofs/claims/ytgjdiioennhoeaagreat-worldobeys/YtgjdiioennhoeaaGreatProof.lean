/-
  Proved: for every input, WorldObeys returns true, and its arguments read afterwards as they read before.
  Conditions: none beyond those of the given row.
-/
import Derived.Test.YtgjdiioennhoeaaGreatPlainB
import Derived.Test.YtgjdiioennhoeaaGreatRows
import Derived.WalkKit
namespace Go.Abs.World
open Go Go.Abs Go.Proofs
theorem qU:Rd Tryz.prog 3 A4 Vs:=fH Tryz.underlying3
theorem qV:Rd Tryz.prog 2 A4 Vs:=fH Tryz.underlying2
theorem sD:Rd Tryz.prog 4 pZ (fun _:Bool=>True):=jY Tryz.underlying4
theorem rH:Rd Tryz.prog 73 Pb (fun x:KitActor=>Vs x.R∧Vs x.S∧Vs x.V∧Vs x.Len∧Vs x.Begin∧(fun _:Bool=>True) x.Disobeys):=
  fF (ZO Tryz.underlying73 (wf:=_) (Us (n:=1) qU rfl (fun _=>rfl) (Us (n:=1) qV rfl (fun _=>rfl) (Us (n:=1) qV rfl (fun _=>rfl) (Us (n:=1) qV rfl (fun _=>rfl) (Us (n:=1) qU rfl (fun _=>rfl) (Us (n:=1) sD rfl (fun _=>rfl) jZ)))))) (by intro y;kernel_rfl)) Pb (fun x:KitActor=>Vs x.R∧Vs x.S∧Vs x.V∧Vs x.Len∧Vs x.Begin∧(fun _:Bool=>True) x.Disobeys) (fun y=>⟨y.1,y.2.1,y.2.2.1,y.2.2.2.1,y.2.2.2.2.1,y.2.2.2.2.2.1⟩) (fun _=>rfl) (fun y h=>⟨h.1,h.2.1,h.2.2.1,h.2.2.2.1,h.2.2.2.2.1,h.2.2.2.2.2.1⟩)
theorem rI:Rd Tryz.prog 54 SN (fun xs:(List KitActor)=> ∀a∈xs,(fun x:KitActor=>Vs x.R∧Vs x.S∧Vs x.V∧Vs x.Len∧Vs x.Begin∧(fun _:Bool=>True) x.Disobeys) a):=SA (sz:=6) Tryz.underlying54 rH (fun _=>rfl) (by decide) (by kernel_rfl)
theorem rJ:Rd Tryz.prog 48 VW (fun xs:(List Int)=> ∀a∈xs,Vs a):=SA (sz:=1) Tryz.underlying48 qV (fun _=>rfl) (by decide) (by kernel_rfl)
end Go.Abs.World
namespace Go.Proofs.YtgjdiioennhoeaaGreat.worldObeys
open Go.ChangeShapes Go.WideShapes Go.ChangeAt Go.RowKit Go.Abs Go.Abs.World
set_option linter.unusedVariables false
theorem own:ownKnob Tryz.prog.godebug=none:=by kernel_rfl
theorem FI:laidOutB Tryz.prog=true:=by kernel_rfl
set_option maxRecDepth 100000 in
theorem lifted (os:Os)(started:os.Started)(H:Type)(enc:TypeId×Value→H):
    ReturnsInHanded {} Tryz.checked os 8 .any (Rows.worldObeysSpec.pre6 enc Tryz.prog Tryz.f8 Rows.worldObeysRow.domain false) (Rows.worldObeysSpec.post enc Tryz.prog Tryz.f8 false true false false):=by
  refine returnsInHanded_of_change (C:=Tryz.checked) own started (by kernel_rfl) Tryz.func8
    (ChangeSpec.witness6 (enc:=enc) (C:=Tryz.checked) false ⟨#[],#[.int .i64 0, .slice none 0 0, .int .i64 0, .slice none 0 0],[]⟩ 8 (by kernel_rfl) (by kernel_rfl) (by kernel_rfl) (by kernel_rfl)) ?_
  intro W base args ds gs before hval0 hW hcnd _
  have hval: ∀(j:Nat) t v,Tryz.f8.params[j]? =some t→args[j]? =some v→Value.okWide Tryz.prog W .any base t v:=hval0
  have hW':=hW
  obtain ⟨p,q,hA0,hV,rfl,hfz,hnd⟩:=hW
  have hA:DataW.TrodAll enc Tryz.prog W 0 (fun _=>true) true Tryz.f8.params.toList args.toList ds p:=hA0
  rw [Tryz.params8]at hA hval
  obtain ⟨v0,vs0,d0,ds0,p0,q0,hargs,rfl,rfl,h0,r0⟩:=trodAll_cons hA
  obtain ⟨v1,vs1,d1,ds1,p1,q1,rfl,rfl,rfl,h1,r1⟩:=trodAll_cons r0
  obtain ⟨v2,vs2,d2,ds2,p2,q2,rfl,rfl,rfl,h2,r2⟩:=trodAll_cons r1
  obtain ⟨v3,vs3,d3,ds3,p3,q3,rfl,rfl,rfl,h3,r3⟩:=trodAll_cons r2
  obtain ⟨rfl,rfl,rfl⟩:=trodAll_nil r3
  obtain rfl:args= #[v0,v1,v2,v3]:=by cases args;simp_all
  obtain ⟨rfl,rfl⟩:=trodVars_none hV
  have k0:=h0
  have lt0: ∀x∈p0,x.block<W.heap.size:=by obtain ⟨m,hm⟩:=k0;exact DataW.trod_lt m _ _ _ hm
  obtain ⟨a0,w0,e0⟩:=IN qU (by obtain ⟨_,rfl⟩:=okWide_int Tryz.underlying3 (hval 0 3 v0 rfl rfl);rfl) h0
  have k1:=h1
  have lt1: ∀x∈p1,x.block<W.heap.size:=by obtain ⟨m,hm⟩:=k1;exact DataW.trod_lt m _ _ _ hm
  obtain ⟨a1,w1,e1⟩:=IN rI (by obtain ⟨_,_,_,rfl⟩:=okWide_slice Tryz.underlying54 (hval 1 54 v1 rfl rfl);rfl) h1
  have k2:=h2
  have lt2: ∀x∈p2,x.block<W.heap.size:=by obtain ⟨m,hm⟩:=k2;exact DataW.trod_lt m _ _ _ hm
  obtain ⟨a2,w2,e2⟩:=IN qU (by obtain ⟨_,rfl⟩:=okWide_int Tryz.underlying3 (hval 2 3 v2 rfl rfl);rfl) h2
  have k3:=h3
  have lt3: ∀x∈p3,x.block<W.heap.size:=by obtain ⟨m,hm⟩:=k3;exact DataW.trod_lt m _ _ _ hm
  obtain ⟨a3,w3,e3⟩:=IN rJ (by obtain ⟨_,_,_,rfl⟩:=okWide_slice Tryz.underlying48 (hval 3 48 v3 rfl rfl);rfl) h3
  clear hA0 hval0
  refine (fG (vs:= [v0,v1,v2,v3]) (AN a0 a1 a2 a3 _ (Wt a0 a1 a2 a3)) rfl ?_).mono fun e W' ⟨he,bel⟩=> ?_
  ·intro i d hi
   match i,hi with
   |0,hi=>cases hi;exact e0
   |1,hi=>cases hi;exact e1
   |2,hi=>cases hi;exact e2
   |3,hi=>cases hi;exact e3
   |i+4,hi=>simp at hi
  ·subst he
   exact ⟨_,rfl,_,_,_,[],_,[],hW',trodAll_mk1 (shut_bool Tryz.underlying4 _),(trodAll_cons_mk (Below.trod FI (by kernel_rfl) (bN (by kernel_rfl)) k0 bel lt0) (trodAll_cons_mk (Below.trod FI (by kernel_rfl) (bN (by kernel_rfl)) k1 bel lt1) (trodAll_cons_mk (Below.trod FI (by kernel_rfl) (bN (by kernel_rfl)) k2 bel lt2) (trodAll_cons_mk (Below.trod FI (by kernel_rfl) (bN (by kernel_rfl)) k3 bel lt3) trodAll_mk0)))),rfl,bel.frame _,fun h=>by cases h⟩
theorem j0:(mapsRowed Tryz.prog)=true:=by kernel_rfl
theorem j1:(Rows.worldObeysRow.inPlace==Tryz.prog.inPlace 8)=true:=by kernel_rfl
theorem j2:(Rows.worldObeysRow.unfollowed==Tryz.prog.unfollowed 8)=true:=by kernel_rfl
theorem j3:(Rows.worldObeysRow.recurses==Tryz.prog.recurses 8)=true:=by kernel_rfl
theorem j4:(Rows.worldObeysRow.named==Tryz.prog.varsNamed 8)=true:=by kernel_rfl
theorem j5:(Rows.worldObeysRow.plainKeys==Tryz.prog.plainKeys)=true:=by kernel_rfl
theorem j6:(Tryz.prog.stopsHeard)=true:=by kernel_rfl
theorem j7:(Tryz.prog.mayEnter)=true:=by kernel_rfl
theorem j8:(Rows.worldObeysRow.lifted==Tryz.prog.liftsFinal)=true:=by kernel_rfl
theorem j9:(Tryz.prog.make==some Rows.worldObeysRow.make)=true:=by kernel_rfl
theorem sE:(Rows.worldObeysRow.loops==(Tryz.f8.params.toList++Rows.worldObeysSpec.plain.varTypes Tryz.prog).any (Tryz.prog.loopsFrom ·))=true:=by kernel_rfl
theorem pG:joinedFacts Tryz.prog 8 Tryz.f8 Rows.worldObeysSpec Rows.worldObeysRow=true:=by
  unfold joinedFacts
  simp only [bU]
  repeat' apply And.intro
  all_goals first|with_reducible exact FI|with_reducible exact j0|with_reducible exact j1|with_reducible exact j2|with_reducible exact j3|with_reducible exact j4|with_reducible exact j5|with_reducible exact j6|with_reducible exact j7|with_reducible exact j8|with_reducible exact j9|with_reducible exact sE|kernel_rfl
theorem over:Rows.worldObeysRow.holds Tryz.pinned (OpenSpec.ofChange Rows.worldObeysSpec):=
  OpenClaim.holds_of_wide 8 Tryz.f8 rfl rfl rfl rfl rfl rfl rfl ⟨rfl,rfl,rfl,rfl,rfl⟩ rfl rfl rfl rfl rfl (by kernel_rfl) Tryz.func8 pG
    (bN (by kernel_rfl)) (by unfold Func.isWrapper;first|(rw [bQ (by decide+kernel)];kernel_rfl)|(rw [bR (by decide+kernel)];exact ⟨rfl,rfl⟩))
    (fun os started H enc _=>lifted os started H enc)
end Go.Proofs.YtgjdiioennhoeaaGreat.worldObeys
namespace Go.Proofs.YtgjdiioennhoeaaGreat
theorem worldObeys_holds:Rows.WorldObeysSaid:=worldObeys.over
end Go.Proofs.YtgjdiioennhoeaaGreat
