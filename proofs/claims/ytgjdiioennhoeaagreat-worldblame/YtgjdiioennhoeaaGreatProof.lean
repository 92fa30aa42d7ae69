/-
  Proved: for every input, WorldBlame returns true, and its arguments read afterwards as they read before.
  Conditions: none beyond those of the given row.
-/
import Derived.Test.YtgjdiioennhoeaaGreatPlainB
import Derived.Test.YtgjdiioennhoeaaGreatRows
import Derived.WalkKit
namespace Go.Abs.World
open Go Go.Abs Go.Proofs
theorem qT:Rd Tryz.prog 3 A4 Um:=eS Tryz.underlying3
theorem qH:Rd Tryz.prog 2 A4 Um:=eS Tryz.underlying2
theorem rS:Rd Tryz.prog 4 pM (fun _:Bool=>True):=jJ Tryz.underlying4
theorem qU:Rd Tryz.prog 73 On (fun x:KitActor=>Um x.R∧Um x.S∧Um x.V∧Um x.Len∧Um x.Begin∧(fun _:Bool=>True) x.Disobeys):=
  eP (ZG Tryz.underlying73 (wf:=_) (Ul (n:=1) qT rfl (fun _=>rfl) (Ul (n:=1) qH rfl (fun _=>rfl) (Ul (n:=1) qH rfl (fun _=>rfl) (Ul (n:=1) qH rfl (fun _=>rfl) (Ul (n:=1) qT rfl (fun _=>rfl) (Ul (n:=1) rS rfl (fun _=>rfl) jK)))))) (by intro y;kernel_rfl)) On (fun x:KitActor=>Um x.R∧Um x.S∧Um x.V∧Um x.Len∧Um x.Begin∧(fun _:Bool=>True) x.Disobeys) (fun y=>⟨y.1,y.2.1,y.2.2.1,y.2.2.2.1,y.2.2.2.2.1,y.2.2.2.2.2.1⟩) (fun _=>rfl) (fun y h=>⟨h.1,h.2.1,h.2.2.1,h.2.2.2.1,h.2.2.2.2.1,h.2.2.2.2.2.1⟩)
theorem qV:Rd Tryz.prog 54 SL (fun xs:(List KitActor)=> ∀a∈xs,(fun x:KitActor=>Um x.R∧Um x.S∧Um x.V∧Um x.Len∧Um x.Begin∧(fun _:Bool=>True) x.Disobeys) a):=JU (sz:=6) Tryz.underlying54 qU (fun _=>rfl) (by decide) (by kernel_rfl)
theorem qW:Rd Tryz.prog 48 Oo (fun xs:(List Int)=> ∀a∈xs,Um a):=JU (sz:=1) Tryz.underlying48 qH (fun _=>rfl) (by decide) (by kernel_rfl)
theorem qX:Rd Tryz.prog 55 PV (fun xs:(List (List Int))=> ∀a∈xs,(fun xs:(List Int)=> ∀a∈xs,Um a) a):=JU (sz:=1) Tryz.underlying55 qW (fun _=>rfl) (by decide) (by kernel_rfl)
end Go.Abs.World
namespace Go.Proofs.YtgjdiioennhoeaaGreat.worldBlame
open Go.ChangeShapes Go.WideShapes Go.ChangeAt Go.RowKit Go.Abs Go.Abs.World
set_option linter.unusedVariables false
theorem own:ownKnob Tryz.prog.godebug=none:=by kernel_rfl
theorem IO:laidOutB Tryz.prog=true:=by kernel_rfl
set_option maxRecDepth 100000 in
theorem lifted (os:Os)(started:os.Started)(H:Type)(enc:TypeId×Value→H):
    ReturnsInHanded {} Tryz.checked os 10 .any (Rows.worldBlameSpec.pre6 enc Tryz.prog Tryz.f10 Rows.worldBlameRow.domain false) (Rows.worldBlameSpec.post enc Tryz.prog Tryz.f10 false true false false):=by
  refine returnsInHanded_of_change (C:=Tryz.checked) own started (by kernel_rfl) Tryz.func10
    (ChangeSpec.witness6 (enc:=enc) (C:=Tryz.checked) false ⟨#[],#[.int .i64 0, .slice none 0 0, .slice none 0 0],[]⟩ 8 (by kernel_rfl) (by kernel_rfl) (by kernel_rfl) (by kernel_rfl)) ?_
  intro W base args ds gs before hval0 hW hcnd _
  have hval: ∀(j:Nat) t v,Tryz.f10.params[j]? =some t→args[j]? =some v→Value.okWide Tryz.prog W .any base t v:=hval0
  have hW':=hW
  obtain ⟨p,q,hA0,hV,rfl,hfz,hnd⟩:=hW
  have hA:DataW.TrodAll enc Tryz.prog W 0 (fun _=>true) true Tryz.f10.params.toList args.toList ds p:=hA0
  rw [Tryz.params10]at hA hval
  obtain ⟨v0,vs0,d0,ds0,p0,q0,hargs,rfl,rfl,h0,r0⟩:=trodAll_cons hA
  obtain ⟨v1,vs1,d1,ds1,p1,q1,rfl,rfl,rfl,h1,r1⟩:=trodAll_cons r0
  obtain ⟨v2,vs2,d2,ds2,p2,q2,rfl,rfl,rfl,h2,r2⟩:=trodAll_cons r1
  obtain ⟨rfl,rfl,rfl⟩:=trodAll_nil r2
  obtain rfl:args= #[v0,v1,v2]:=by cases args;simp_all
  obtain ⟨rfl,rfl⟩:=trodVars_none hV
  have k0:=h0
  have lt0: ∀x∈p0,x.block<W.heap.size:=by obtain ⟨m,hm⟩:=k0;exact DataW.trod_lt m _ _ _ hm
  obtain ⟨a0,w0,e0⟩:=PO qT (by obtain ⟨_,rfl⟩:=okWide_int Tryz.underlying3 (hval 0 3 v0 rfl rfl);rfl) h0
  have k1:=h1
  have lt1: ∀x∈p1,x.block<W.heap.size:=by obtain ⟨m,hm⟩:=k1;exact DataW.trod_lt m _ _ _ hm
  obtain ⟨a1,w1,e1⟩:=PO qV (by obtain ⟨_,_,_,rfl⟩:=okWide_slice Tryz.underlying54 (hval 1 54 v1 rfl rfl);rfl) h1
  have k2:=h2
  have lt2: ∀x∈p2,x.block<W.heap.size:=by obtain ⟨m,hm⟩:=k2;exact DataW.trod_lt m _ _ _ hm
  obtain ⟨a2,w2,e2⟩:=PO qX (by obtain ⟨_,_,_,rfl⟩:=okWide_slice Tryz.underlying55 (hval 2 55 v2 rfl rfl);rfl) h2
  clear hA0 hval0
  refine (eQ (vs:= [v0,v1,v2]) (AJ a0 a1 a2 _ (Wm a0 a1 a2)) rfl ?_).mono fun e W' ⟨he,bel⟩=> ?_
  ·intro i d hi
   match i,hi with
   |0,hi=>cases hi;exact e0
   |1,hi=>cases hi;exact e1
   |2,hi=>cases hi;exact e2
   |i+3,hi=>simp at hi
  ·subst he
   exact ⟨_,rfl,_,_,_,[],_,[],hW',trodAll_mk1 (shut_bool Tryz.underlying4 _),(trodAll_cons_mk (Below.trod IO (by kernel_rfl) (bN (by kernel_rfl)) k0 bel lt0) (trodAll_cons_mk (Below.trod IO (by kernel_rfl) (bN (by kernel_rfl)) k1 bel lt1) (trodAll_cons_mk (Below.trod IO (by kernel_rfl) (bN (by kernel_rfl)) k2 bel lt2) trodAll_mk0))),rfl,bel.frame _,fun h=>by cases h⟩
theorem j0:(mapsRowed Tryz.prog)=true:=by kernel_rfl
theorem j1:(Rows.worldBlameRow.inPlace==Tryz.prog.inPlace 10)=true:=by kernel_rfl
theorem j2:(Rows.worldBlameRow.unfollowed==Tryz.prog.unfollowed 10)=true:=by kernel_rfl
theorem j3:(Rows.worldBlameRow.recurses==Tryz.prog.recurses 10)=true:=by kernel_rfl
theorem j4:(Rows.worldBlameRow.named==Tryz.prog.varsNamed 10)=true:=by kernel_rfl
theorem j5:(Rows.worldBlameRow.plainKeys==Tryz.prog.plainKeys)=true:=by kernel_rfl
theorem j6:(Tryz.prog.stopsHeard)=true:=by kernel_rfl
theorem j7:(Tryz.prog.mayEnter)=true:=by kernel_rfl
theorem j8:(Rows.worldBlameRow.lifted==Tryz.prog.liftsFinal)=true:=by kernel_rfl
theorem j9:(Tryz.prog.make==some Rows.worldBlameRow.make)=true:=by kernel_rfl
theorem rT:(Rows.worldBlameRow.loops==(Tryz.f10.params.toList++Rows.worldBlameSpec.plain.varTypes Tryz.prog).any (Tryz.prog.loopsFrom ·))=true:=by kernel_rfl
theorem oQ:joinedFacts Tryz.prog 10 Tryz.f10 Rows.worldBlameSpec Rows.worldBlameRow=true:=by
  unfold joinedFacts
  simp only [bU]
  repeat' apply And.intro
  all_goals first|with_reducible exact IO|with_reducible exact j0|with_reducible exact j1|with_reducible exact j2|with_reducible exact j3|with_reducible exact j4|with_reducible exact j5|with_reducible exact j6|with_reducible exact j7|with_reducible exact j8|with_reducible exact j9|with_reducible exact rT|kernel_rfl
theorem over:Rows.worldBlameRow.holds Tryz.pinned (OpenSpec.ofChange Rows.worldBlameSpec):=
  OpenClaim.holds_of_wide 10 Tryz.f10 rfl rfl rfl rfl rfl rfl rfl ⟨rfl,rfl,rfl,rfl,rfl⟩ rfl rfl rfl rfl rfl (by kernel_rfl) Tryz.func10 oQ
    (bN (by kernel_rfl)) (by unfold Func.isWrapper;first|(rw [bQ (by decide+kernel)];kernel_rfl)|(rw [bR (by decide+kernel)];exact ⟨rfl,rfl⟩))
    (fun os started H enc _=>lifted os started H enc)
end Go.Proofs.YtgjdiioennhoeaaGreat.worldBlame
namespace Go.Proofs.YtgjdiioennhoeaaGreat
theorem worldBlame_holds:Rows.WorldBlameSaid:=worldBlame.over
end Go.Proofs.YtgjdiioennhoeaaGreat
