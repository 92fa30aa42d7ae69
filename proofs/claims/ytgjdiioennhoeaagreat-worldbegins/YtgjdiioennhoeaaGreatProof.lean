/-
  Proved: for every input, WorldBegins returns true, and its arguments read afterwards as they read before.
  Conditions: none beyond those of the given row.
-/
import Derived.Test.YtgjdiioennhoeaaGreatPlainB
import Derived.Test.YtgjdiioennhoeaaGreatRows
import Derived.WalkKit
namespace Go.Abs.World
open Go Go.Abs Go.Proofs
theorem sB:Rd Tryz.prog 3 A5 Tp:=gT Tryz.underlying3
theorem rT:Rd Tryz.prog 43 YH (fun xs:(List Int)=> ∀a∈xs,Tp a):=UX (sz:=1) Tryz.underlying43 sB (fun _=>rfl) (by decide) (by kernel_rfl)
theorem rH:Rd Tryz.prog 2 A5 Tp:=gT Tryz.underlying2
theorem sC:Rd Tryz.prog 4 qO (fun _:Bool=>True):=mG Tryz.underlying4
theorem rU:Rd Tryz.prog 45 C9 (fun x:Agent=>(fun xs:(List Int)=> ∀a∈xs,Tp a) x.Route∧Tp x.S∧Tp x.V∧Tp x.Len∧Tp x.Begin∧(fun _:Bool=>True) x.Obey∧(fun _:Bool=>True) x.Gone):=
  gR (cP Tryz.underlying45 (wf:=_) (Vt (n:=1) rT rfl (fun _=>rfl) (Vt (n:=1) rH rfl (fun _=>rfl) (Vt (n:=1) rH rfl (fun _=>rfl) (Vt (n:=1) rH rfl (fun _=>rfl) (Vt (n:=1) rH rfl (fun _=>rfl) (Vt (n:=1) sC rfl (fun _=>rfl) (Vt (n:=1) sC rfl (fun _=>rfl) mH))))))) (by intro y;kernel_rfl)) C9 (fun x:Agent=>(fun xs:(List Int)=> ∀a∈xs,Tp a) x.Route∧Tp x.S∧Tp x.V∧Tp x.Len∧Tp x.Begin∧(fun _:Bool=>True) x.Obey∧(fun _:Bool=>True) x.Gone) (fun y=>⟨y.1,y.2.1,y.2.2.1,y.2.2.2.1,y.2.2.2.2.1,y.2.2.2.2.2.1,y.2.2.2.2.2.2.1⟩) (fun _=>rfl) (fun y h=>⟨h.1,h.2.1,h.2.2.1,h.2.2.2.1,h.2.2.2.2.1,h.2.2.2.2.2.1,h.2.2.2.2.2.2.1⟩)
theorem rV:Rd Tryz.prog 22 iG (fun xs:(List Agent)=> ∀a∈xs,(fun x:Agent=>(fun xs:(List Int)=> ∀a∈xs,Tp a) x.Route∧Tp x.S∧Tp x.V∧Tp x.Len∧Tp x.Begin∧(fun _:Bool=>True) x.Obey∧(fun _:Bool=>True) x.Gone) a):=UX (sz:=7) Tryz.underlying22 rU (fun _=>rfl) (by decide) (by kernel_rfl)
end Go.Abs.World
namespace Go.Proofs.YtgjdiioennhoeaaGreat.worldBegins
open Go.ChangeShapes Go.WideShapes Go.ChangeAt Go.RowKit Go.Abs Go.Abs.World
set_option linter.unusedVariables false
theorem own:ownKnob Tryz.prog.godebug=none:=by kernel_rfl
theorem TO:laidOutB Tryz.prog=true:=by kernel_rfl
set_option maxRecDepth 100000 in
theorem lifted (os:Os)(started:os.Started)(H:Type)(enc:TypeId×Value→H):
    ReturnsInHanded {} Tryz.checked os 4 .any (Rows.worldBeginsSpec.pre6 enc Tryz.prog Tryz.f4 Rows.worldBeginsRow.domain false) (Rows.worldBeginsSpec.post enc Tryz.prog Tryz.f4 false true false false):=by
  refine returnsInHanded_of_change (C:=Tryz.checked) own started (by kernel_rfl) Tryz.func4
    (ChangeSpec.witness6 (enc:=enc) (C:=Tryz.checked) false ⟨#[],#[.int .i64 0, .slice none 0 0],[]⟩ 8 (by kernel_rfl) (by kernel_rfl) (by kernel_rfl) (by kernel_rfl)) ?_
  intro W base args ds gs before hval0 hW hcnd _
  have hval: ∀(j:Nat) t v,Tryz.f4.params[j]? =some t→args[j]? =some v→Value.okWide Tryz.prog W .any base t v:=hval0
  have hW':=hW
  obtain ⟨p,q,hA0,hV,rfl,hfz,hnd⟩:=hW
  have hA:DataW.TrodAll enc Tryz.prog W 0 (fun _=>true) true Tryz.f4.params.toList args.toList ds p:=hA0
  rw [Tryz.params4]at hA hval
  obtain ⟨v0,vs0,d0,ds0,p0,q0,hargs,rfl,rfl,h0,r0⟩:=trodAll_cons hA
  obtain ⟨v1,vs1,d1,ds1,p1,q1,rfl,rfl,rfl,h1,r1⟩:=trodAll_cons r0
  obtain ⟨rfl,rfl,rfl⟩:=trodAll_nil r1
  obtain rfl:args= #[v0,v1]:=by cases args;simp_all
  obtain ⟨rfl,rfl⟩:=trodVars_none hV
  have k0:=h0
  have lt0: ∀x∈p0,x.block<W.heap.size:=by obtain ⟨m,hm⟩:=k0;exact DataW.trod_lt m _ _ _ hm
  obtain ⟨a0,w0,e0⟩:=ZY sB (by obtain ⟨_,rfl⟩:=okWide_int Tryz.underlying3 (hval 0 3 v0 rfl rfl);rfl) h0
  have k1:=h1
  have lt1: ∀x∈p1,x.block<W.heap.size:=by obtain ⟨m,hm⟩:=k1;exact DataW.trod_lt m _ _ _ hm
  obtain ⟨a1,w1,e1⟩:=ZY rV (by obtain ⟨_,_,_,rfl⟩:=okWide_slice Tryz.underlying22 (hval 1 22 v1 rfl rfl);rfl) h1
  clear hA0 hval0
  refine (gS (vs:= [v0,v1]) (DL a0 a1 _ (Zt a0 a1 w0 w1)) rfl ?_).mono fun e W' ⟨he,bel⟩=> ?_
  ·intro i d hi
   match i,hi with
   |0,hi=>cases hi;exact e0
   |1,hi=>cases hi;exact e1
   |i+2,hi=>simp at hi
  ·subst he
   exact ⟨_,rfl,_,_,_,[],_,[],hW',trodAll_mk1 (shut_bool Tryz.underlying4 _),(trodAll_cons_mk (Below.trod TO (by kernel_rfl) (of_decide_eq_true (by kernel_rfl)) k0 bel lt0) (trodAll_cons_mk (Below.trod TO (by kernel_rfl) (of_decide_eq_true (by kernel_rfl)) k1 bel lt1) trodAll_mk0)),rfl,bel.frame _,fun h=>by cases h⟩
theorem j0:(mapsRowed Tryz.prog)=true:=by kernel_rfl
theorem j1:(Rows.worldBeginsRow.inPlace==Tryz.prog.inPlace 4)=true:=by kernel_rfl
theorem j2:(Rows.worldBeginsRow.unfollowed==Tryz.prog.unfollowed 4)=true:=by kernel_rfl
theorem j3:(Rows.worldBeginsRow.recurses==Tryz.prog.recurses 4)=true:=by kernel_rfl
theorem j4:(Rows.worldBeginsRow.named==Tryz.prog.varsNamed 4)=true:=by kernel_rfl
theorem j5:(Rows.worldBeginsRow.plainKeys==Tryz.prog.plainKeys)=true:=by kernel_rfl
theorem j6:(Tryz.prog.stopsHeard)=true:=by kernel_rfl
theorem j7:(Tryz.prog.mayEnter)=true:=by kernel_rfl
theorem j8:(Rows.worldBeginsRow.lifted==Tryz.prog.liftsFinal)=true:=by kernel_rfl
theorem j9:(Tryz.prog.make==some Rows.worldBeginsRow.make)=true:=by kernel_rfl
theorem sR:(Rows.worldBeginsRow.loops==(Tryz.f4.params.toList++Rows.worldBeginsSpec.plain.varTypes Tryz.prog).any (Tryz.prog.loopsFrom ·))=true:=by kernel_rfl
theorem pS:joinedFacts Tryz.prog 4 Tryz.f4 Rows.worldBeginsSpec Rows.worldBeginsRow=true:=by
  unfold joinedFacts
  simp only [bK]
  repeat' apply And.intro
  all_goals first|with_reducible exact TO|with_reducible exact j0|with_reducible exact j1|with_reducible exact j2|with_reducible exact j3|with_reducible exact j4|with_reducible exact j5|with_reducible exact j6|with_reducible exact j7|with_reducible exact j8|with_reducible exact j9|with_reducible exact sR|kernel_rfl
theorem over:Rows.worldBeginsRow.holds Tryz.pinned (OpenSpec.ofChange Rows.worldBeginsSpec):=
  OpenClaim.holds_of_wide 4 Tryz.f4 rfl rfl rfl rfl rfl rfl rfl ⟨rfl,rfl,rfl,rfl,rfl⟩ rfl rfl rfl rfl rfl (by kernel_rfl) Tryz.func4 pS
    (of_decide_eq_true (by kernel_rfl)) (by unfold Func.isWrapper;first|(rw [bG (by decide+kernel)];kernel_rfl)|(rw [bH (by decide+kernel)];exact ⟨rfl,rfl⟩))
    (fun os started H enc _=>lifted os started H enc)
end Go.Proofs.YtgjdiioennhoeaaGreat.worldBegins
namespace Go.Proofs.YtgjdiioennhoeaaGreat
theorem worldBegins_holds:Rows.WorldBeginsSaid:=worldBegins.over
end Go.Proofs.YtgjdiioennhoeaaGreat
