/-
  Proved: for every input, WorldScans returns true, and its arguments read afterwards as they read before.
  Conditions: none beyond those of the given row.
-/
import Derived.Test.YtgjdiioennhoeaaGreatPlainB
import Derived.Test.YtgjdiioennhoeaaGreatRows
import Derived.WalkKit
namespace Go.Abs.World
open Go Go.Abs Go.Proofs
theorem kP:Rd Tryz.prog 3 A5 P3:=aX Tryz.underlying3
theorem iF:Rd Tryz.prog 2 A5 P3:=aX Tryz.underlying2
theorem mF:Rd Tryz.prog 43 IJ (fun xs:(List Int)=> ∀a∈xs,P3 a):=CR (sz:=1) Tryz.underlying43 kP (fun _=>rfl) (by decide) (by kernel_rfl)
theorem mQ:Rd Tryz.prog 4 kI (fun _:Bool=>True):=fI Tryz.underlying4
theorem mG:Rd Tryz.prog 45 E4 (fun x:Agent=>(fun xs:(List Int)=> ∀a∈xs,P3 a) x.Route∧P3 x.S∧P3 x.V∧P3 x.Len∧P3 x.Begin∧(fun _:Bool=>True) x.Obey∧(fun _:Bool=>True) x.Gone):=
  NU (EF Tryz.underlying45 (wf:=_) (Ea (n:=1) mF rfl (fun _=>rfl) (Ea (n:=1) iF rfl (fun _=>rfl) (Ea (n:=1) iF rfl (fun _=>rfl) (Ea (n:=1) iF rfl (fun _=>rfl) (Ea (n:=1) iF rfl (fun _=>rfl) (Ea (n:=1) mQ rfl (fun _=>rfl) (Ea (n:=1) mQ rfl (fun _=>rfl) NV))))))) (by intro y;kernel_rfl)) E4 (fun x:Agent=>(fun xs:(List Int)=> ∀a∈xs,P3 a) x.Route∧P3 x.S∧P3 x.V∧P3 x.Len∧P3 x.Begin∧(fun _:Bool=>True) x.Obey∧(fun _:Bool=>True) x.Gone) (fun y=>⟨y.1,y.2.1,y.2.2.1,y.2.2.2.1,y.2.2.2.2.1,y.2.2.2.2.2.1,y.2.2.2.2.2.2.1⟩) (fun _=>rfl) (fun y h=>⟨h.1,h.2.1,h.2.2.1,h.2.2.2.1,h.2.2.2.2.1,h.2.2.2.2.2.1,h.2.2.2.2.2.2.1⟩)
theorem mH:Rd Tryz.prog 22 cJ (fun xs:(List Agent)=> ∀a∈xs,(fun x:Agent=>(fun xs:(List Int)=> ∀a∈xs,P3 a) x.Route∧P3 x.S∧P3 x.V∧P3 x.Len∧P3 x.Begin∧(fun _:Bool=>True) x.Obey∧(fun _:Bool=>True) x.Gone) a):=CR (sz:=7) Tryz.underlying22 mG (fun _=>rfl) (by decide) (by kernel_rfl)
theorem kQ:Rd Tryz.prog 127 J5 (fun x:Stay=>P3 x.Agent_∧P3 x.Zone_∧P3 x.Since∧P3 x.Rank):=
  NU (EF Tryz.underlying127 (wf:=_) (Ea (n:=1) kP rfl (fun _=>rfl) (Ea (n:=1) kP rfl (fun _=>rfl) (Ea (n:=1) iF rfl (fun _=>rfl) (Ea (n:=1) kP rfl (fun _=>rfl) NV)))) (by intro y;kernel_rfl)) J5 (fun x:Stay=>P3 x.Agent_∧P3 x.Zone_∧P3 x.Since∧P3 x.Rank) (fun y=>⟨y.1,y.2.1,y.2.2.1,y.2.2.2.1⟩) (fun _=>rfl) (fun y h=>⟨h.1,h.2.1,h.2.2.1,h.2.2.2.1⟩)
theorem mI:Rd Tryz.prog 23 fU (fun xs:(List Stay)=> ∀a∈xs,(fun x:Stay=>P3 x.Agent_∧P3 x.Zone_∧P3 x.Since∧P3 x.Rank) a):=CR (sz:=4) Tryz.underlying23 kQ (fun _=>rfl) (by decide) (by kernel_rfl)
theorem mJ:Rd Tryz.prog 25 U5 (fun x:State=>P3 x.Tick∧(fun xs:(List Agent)=> ∀a∈xs,(fun x:Agent=>(fun xs:(List Int)=> ∀a∈xs,P3 a) x.Route∧P3 x.S∧P3 x.V∧P3 x.Len∧P3 x.Begin∧(fun _:Bool=>True) x.Obey∧(fun _:Bool=>True) x.Gone) a) x.Agents∧(fun xs:(List Stay)=> ∀a∈xs,(fun x:Stay=>P3 x.Agent_∧P3 x.Zone_∧P3 x.Since∧P3 x.Rank) a) x.In):=
  NU (EF Tryz.underlying25 (wf:=_) (Ea (n:=1) iF rfl (fun _=>rfl) (Ea (n:=1) mH rfl (fun _=>rfl) (Ea (n:=1) mI rfl (fun _=>rfl) NV))) (by intro y;kernel_rfl)) U5 (fun x:State=>P3 x.Tick∧(fun xs:(List Agent)=> ∀a∈xs,(fun x:Agent=>(fun xs:(List Int)=> ∀a∈xs,P3 a) x.Route∧P3 x.S∧P3 x.V∧P3 x.Len∧P3 x.Begin∧(fun _:Bool=>True) x.Obey∧(fun _:Bool=>True) x.Gone) a) x.Agents∧(fun xs:(List Stay)=> ∀a∈xs,(fun x:Stay=>P3 x.Agent_∧P3 x.Zone_∧P3 x.Since∧P3 x.Rank) a) x.In) (fun y=>⟨y.1,y.2.1,y.2.2.1⟩) (fun _=>rfl) (fun y h=>⟨h.1,h.2.1,h.2.2.1⟩)
theorem mK:Rd Tryz.prog 48 IJ (fun xs:(List Int)=> ∀a∈xs,P3 a):=CR (sz:=1) Tryz.underlying48 iF (fun _=>rfl) (by decide) (by kernel_rfl)
end Go.Abs.World
namespace Go.Proofs.YtgjdiioennhoeaaGreat.worldScans
open Go.ChangeShapes Go.WideShapes Go.ChangeAt Go.RowKit Go.Abs Go.Abs.World
set_option linter.unusedVariables false
theorem own:ownKnob Tryz.prog.godebug=none:=by kernel_rfl
theorem DW:laidOutB Tryz.prog=true:=by kernel_rfl
set_option maxRecDepth 100000 in
theorem lifted (os:Os)(started:os.Started)(H:Type)(enc:TypeId×Value→H):
    ReturnsInHanded {} Tryz.checked os 17 .any (Rows.worldScansSpec.pre6 enc Tryz.prog Tryz.f17 Rows.worldScansRow.domain false) (Rows.worldScansSpec.post enc Tryz.prog Tryz.f17 false true false false):=by
  refine returnsInHanded_of_change (C:=Tryz.checked) own started (by kernel_rfl) Tryz.func17
    (ChangeSpec.witness6 (enc:=enc) (C:=Tryz.checked) false ⟨#[],#[.int .i64 0, .agg #[.int .i64 0, .slice none 0 0, .slice none 0 0], .int .i64 0, .slice none 0 0],[]⟩ 8 (by kernel_rfl) (by kernel_rfl) (by kernel_rfl) (by kernel_rfl)) ?_
  intro W base args ds gs before hval0 hW hcnd _
  have hval: ∀(j:Nat) t v,Tryz.f17.params[j]? =some t→args[j]? =some v→Value.okWide Tryz.prog W .any base t v:=hval0
  have hW':=hW
  obtain ⟨p,q,hA0,hV,rfl,hfz,hnd⟩:=hW
  have hA:DataW.TrodAll enc Tryz.prog W 0 (fun _=>true) true Tryz.f17.params.toList args.toList ds p:=hA0
  rw [Tryz.params17]at hA hval
  obtain ⟨v0,vs0,d0,ds0,p0,q0,hargs,rfl,rfl,h0,r0⟩:=trodAll_cons hA
  obtain ⟨v1,vs1,d1,ds1,p1,q1,rfl,rfl,rfl,h1,r1⟩:=trodAll_cons r0
  obtain ⟨v2,vs2,d2,ds2,p2,q2,rfl,rfl,rfl,h2,r2⟩:=trodAll_cons r1
  obtain ⟨v3,vs3,d3,ds3,p3,q3,rfl,rfl,rfl,h3,r3⟩:=trodAll_cons r2
  obtain ⟨rfl,rfl,rfl⟩:=trodAll_nil r3
  obtain rfl:args= #[v0,v1,v2,v3]:=by cases args;simp_all
  obtain ⟨rfl,rfl⟩:=trodVars_none hV
  have k0:=h0
  have lt0: ∀x∈p0,x.block<W.heap.size:=by obtain ⟨m,hm⟩:=k0;exact DataW.trod_lt m _ _ _ hm
  obtain ⟨a0,w0,e0⟩:=NW kP (by obtain ⟨_,rfl⟩:=okWide_int Tryz.underlying3 (hval 0 3 v0 rfl rfl);rfl) h0
  have k1:=h1
  have lt1: ∀x∈p1,x.block<W.heap.size:=by obtain ⟨m,hm⟩:=k1;exact DataW.trod_lt m _ _ _ hm
  obtain ⟨a1,w1,e1⟩:=fJ mJ Tryz.underlying25 (hval 1 25 v1 rfl rfl) h1
  have k2:=h2
  have lt2: ∀x∈p2,x.block<W.heap.size:=by obtain ⟨m,hm⟩:=k2;exact DataW.trod_lt m _ _ _ hm
  obtain ⟨a2,w2,e2⟩:=NW iF (by obtain ⟨_,rfl⟩:=okWide_int Tryz.underlying2 (hval 2 2 v2 rfl rfl);rfl) h2
  have k3:=h3
  have lt3: ∀x∈p3,x.block<W.heap.size:=by obtain ⟨m,hm⟩:=k3;exact DataW.trod_lt m _ _ _ hm
  obtain ⟨a3,w3,e3⟩:=NW mK (by obtain ⟨_,_,_,rfl⟩:=okWide_slice Tryz.underlying48 (hval 3 48 v3 rfl rfl);rfl) h3
  clear hA0 hval0
  refine (aW (vs:= [v0,v1,v2,v3]) (Zr a0 a1 a2 a3 _ (Vs a0 a1 a2 a3 w0 w1 w2 w3)) rfl ?_).mono fun e W' ⟨he,bel⟩=> ?_
  ·intro i d hi
   match i,hi with
   |0,hi=>cases hi;exact e0
   |1,hi=>cases hi;exact e1
   |2,hi=>cases hi;exact e2
   |3,hi=>cases hi;exact e3
   |i+4,hi=>simp at hi
  ·subst he
   exact ⟨_,rfl,_,_,_,[],_,[],hW',trodAll_mk1 (shut_bool Tryz.underlying4 _),(trodAll_cons_mk (Below.trod DW (by kernel_rfl) (bC (by kernel_rfl)) k0 bel lt0) (trodAll_cons_mk (Below.trod DW (by kernel_rfl) (bC (by kernel_rfl)) k1 bel lt1) (trodAll_cons_mk (Below.trod DW (by kernel_rfl) (bC (by kernel_rfl)) k2 bel lt2) (trodAll_cons_mk (Below.trod DW (by kernel_rfl) (bC (by kernel_rfl)) k3 bel lt3) trodAll_mk0)))),rfl,bel.frame _,fun h=>by cases h⟩
theorem j0:(mapsRowed Tryz.prog)=true:=by kernel_rfl
theorem j1:(Rows.worldScansRow.inPlace==Tryz.prog.inPlace 17)=true:=by kernel_rfl
theorem j2:(Rows.worldScansRow.unfollowed==Tryz.prog.unfollowed 17)=true:=by kernel_rfl
theorem j3:(Rows.worldScansRow.recurses==Tryz.prog.recurses 17)=true:=by kernel_rfl
theorem j4:(Rows.worldScansRow.named==Tryz.prog.varsNamed 17)=true:=by kernel_rfl
theorem j5:(Rows.worldScansRow.plainKeys==Tryz.prog.plainKeys)=true:=by kernel_rfl
theorem j6:(Tryz.prog.stopsHeard)=true:=by kernel_rfl
theorem j7:(Tryz.prog.mayEnter)=true:=by kernel_rfl
theorem j8:(Rows.worldScansRow.lifted==Tryz.prog.liftsFinal)=true:=by kernel_rfl
theorem j9:(Tryz.prog.make==some Rows.worldScansRow.make)=true:=by kernel_rfl
theorem nH:(Rows.worldScansRow.loops==(Tryz.f17.params.toList++Rows.worldScansSpec.plain.varTypes Tryz.prog).any (Tryz.prog.loopsFrom ·))=true:=by kernel_rfl
theorem jQ:joinedFacts Tryz.prog 17 Tryz.f17 Rows.worldScansSpec Rows.worldScansRow=true:=by
  unfold joinedFacts
  simp only [bJ]
  repeat' apply And.intro
  all_goals first|with_reducible exact DW|with_reducible exact j0|with_reducible exact j1|with_reducible exact j2|with_reducible exact j3|with_reducible exact j4|with_reducible exact j5|with_reducible exact j6|with_reducible exact j7|with_reducible exact j8|with_reducible exact j9|with_reducible exact nH|kernel_rfl
theorem over:Rows.worldScansRow.holds Tryz.pinned (OpenSpec.ofChange Rows.worldScansSpec):=
  OpenClaim.holds_of_wide 17 Tryz.f17 rfl rfl rfl rfl rfl rfl rfl ⟨rfl,rfl,rfl,rfl,rfl⟩ rfl rfl rfl rfl rfl (by kernel_rfl) Tryz.func17 jQ
    (bC (by kernel_rfl)) (by unfold Func.isWrapper;first|(rw [bF (by decide+kernel)];kernel_rfl)|(rw [bG (by decide+kernel)];exact ⟨rfl,rfl⟩))
    (fun os started H enc _=>lifted os started H enc)
end Go.Proofs.YtgjdiioennhoeaaGreat.worldScans
namespace Go.Proofs.YtgjdiioennhoeaaGreat
theorem worldScans_holds:Rows.WorldScansSaid:=worldScans.over
end Go.Proofs.YtgjdiioennhoeaaGreat
