/-
  Proved: for every input, WorldContains returns true, and its arguments read afterwards as they read before.
  Conditions: none beyond those of the given row.
-/
import Derived.Test.YtgjdiioennhoeaaGreatPlainB
import Derived.Test.YtgjdiioennhoeaaGreatRows
import Derived.WalkKit
namespace Go.Abs.World
open Go Go.Abs Go.Proofs
theorem kB:Rd Tryz.prog 3 A4 CT:=ZB Tryz.underlying3
theorem jM:Rd Tryz.prog 2 A4 CT:=ZB Tryz.underlying2
theorem kW:Rd Tryz.prog 4 iW (fun _:Bool=>True):=dM Tryz.underlying4
theorem kC:Rd Tryz.prog 73 Mo (fun x:KitActor=>CT x.R∧CT x.S∧CT x.V∧CT x.Len∧CT x.Begin∧(fun _:Bool=>True) x.Disobeys):=
  YZ (UY Tryz.underlying73 (wf:=_) (So (n:=1) kB rfl (fun _=>rfl) (So (n:=1) jM rfl (fun _=>rfl) (So (n:=1) jM rfl (fun _=>rfl) (So (n:=1) jM rfl (fun _=>rfl) (So (n:=1) kB rfl (fun _=>rfl) (So (n:=1) kW rfl (fun _=>rfl) dN)))))) (by intro y;kernel_rfl)) Mo (fun x:KitActor=>CT x.R∧CT x.S∧CT x.V∧CT x.Len∧CT x.Begin∧(fun _:Bool=>True) x.Disobeys) (fun y=>⟨y.1,y.2.1,y.2.2.1,y.2.2.2.1,y.2.2.2.2.1,y.2.2.2.2.2.1⟩) (fun _=>rfl) (fun y h=>⟨h.1,h.2.1,h.2.2.1,h.2.2.2.1,h.2.2.2.2.1,h.2.2.2.2.2.1⟩)
end Go.Abs.World
namespace Go.Proofs.YtgjdiioennhoeaaGreat.worldContains
open Go.ChangeShapes Go.WideShapes Go.ChangeAt Go.RowKit Go.Abs Go.Abs.World
set_option linter.unusedVariables false
theorem own:ownKnob Tryz.prog.godebug=none:=by kernel_rfl
theorem CK:laidOutB Tryz.prog=true:=by kernel_rfl
set_option maxRecDepth 100000 in
theorem lifted (os:Os)(started:os.Started)(H:Type)(enc:TypeId×Value→H):
    ReturnsInHanded {} Tryz.checked os 13 .any (Rows.worldContainsSpec.pre6 enc Tryz.prog Tryz.f13 Rows.worldContainsRow.domain false) (Rows.worldContainsSpec.post enc Tryz.prog Tryz.f13 false true false false):=by
  refine returnsInHanded_of_change (C:=Tryz.checked) own started (by kernel_rfl) Tryz.func13
    (ChangeSpec.witness6 (enc:=enc) (C:=Tryz.checked) false ⟨#[],#[.int .i64 0, .agg #[.int .i64 0, .int .i64 0, .int .i64 0, .int .i64 0, .int .i64 0, .bool false], .int .i64 0, .int .i64 0],[]⟩ 8 (by kernel_rfl) (by kernel_rfl) (by kernel_rfl) (by kernel_rfl)) ?_
  intro W base args ds gs before hval0 hW hcnd _
  have hval: ∀(j:Nat) t v,Tryz.f13.params[j]? =some t→args[j]? =some v→Value.okWide Tryz.prog W .any base t v:=hval0
  have hW':=hW
  obtain ⟨p,q,hA0,hV,rfl,hfz,hnd⟩:=hW
  have hA:DataW.TrodAll enc Tryz.prog W 0 (fun _=>true) true Tryz.f13.params.toList args.toList ds p:=hA0
  rw [Tryz.params13]at hA hval
  obtain ⟨v0,vs0,d0,ds0,p0,q0,hargs,rfl,rfl,h0,r0⟩:=trodAll_cons hA
  obtain ⟨v1,vs1,d1,ds1,p1,q1,rfl,rfl,rfl,h1,r1⟩:=trodAll_cons r0
  obtain ⟨v2,vs2,d2,ds2,p2,q2,rfl,rfl,rfl,h2,r2⟩:=trodAll_cons r1
  obtain ⟨v3,vs3,d3,ds3,p3,q3,rfl,rfl,rfl,h3,r3⟩:=trodAll_cons r2
  obtain ⟨rfl,rfl,rfl⟩:=trodAll_nil r3
  obtain rfl:args= #[v0,v1,v2,v3]:=by cases args;simp_all
  obtain ⟨rfl,rfl⟩:=trodVars_none hV
  have k0:=h0
  have lt0: ∀x∈p0,x.block<W.heap.size:=by obtain ⟨m,hm⟩:=k0;exact DataW.trod_lt m _ _ _ hm
  obtain ⟨a0,w0,e0⟩:=MF kB (by obtain ⟨_,rfl⟩:=okWide_int Tryz.underlying3 (hval 0 3 v0 rfl rfl);rfl) h0
  have k1:=h1
  have lt1: ∀x∈p1,x.block<W.heap.size:=by obtain ⟨m,hm⟩:=k1;exact DataW.trod_lt m _ _ _ hm
  obtain ⟨a1,w1,e1⟩:=dO kC Tryz.underlying73 (hval 1 73 v1 rfl rfl) h1
  have k2:=h2
  have lt2: ∀x∈p2,x.block<W.heap.size:=by obtain ⟨m,hm⟩:=k2;exact DataW.trod_lt m _ _ _ hm
  obtain ⟨a2,w2,e2⟩:=MF jM (by obtain ⟨_,rfl⟩:=okWide_int Tryz.underlying2 (hval 2 2 v2 rfl rfl);rfl) h2
  have k3:=h3
  have lt3: ∀x∈p3,x.block<W.heap.size:=by obtain ⟨m,hm⟩:=k3;exact DataW.trod_lt m _ _ _ hm
  obtain ⟨a3,w3,e3⟩:=MF jM (by obtain ⟨_,rfl⟩:=okWide_int Tryz.underlying2 (hval 3 2 v3 rfl rfl);rfl) h3
  clear hA0 hval0
  refine (ZA (vs:= [v0,v1,v2,v3]) (Tz a0 a1 a2 a3 _ (Rh a0 a1 a2 a3)) rfl ?_).mono fun e W' ⟨he,bel⟩=> ?_
  ·intro i d hi
   match i,hi with
   |0,hi=>cases hi;exact e0
   |1,hi=>cases hi;exact e1
   |2,hi=>cases hi;exact e2
   |3,hi=>cases hi;exact e3
   |i+4,hi=>simp at hi
  ·subst he
   exact ⟨_,rfl,_,_,_,[],_,[],hW',trodAll_mk1 (shut_bool Tryz.underlying4 _),(trodAll_cons_mk (Below.trod CK (by kernel_rfl) (bG (by kernel_rfl)) k0 bel lt0) (trodAll_cons_mk (Below.trod CK (by kernel_rfl) (bG (by kernel_rfl)) k1 bel lt1) (trodAll_cons_mk (Below.trod CK (by kernel_rfl) (bG (by kernel_rfl)) k2 bel lt2) (trodAll_cons_mk (Below.trod CK (by kernel_rfl) (bG (by kernel_rfl)) k3 bel lt3) trodAll_mk0)))),rfl,bel.frame _,fun h=>by cases h⟩
theorem j0:(mapsRowed Tryz.prog)=true:=by kernel_rfl
theorem j1:(Rows.worldContainsRow.inPlace==Tryz.prog.inPlace 13)=true:=by kernel_rfl
theorem j2:(Rows.worldContainsRow.unfollowed==Tryz.prog.unfollowed 13)=true:=by kernel_rfl
theorem j3:(Rows.worldContainsRow.recurses==Tryz.prog.recurses 13)=true:=by kernel_rfl
theorem j4:(Rows.worldContainsRow.named==Tryz.prog.varsNamed 13)=true:=by kernel_rfl
theorem j5:(Rows.worldContainsRow.plainKeys==Tryz.prog.plainKeys)=true:=by kernel_rfl
theorem j6:(Tryz.prog.stopsHeard)=true:=by kernel_rfl
theorem j7:(Tryz.prog.mayEnter)=true:=by kernel_rfl
theorem j8:(Rows.worldContainsRow.lifted==Tryz.prog.liftsFinal)=true:=by kernel_rfl
theorem j9:(Tryz.prog.make==some Rows.worldContainsRow.make)=true:=by kernel_rfl
theorem kX:(Rows.worldContainsRow.loops==(Tryz.f13.params.toList++Rows.worldContainsSpec.plain.varTypes Tryz.prog).any (Tryz.prog.loopsFrom ·))=true:=by kernel_rfl
theorem iC:joinedFacts Tryz.prog 13 Tryz.f13 Rows.worldContainsSpec Rows.worldContainsRow=true:=by
  unfold joinedFacts
  simp only [bO]
  repeat' apply And.intro
  all_goals first|with_reducible exact CK|with_reducible exact j0|with_reducible exact j1|with_reducible exact j2|with_reducible exact j3|with_reducible exact j4|with_reducible exact j5|with_reducible exact j6|with_reducible exact j7|with_reducible exact j8|with_reducible exact j9|with_reducible exact kX|kernel_rfl
theorem over:Rows.worldContainsRow.holds Tryz.pinned (OpenSpec.ofChange Rows.worldContainsSpec):=
  OpenClaim.holds_of_wide 13 Tryz.f13 rfl rfl rfl rfl rfl rfl rfl ⟨rfl,rfl,rfl,rfl,rfl⟩ rfl rfl rfl rfl rfl (by kernel_rfl) Tryz.func13 iC
    (bG (by kernel_rfl)) (by unfold Func.isWrapper;first|(rw [bJ (by decide+kernel)];kernel_rfl)|(rw [bK (by decide+kernel)];exact ⟨rfl,rfl⟩))
    (fun os started H enc _=>lifted os started H enc)
end Go.Proofs.YtgjdiioennhoeaaGreat.worldContains
namespace Go.Proofs.YtgjdiioennhoeaaGreat
theorem worldContains_holds:Rows.WorldContainsSaid:=worldContains.over
end Go.Proofs.YtgjdiioennhoeaaGreat
