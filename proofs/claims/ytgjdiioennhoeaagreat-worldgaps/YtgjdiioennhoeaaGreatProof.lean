/-
  Proved: for every input, WorldGaps returns true, and its arguments read afterwards as they read before.
  Conditions: none beyond those of the given row.
-/
import Derived.Test.YtgjdiioennhoeaaGreatPlainB
import Derived.Test.YtgjdiioennhoeaaGreatRows
import Derived.WalkKit
namespace Go.Abs.World
open Go Go.Abs Go.Proofs
theorem nW:Rd Tryz.prog 3 A4 DF:=aV Tryz.underlying3
theorem nF:Rd Tryz.prog 2 A4 DF:=aV Tryz.underlying2
theorem oW:Rd Tryz.prog 4 mN (fun _:Bool=>True):=fK Tryz.underlying4
theorem nG:Rd Tryz.prog 73 Sk (fun x:KitActor=>DF x.R∧DF x.S∧DF x.V∧DF x.Len∧DF x.Begin∧(fun _:Bool=>True) x.Disobeys):=
  aT (WQ Tryz.underlying73 (wf:=_) (Sj (n:=1) nW rfl (fun _=>rfl) (Sj (n:=1) nF rfl (fun _=>rfl) (Sj (n:=1) nF rfl (fun _=>rfl) (Sj (n:=1) nF rfl (fun _=>rfl) (Sj (n:=1) nW rfl (fun _=>rfl) (Sj (n:=1) oW rfl (fun _=>rfl) fL)))))) (by intro y;kernel_rfl)) Sk (fun x:KitActor=>DF x.R∧DF x.S∧DF x.V∧DF x.Len∧DF x.Begin∧(fun _:Bool=>True) x.Disobeys) (fun y=>⟨y.1,y.2.1,y.2.2.1,y.2.2.2.1,y.2.2.2.2.1,y.2.2.2.2.2.1⟩) (fun _=>rfl) (fun y h=>⟨h.1,h.2.1,h.2.2.1,h.2.2.2.1,h.2.2.2.2.1,h.2.2.2.2.2.1⟩)
end Go.Abs.World
namespace Go.Proofs.YtgjdiioennhoeaaGreat.worldGaps
open Go.ChangeShapes Go.WideShapes Go.ChangeAt Go.RowKit Go.Abs Go.Abs.World
set_option linter.unusedVariables false
theorem own:ownKnob Tryz.prog.godebug=none:=by kernel_rfl
theorem Yh:laidOutB Tryz.prog=true:=by kernel_rfl
set_option maxRecDepth 100000 in
theorem lifted (os:Os)(started:os.Started)(H:Type)(enc:TypeId×Value→H):
    ReturnsInHanded {} Tryz.checked os 9 .any (Rows.worldGapsSpec.pre6 enc Tryz.prog Tryz.f9 Rows.worldGapsRow.domain false) (Rows.worldGapsSpec.post enc Tryz.prog Tryz.f9 false true false false):=by
  refine returnsInHanded_of_change (C:=Tryz.checked) own started (by kernel_rfl) Tryz.func9
    (ChangeSpec.witness6 (enc:=enc) (C:=Tryz.checked) false ⟨#[],#[.int .i64 0, .agg #[.int .i64 0, .int .i64 0, .int .i64 0, .int .i64 0, .int .i64 0, .bool false], .agg #[.int .i64 0, .int .i64 0, .int .i64 0, .int .i64 0, .int .i64 0, .bool false], .int .i64 0, .int .i64 0],[]⟩ 8 (by kernel_rfl) (by kernel_rfl) (by kernel_rfl) (by kernel_rfl)) ?_
  intro W base args ds gs before hval0 hW hcnd _
  have hval: ∀(j:Nat) t v,Tryz.f9.params[j]? =some t→args[j]? =some v→Value.okWide Tryz.prog W .any base t v:=hval0
  have hW':=hW
  obtain ⟨p,q,hA0,hV,rfl,hfz,hnd⟩:=hW
  have hA:DataW.TrodAll enc Tryz.prog W 0 (fun _=>true) true Tryz.f9.params.toList args.toList ds p:=hA0
  rw [Tryz.params9]at hA hval
  obtain ⟨v0,vs0,d0,ds0,p0,q0,hargs,rfl,rfl,h0,r0⟩:=trodAll_cons hA
  obtain ⟨v1,vs1,d1,ds1,p1,q1,rfl,rfl,rfl,h1,r1⟩:=trodAll_cons r0
  obtain ⟨v2,vs2,d2,ds2,p2,q2,rfl,rfl,rfl,h2,r2⟩:=trodAll_cons r1
  obtain ⟨v3,vs3,d3,ds3,p3,q3,rfl,rfl,rfl,h3,r3⟩:=trodAll_cons r2
  obtain ⟨v4,vs4,d4,ds4,p4,q4,rfl,rfl,rfl,h4,r4⟩:=trodAll_cons r3
  obtain ⟨rfl,rfl,rfl⟩:=trodAll_nil r4
  obtain rfl:args= #[v0,v1,v2,v3,v4]:=by cases args;simp_all
  obtain ⟨rfl,rfl⟩:=trodVars_none hV
  have k0:=h0
  have lt0: ∀x∈p0,x.block<W.heap.size:=by obtain ⟨m,hm⟩:=k0;exact DataW.trod_lt m _ _ _ hm
  obtain ⟨a0,w0,e0⟩:=ND nW (by obtain ⟨_,rfl⟩:=okWide_int Tryz.underlying3 (hval 0 3 v0 rfl rfl);rfl) h0
  have k1:=h1
  have lt1: ∀x∈p1,x.block<W.heap.size:=by obtain ⟨m,hm⟩:=k1;exact DataW.trod_lt m _ _ _ hm
  obtain ⟨a1,w1,e1⟩:=VA nG Tryz.underlying73 (hval 1 73 v1 rfl rfl) h1
  have k2:=h2
  have lt2: ∀x∈p2,x.block<W.heap.size:=by obtain ⟨m,hm⟩:=k2;exact DataW.trod_lt m _ _ _ hm
  obtain ⟨a2,w2,e2⟩:=VA nG Tryz.underlying73 (hval 2 73 v2 rfl rfl) h2
  have k3:=h3
  have lt3: ∀x∈p3,x.block<W.heap.size:=by obtain ⟨m,hm⟩:=k3;exact DataW.trod_lt m _ _ _ hm
  obtain ⟨a3,w3,e3⟩:=ND nF (by obtain ⟨_,rfl⟩:=okWide_int Tryz.underlying2 (hval 3 2 v3 rfl rfl);rfl) h3
  have k4:=h4
  have lt4: ∀x∈p4,x.block<W.heap.size:=by obtain ⟨m,hm⟩:=k4;exact DataW.trod_lt m _ _ _ hm
  obtain ⟨a4,w4,e4⟩:=ND nF (by obtain ⟨_,rfl⟩:=okWide_int Tryz.underlying2 (hval 4 2 v4 rfl rfl);rfl) h4
  clear hA0 hval0
  refine (aU (vs:= [v0,v1,v2,v3,v4]) (AI a0 a1 a2 a3 a4 _ (Vh a0 a1 a2 a3 a4)) rfl ?_).mono fun e W' ⟨he,bel⟩=> ?_
  ·intro i d hi
   match i,hi with
   |0,hi=>cases hi;exact e0
   |1,hi=>cases hi;exact e1
   |2,hi=>cases hi;exact e2
   |3,hi=>cases hi;exact e3
   |4,hi=>cases hi;exact e4
   |i+5,hi=>simp at hi
  ·subst he
   exact ⟨_,rfl,_,_,_,[],_,[],hW',trodAll_mk1 (shut_bool Tryz.underlying4 _),(trodAll_cons_mk (Below.trod Yh (by kernel_rfl) (bN (by kernel_rfl)) k0 bel lt0) (trodAll_cons_mk (Below.trod Yh (by kernel_rfl) (bN (by kernel_rfl)) k1 bel lt1) (trodAll_cons_mk (Below.trod Yh (by kernel_rfl) (bN (by kernel_rfl)) k2 bel lt2) (trodAll_cons_mk (Below.trod Yh (by kernel_rfl) (bN (by kernel_rfl)) k3 bel lt3) (trodAll_cons_mk (Below.trod Yh (by kernel_rfl) (bN (by kernel_rfl)) k4 bel lt4) trodAll_mk0))))),rfl,bel.frame _,fun h=>by cases h⟩
theorem j0:(mapsRowed Tryz.prog)=true:=by kernel_rfl
theorem j1:(Rows.worldGapsRow.inPlace==Tryz.prog.inPlace 9)=true:=by kernel_rfl
theorem j2:(Rows.worldGapsRow.unfollowed==Tryz.prog.unfollowed 9)=true:=by kernel_rfl
theorem j3:(Rows.worldGapsRow.recurses==Tryz.prog.recurses 9)=true:=by kernel_rfl
theorem j4:(Rows.worldGapsRow.named==Tryz.prog.varsNamed 9)=true:=by kernel_rfl
theorem j5:(Rows.worldGapsRow.plainKeys==Tryz.prog.plainKeys)=true:=by kernel_rfl
theorem j6:(Tryz.prog.stopsHeard)=true:=by kernel_rfl
theorem j7:(Tryz.prog.mayEnter)=true:=by kernel_rfl
theorem j8:(Rows.worldGapsRow.lifted==Tryz.prog.liftsFinal)=true:=by kernel_rfl
theorem j9:(Tryz.prog.make==some Rows.worldGapsRow.make)=true:=by kernel_rfl
theorem oX:(Rows.worldGapsRow.loops==(Tryz.f9.params.toList++Rows.worldGapsSpec.plain.varTypes Tryz.prog).any (Tryz.prog.loopsFrom ·))=true:=by kernel_rfl
theorem kS:joinedFacts Tryz.prog 9 Tryz.f9 Rows.worldGapsSpec Rows.worldGapsRow=true:=by
  unfold joinedFacts
  simp only [bU]
  repeat' apply And.intro
  all_goals first|with_reducible exact Yh|with_reducible exact j0|with_reducible exact j1|with_reducible exact j2|with_reducible exact j3|with_reducible exact j4|with_reducible exact j5|with_reducible exact j6|with_reducible exact j7|with_reducible exact j8|with_reducible exact j9|with_reducible exact oX|kernel_rfl
theorem over:Rows.worldGapsRow.holds Tryz.pinned (OpenSpec.ofChange Rows.worldGapsSpec):=
  OpenClaim.holds_of_wide 9 Tryz.f9 rfl rfl rfl rfl rfl rfl rfl ⟨rfl,rfl,rfl,rfl,rfl⟩ rfl rfl rfl rfl rfl (by kernel_rfl) Tryz.func9 kS
    (bN (by kernel_rfl)) (by unfold Func.isWrapper;first|(rw [bQ (by decide+kernel)];kernel_rfl)|(rw [bR (by decide+kernel)];exact ⟨rfl,rfl⟩))
    (fun os started H enc _=>lifted os started H enc)
end Go.Proofs.YtgjdiioennhoeaaGreat.worldGaps
namespace Go.Proofs.YtgjdiioennhoeaaGreat
theorem worldGaps_holds:Rows.WorldGapsSaid:=worldGaps.over
end Go.Proofs.YtgjdiioennhoeaaGreat
