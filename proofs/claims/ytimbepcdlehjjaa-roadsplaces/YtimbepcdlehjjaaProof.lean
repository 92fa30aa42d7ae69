/-
  Proved: for every input, RoadsPlaces returns true, and its arguments read afterwards as they read before.
  Conditions: none beyond those of the given row.
-/
import Derived.Test.YtimbepcdlehjjaaPlainB
import Derived.Test.YtimbepcdlehjjaaRows
import Derived.WalkKit
namespace Go.Abs.Roads
open Go Go.Abs Go.Proofs
theorem rd3:Rd Try.prog 3 A5 D2b:=C8d Try.underlying3
theorem rd2:Rd Try.prog 2 A5 D2b:=C8d Try.underlying2
end Go.Abs.Roads
namespace Go.Proofs.Ytimbepcdlehjjaa.roadsPlaces
open Go.ChangeShapes Go.WideShapes Go.ChangeAt Go.RowKit Go.Abs Go.Abs.Roads
set_option linter.unusedVariables false
theorem own:ownKnob Try.prog.godebug=none:=by kernel_rfl
theorem B81:laidOutB Try.prog=true:=by kernel_rfl
set_option maxRecDepth 100000 in
theorem lifted (os:Os)(started:os.Started)(H:Type)(enc:TypeId×Value→H):
    ReturnsInHanded {} Try.checked os 7 .any (Rows.roadsPlacesSpec.pre6 enc Try.prog Try.f7 Rows.roadsPlacesRow.domain false) (Rows.roadsPlacesSpec.post enc Try.prog Try.f7 false true false false):=by
  refine returnsInHanded_of_change (C:=Try.checked) own started (by kernel_rfl) Try.func7
    (ChangeSpec.witness6 (enc:=enc) (C:=Try.checked) false ⟨#[],#[.int .i64 0, .int .i64 0, .int .i64 0],[]⟩ 8 (by kernel_rfl) (by kernel_rfl) (by kernel_rfl) (by kernel_rfl)) ?_
  intro W base args ds gs before hval0 hW hcnd _
  have hval: ∀(j:Nat) t v,Try.f7.params[j]? =some t→args[j]? =some v→Value.okWide Try.prog W .any base t v:=hval0
  have hW':=hW
  obtain ⟨p,q,hA0,hV,rfl,hfz,hnd⟩:=hW
  have hA:DataW.TrodAll enc Try.prog W 0 (fun _=>true) true Try.f7.params.toList args.toList ds p:=hA0
  rw [Try.params7]at hA hval
  obtain ⟨v0,vs0,d0,ds0,p0,q0,hargs,rfl,rfl,h0,r0⟩:=trodAll_cons hA
  obtain ⟨v1,vs1,d1,ds1,p1,q1,rfl,rfl,rfl,h1,r1⟩:=trodAll_cons r0
  obtain ⟨v2,vs2,d2,ds2,p2,q2,rfl,rfl,rfl,h2,r2⟩:=trodAll_cons r1
  obtain ⟨rfl,rfl,rfl⟩:=trodAll_nil r2
  obtain rfl:args= #[v0,v1,v2]:=by cases args;simp_all
  obtain ⟨rfl,rfl⟩:=trodVars_none hV
  have k0:=h0
  have lt0: ∀x∈p0,x.block<W.heap.size:=by obtain ⟨m,hm⟩:=k0;exact DataW.trod_lt m _ _ _ hm
  obtain ⟨a0,w0,e0⟩:=C0e rd3 (by obtain ⟨_,rfl⟩:=okWide_int Try.underlying3 (hval 0 3 v0 rfl rfl);rfl) h0
  have k1:=h1
  have lt1: ∀x∈p1,x.block<W.heap.size:=by obtain ⟨m,hm⟩:=k1;exact DataW.trod_lt m _ _ _ hm
  obtain ⟨a1,w1,e1⟩:=C0e rd3 (by obtain ⟨_,rfl⟩:=okWide_int Try.underlying3 (hval 1 3 v1 rfl rfl);rfl) h1
  have k2:=h2
  have lt2: ∀x∈p2,x.block<W.heap.size:=by obtain ⟨m,hm⟩:=k2;exact DataW.trod_lt m _ _ _ hm
  obtain ⟨a2,w2,e2⟩:=C0e rd2 (by obtain ⟨_,rfl⟩:=okWide_int Try.underlying2 (hval 2 2 v2 rfl rfl);rfl) h2
  clear hA0 hval0
  refine (C7c (vs:= [v0,v1,v2]) (B0a a0 a1 a2 _ (A8u a0 a1 a2)) rfl ?_).mono fun e W' ⟨he,bel⟩=> ?_
  ·intro i d hi
   match i,hi with
   |0,hi=>cases hi;exact e0
   |1,hi=>cases hi;exact e1
   |2,hi=>cases hi;exact e2
   |i+3,hi=>simp at hi
  ·subst he
   exact ⟨_,rfl,_,_,_,[],_,[],hW',trodAll_mk1 (shut_bool Try.underlying4 _),(trodAll_cons_mk (Below.trod B81 (by kernel_rfl) (of_decide_eq_true (by kernel_rfl)) k0 bel lt0) (trodAll_cons_mk (Below.trod B81 (by kernel_rfl) (of_decide_eq_true (by kernel_rfl)) k1 bel lt1) (trodAll_cons_mk (Below.trod B81 (by kernel_rfl) (of_decide_eq_true (by kernel_rfl)) k2 bel lt2) trodAll_mk0))),rfl,bel.frame _,fun h=>by cases h⟩
theorem j0:(mapsRowed Try.prog)=true:=by kernel_rfl
theorem j1:(Rows.roadsPlacesRow.inPlace==Try.prog.inPlace 7)=true:=by kernel_rfl
theorem j2:(Rows.roadsPlacesRow.unfollowed==Try.prog.unfollowed 7)=true:=by kernel_rfl
theorem j3:(Rows.roadsPlacesRow.recurses==Try.prog.recurses 7)=true:=by kernel_rfl
theorem j4:(Rows.roadsPlacesRow.named==Try.prog.varsNamed 7)=true:=by kernel_rfl
theorem j5:(Rows.roadsPlacesRow.plainKeys==Try.prog.plainKeys)=true:=by kernel_rfl
theorem j6:(Try.prog.stopsHeard)=true:=by kernel_rfl
theorem j7:(Try.prog.mayEnter)=true:=by kernel_rfl
theorem j8:(Rows.roadsPlacesRow.lifted==Try.prog.liftsFinal)=true:=by kernel_rfl
theorem j9:(Try.prog.make==some Rows.roadsPlacesRow.make)=true:=by kernel_rfl
theorem j10:(Rows.roadsPlacesRow.loops==(Try.f7.params.toList++Rows.roadsPlacesSpec.plain.varTypes Try.prog).any (Try.prog.loopsFrom ·))=true:=by kernel_rfl
theorem C8i:joinedFacts Try.prog 7 Try.f7 Rows.roadsPlacesSpec Rows.roadsPlacesRow=true:=by
  unfold joinedFacts
  simp only [Bool.and_eq_true]
  repeat' apply And.intro
  all_goals first|with_reducible exact B81|with_reducible exact j0|with_reducible exact j1|with_reducible exact j2|with_reducible exact j3|with_reducible exact j4|with_reducible exact j5|with_reducible exact j6|with_reducible exact j7|with_reducible exact j8|with_reducible exact j9|with_reducible exact j10|kernel_rfl
theorem over:Rows.roadsPlacesRow.holds Try.pinned (OpenSpec.ofChange Rows.roadsPlacesSpec):=
  OpenClaim.holds_of_wide 7 Try.f7 rfl rfl rfl rfl rfl rfl rfl ⟨rfl,rfl,rfl,rfl,rfl⟩ rfl rfl rfl rfl rfl (by kernel_rfl) Try.func7 C8i
    (of_decide_eq_true (by kernel_rfl)) (by unfold Func.isWrapper;first|(rw [if_pos (by decide+kernel)];kernel_rfl)|(rw [if_neg (by decide+kernel)];exact ⟨rfl,rfl⟩))
    (fun os started H enc _=>lifted os started H enc)
end Go.Proofs.Ytimbepcdlehjjaa.roadsPlaces
namespace Go.Proofs.Ytimbepcdlehjjaa
theorem roadsPlaces_holds:Rows.RoadsPlacesSaid:=roadsPlaces.over
end Go.Proofs.Ytimbepcdlehjjaa
