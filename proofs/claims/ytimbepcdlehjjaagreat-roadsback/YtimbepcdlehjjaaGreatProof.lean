/-
  Proved: for every input, RoadsBack returns true, and its arguments read afterwards as they read before.
  Conditions: none beyond those of the given row.
-/
import Derived.Test.YtimbepcdlehjjaaGreatPlain
import Derived.Test.YtimbepcdlehjjaaGreatRows
import Derived.WalkKit
namespace Go.Abs.Roadsz
open Go Go.Abs Go.Proofs
theorem XW:Rd Tryz.prog 3 A3 Ck:=US Tryz.underlying3
theorem YI:Rd Tryz.prog 5 B7 (fun n:Int=>(Lit.int .u8 n).wf=true):=MZ Tryz.underlying5
end Go.Abs.Roadsz
namespace Go.Proofs.YtimbepcdlehjjaaGreat.roadsBack
open Go.ChangeShapes Go.WideShapes Go.ChangeAt Go.RowKit Go.Abs Go.Abs.Roadsz
set_option linter.unusedVariables false
theorem own:ownKnob Tryz.prog.godebug=none:=by kernel_rfl
theorem Vl:laidOutB Tryz.prog=true:=by kernel_rfl
set_option maxRecDepth 100000 in
theorem lifted (os:Os)(started:os.Started)(H:Type)(enc:TypeId×Value→H):
    ReturnsInHanded {} Tryz.checked os 7 .any (Rows.roadsBackSpec.pre6 enc Tryz.prog Tryz.f7 Rows.roadsBackRow.domain false) (Rows.roadsBackSpec.post enc Tryz.prog Tryz.f7 false true false false):=by
  refine returnsInHanded_of_change (C:=Tryz.checked) own started (by kernel_rfl) Tryz.func7
    (ChangeSpec.witness6 (enc:=enc) (C:=Tryz.checked) false ⟨#[],#[.int .i64 0, .int .i64 0, .int .u8 0],[]⟩ 8 (by kernel_rfl) (by kernel_rfl) (by kernel_rfl) (by kernel_rfl)) ?_
  intro W base args ds gs before hval0 hW hcnd _
  have hval: ∀(j:Nat) t v,Tryz.f7.params[j]? =some t→args[j]? =some v→Value.okWide Tryz.prog W .any base t v:=hval0
  have hW':=hW
  obtain ⟨p,q,hA0,hV,rfl,hfz,hnd⟩:=hW
  have hA:DataW.TrodAll enc Tryz.prog W 0 (fun _=>true) true Tryz.f7.params.toList args.toList ds p:=hA0
  rw [Tryz.params7]at hA hval
  obtain ⟨v0,vs0,d0,ds0,p0,q0,hargs,rfl,rfl,h0,r0⟩:=trodAll_cons hA
  obtain ⟨v1,vs1,d1,ds1,p1,q1,rfl,rfl,rfl,h1,r1⟩:=trodAll_cons r0
  obtain ⟨v2,vs2,d2,ds2,p2,q2,rfl,rfl,rfl,h2,r2⟩:=trodAll_cons r1
  obtain ⟨rfl,rfl,rfl⟩:=trodAll_nil r2
  obtain rfl:args= #[v0,v1,v2]:=by cases args;simp_all
  obtain ⟨rfl,rfl⟩:=trodVars_none hV
  have k0:=h0
  have lt0: ∀x∈p0,x.block<W.heap.size:=by obtain ⟨m,hm⟩:=k0;exact DataW.trod_lt m _ _ _ hm
  obtain ⟨a0,w0,e0⟩:=AQ XW (by obtain ⟨_,rfl⟩:=okWide_int Tryz.underlying3 (hval 0 3 v0 rfl rfl);rfl) h0
  have k1:=h1
  have lt1: ∀x∈p1,x.block<W.heap.size:=by obtain ⟨m,hm⟩:=k1;exact DataW.trod_lt m _ _ _ hm
  obtain ⟨a1,w1,e1⟩:=AQ XW (by obtain ⟨_,rfl⟩:=okWide_int Tryz.underlying3 (hval 1 3 v1 rfl rfl);rfl) h1
  have k2:=h2
  have XC: ∀x∈p2,x.block<W.heap.size:=by obtain ⟨m,hm⟩:=k2;exact DataW.trod_lt m _ _ _ hm
  obtain ⟨a2,w2,e2⟩:=AQ YI (by obtain ⟨_,rfl⟩:=okWide_int Tryz.underlying5 (hval 2 5 v2 rfl rfl);rfl) h2
  clear hA0 hval0
  refine (NA (vs:= [v0,v1,v2]) (Rj a0 a1 a2 _ (Og a0 a1 a2)) rfl ?_).mono fun e W' ⟨he,bel⟩=> ?_
  ·intro i d hi
   match i,hi with
   |0,hi=>cases hi;exact e0
   |1,hi=>cases hi;exact e1
   |2,hi=>cases hi;exact e2
   |i+3,hi=>simp at hi
  ·subst he
   exact ⟨_,rfl,_,_,_,[],_,[],hW',trodAll_mk1 (shut_bool Tryz.underlying4 _),(trodAll_cons_mk (Below.trod Vl (by kernel_rfl) (of_decide_eq_true (by kernel_rfl)) k0 bel lt0) (trodAll_cons_mk (Below.trod Vl (by kernel_rfl) (of_decide_eq_true (by kernel_rfl)) k1 bel lt1) (trodAll_cons_mk (Below.trod Vl (by kernel_rfl) (of_decide_eq_true (by kernel_rfl)) k2 bel XC) trodAll_mk0))),rfl,bel.frame _,fun h=>by cases h⟩
theorem j0:(mapsRowed Tryz.prog)=true:=by kernel_rfl
theorem j1:(Rows.roadsBackRow.inPlace==Tryz.prog.inPlace 7)=true:=by kernel_rfl
theorem j2:(Rows.roadsBackRow.unfollowed==Tryz.prog.unfollowed 7)=true:=by kernel_rfl
theorem j3:(Rows.roadsBackRow.recurses==Tryz.prog.recurses 7)=true:=by kernel_rfl
theorem j4:(Rows.roadsBackRow.named==Tryz.prog.varsNamed 7)=true:=by kernel_rfl
theorem j5:(Rows.roadsBackRow.plainKeys==Tryz.prog.plainKeys)=true:=by kernel_rfl
theorem j6:(Tryz.prog.stopsHeard)=true:=by kernel_rfl
theorem j7:(Tryz.prog.mayEnter)=true:=by kernel_rfl
theorem j8:(Rows.roadsBackRow.lifted==Tryz.prog.liftsFinal)=true:=by kernel_rfl
theorem j9:(Tryz.prog.make==some Rows.roadsBackRow.make)=true:=by kernel_rfl
theorem YJ:(Rows.roadsBackRow.loops==(Tryz.f7.params.toList++Rows.roadsBackSpec.plain.varTypes Tryz.prog).any (Tryz.prog.loopsFrom ·))=true:=by kernel_rfl
theorem VS:joinedFacts Tryz.prog 7 Tryz.f7 Rows.roadsBackSpec Rows.roadsBackRow=true:=by
  unfold joinedFacts
  simp only [bG]
  repeat' apply And.intro
  all_goals first|with_reducible exact Vl|with_reducible exact j0|with_reducible exact j1|with_reducible exact j2|with_reducible exact j3|with_reducible exact j4|with_reducible exact j5|with_reducible exact j6|with_reducible exact j7|with_reducible exact j8|with_reducible exact j9|with_reducible exact YJ|kernel_rfl
theorem over:Rows.roadsBackRow.holds Tryz.pinned (OpenSpec.ofChange Rows.roadsBackSpec):=
  OpenClaim.holds_of_wide 7 Tryz.f7 rfl rfl rfl rfl rfl rfl rfl ⟨rfl,rfl,rfl,rfl,rfl⟩ rfl rfl rfl rfl rfl (by kernel_rfl) Tryz.func7 VS
    (of_decide_eq_true (by kernel_rfl)) (by unfold Func.isWrapper;first|(rw [bE (by decide+kernel)];kernel_rfl)|(rw [bF (by decide+kernel)];exact ⟨rfl,rfl⟩))
    (fun os started H enc _=>lifted os started H enc)
end Go.Proofs.YtimbepcdlehjjaaGreat.roadsBack
namespace Go.Proofs.YtimbepcdlehjjaaGreat
theorem roadsBack_holds:Rows.RoadsBackSaid:=roadsBack.over
end Go.Proofs.YtimbepcdlehjjaaGreat
