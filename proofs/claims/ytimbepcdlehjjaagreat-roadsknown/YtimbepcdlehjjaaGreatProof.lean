/-
  Proved: for every input, RoadsKnown returns true, and its arguments read afterwards as they read before.
  Conditions: none beyond those of the given row.
-/
import Derived.Test.YtimbepcdlehjjaaGreatPlain
import Derived.Test.YtimbepcdlehjjaaGreatRows
import Derived.WalkKit
namespace Go.Abs.Roadsz
open Go Go.Abs Go.Proofs
end Go.Abs.Roadsz
namespace Go.Proofs.YtimbepcdlehjjaaGreat.roadsKnown
open Go.ChangeShapes Go.WideShapes Go.ChangeAt Go.RowKit Go.Abs Go.Abs.Roadsz
set_option linter.unusedVariables false
theorem own:ownKnob Tryz.prog.godebug=none:=by kernel_rfl
theorem OI:laidOutB Tryz.prog=true:=by kernel_rfl
set_option maxRecDepth 100000 in
theorem lifted (os:Os)(started:os.Started)(H:Type)(enc:TypeId×Value→H):
    ReturnsInHanded {} Tryz.checked os 12 .any (Rows.roadsKnownSpec.pre6 enc Tryz.prog Tryz.f12 Rows.roadsKnownRow.domain false) (Rows.roadsKnownSpec.post enc Tryz.prog Tryz.f12 false true false false):=by
  refine returnsInHanded_of_change (C:=Tryz.checked) own started (by kernel_rfl) Tryz.func12
    (ChangeSpec.witness6 (enc:=enc) (C:=Tryz.checked) false ⟨#[],#[],[]⟩ 8 (by kernel_rfl) (by kernel_rfl) (by kernel_rfl) (by kernel_rfl)) ?_
  intro W base args ds gs before hval0 hW hcnd _;have hval: ∀(j:Nat) t v,Tryz.f12.params[j]? =some t→args[j]? =some v→Value.okWide Tryz.prog W .any base t v:=hval0;have hW':=hW;obtain ⟨p,q,hA0,hV,rfl,hfz,hnd⟩:=hW;have hA:DataW.TrodAll enc Tryz.prog W 0 (fun _=>true) true Tryz.f12.params.toList args.toList ds p:=hA0;rw [Tryz.params12]at hA hval;obtain ⟨rfl,rfl,rfl⟩:=trodAll_none hA;obtain ⟨rfl,rfl⟩:=trodVars_none hV;clear hA0 hval0;refine (KQ (vs:= []) (Su _ (Pz)) rfl ?_).mono fun e W' ⟨he,bel⟩=> ?_
  ·intro i d hi
   match i,hi with
   |i+0,hi=>simp at hi
  ·subst he;exact ⟨_,rfl,_,_,_,[],_,[],hW',trodAll_mk1 (shut_bool Tryz.underlying4 _),rfl,rfl,bel.frame _,fun h=>by cases h⟩
theorem j0:(mapsRowed Tryz.prog)=true:=by kernel_rfl
theorem j1:(Rows.roadsKnownRow.inPlace==Tryz.prog.inPlace 12)=true:=by kernel_rfl
theorem j2:(Rows.roadsKnownRow.unfollowed==Tryz.prog.unfollowed 12)=true:=by kernel_rfl
theorem j3:(Rows.roadsKnownRow.recurses==Tryz.prog.recurses 12)=true:=by kernel_rfl
theorem j4:(Rows.roadsKnownRow.named==Tryz.prog.varsNamed 12)=true:=by kernel_rfl
theorem j5:(Rows.roadsKnownRow.plainKeys==Tryz.prog.plainKeys)=true:=by kernel_rfl
theorem j6:(Tryz.prog.stopsHeard)=true:=by kernel_rfl
theorem j7:(Tryz.prog.mayEnter)=true:=by kernel_rfl
theorem j8:(Rows.roadsKnownRow.lifted==Tryz.prog.liftsFinal)=true:=by kernel_rfl
theorem j9:(Tryz.prog.make==some Rows.roadsKnownRow.make)=true:=by kernel_rfl
theorem ST:(Rows.roadsKnownRow.loops==(Tryz.f12.params.toList++Rows.roadsKnownSpec.plain.varTypes Tryz.prog).any (Tryz.prog.loopsFrom ·))=true:=by kernel_rfl
theorem QP:joinedFacts Tryz.prog 12 Tryz.f12 Rows.roadsKnownSpec Rows.roadsKnownRow=true:=by
  unfold joinedFacts;simp only [l6]
  repeat' apply And.intro
  all_goals first|with_reducible exact OI|with_reducible exact j0|with_reducible exact j1|with_reducible exact j2|with_reducible exact j3|with_reducible exact j4|with_reducible exact j5|with_reducible exact j6|with_reducible exact j7|with_reducible exact j8|with_reducible exact j9|with_reducible exact ST|kernel_rfl
theorem over:Rows.roadsKnownRow.holds Tryz.pinned (OpenSpec.ofChange Rows.roadsKnownSpec):=
  OpenClaim.holds_of_wide 12 Tryz.f12 rfl rfl rfl rfl rfl rfl rfl ⟨rfl,rfl,rfl,rfl,rfl⟩ rfl rfl rfl rfl rfl (by kernel_rfl) Tryz.func12 QP
    (of_decide_eq_true (by kernel_rfl)) (by unfold Func.isWrapper;first|(rw [l4 (by decide+kernel)];kernel_rfl)|(rw [l5 (by decide+kernel)];exact ⟨rfl,rfl⟩))
    (fun os started H enc _=>lifted os started H enc)
end Go.Proofs.YtimbepcdlehjjaaGreat.roadsKnown
namespace Go.Proofs.YtimbepcdlehjjaaGreat
theorem roadsKnown_holds:Rows.RoadsKnownSaid:=roadsKnown.over
end Go.Proofs.YtimbepcdlehjjaaGreat
