/-
  Proved: for every input, WorldKnown returns true, and its arguments read afterwards as they read before.
  Conditions: none beyond those of the given row.
-/
import Derived.Test.YtgjdiioennhoeaaGreatPlain
import Derived.Test.YtgjdiioennhoeaaGreatRows
import Derived.WalkKit
namespace Go.Abs.World
open Go Go.Abs Go.Proofs
end Go.Abs.World
namespace Go.Proofs.YtgjdiioennhoeaaGreat.worldKnown
open Go.ChangeShapes Go.WideShapes Go.ChangeAt Go.RowKit Go.Abs Go.Abs.World
set_option linter.unusedVariables false
theorem own:ownKnob Tryz.prog.godebug=none:=by kernel_rfl
theorem D02:laidOutB Tryz.prog=true:=by kernel_rfl
set_option maxRecDepth 100000 in
theorem lifted (os:Os)(started:os.Started)(H:Type)(enc:TypeId×Value→H):
    ReturnsInHanded {} Tryz.checked os 19 .any (Rows.worldKnownSpec.pre6 enc Tryz.prog Tryz.f19 Rows.worldKnownRow.domain false) (Rows.worldKnownSpec.post enc Tryz.prog Tryz.f19 false true false false):=by
  refine returnsInHanded_of_change (C:=Tryz.checked) own started (by kernel_rfl) Tryz.func19
    (ChangeSpec.witness6 (enc:=enc) (C:=Tryz.checked) false ⟨#[],#[],[]⟩ 8 (by kernel_rfl) (by kernel_rfl) (by kernel_rfl) (by kernel_rfl)) ?_
  intro W base args ds gs before hval0 hW hcnd _
  have hval: ∀(j:Nat) t v,Tryz.f19.params[j]? =some t→args[j]? =some v→Value.okWide Tryz.prog W .any base t v:=hval0
  have hW':=hW
  obtain ⟨p,q,hA0,hV,rfl,hfz,hnd⟩:=hW
  have hA:DataW.TrodAll enc Tryz.prog W 0 (fun _=>true) true Tryz.f19.params.toList args.toList ds p:=hA0
  rw [Tryz.params19]at hA hval
  obtain ⟨rfl,rfl,rfl⟩:=trodAll_none hA
  obtain ⟨rfl,rfl⟩:=trodVars_none hV
  clear hA0 hval0
  refine (C7y (vs:= []) (B5i _ (B3e)) rfl ?_).mono fun e W' ⟨he,bel⟩=> ?_
  ·intro i d hi
   match i,hi with
   |i+0,hi=>simp at hi
  ·subst he
   exact ⟨_,rfl,_,_,_,[],_,[],hW',trodAll_mk1 (shut_bool Tryz.underlying4 _),rfl,rfl,bel.frame _,fun h=>by cases h⟩
theorem j0:(mapsRowed Tryz.prog)=true:=by kernel_rfl
theorem j1:(Rows.worldKnownRow.inPlace==Tryz.prog.inPlace 19)=true:=by kernel_rfl
theorem j2:(Rows.worldKnownRow.unfollowed==Tryz.prog.unfollowed 19)=true:=by kernel_rfl
theorem j3:(Rows.worldKnownRow.recurses==Tryz.prog.recurses 19)=true:=by kernel_rfl
theorem j4:(Rows.worldKnownRow.named==Tryz.prog.varsNamed 19)=true:=by kernel_rfl
theorem j5:(Rows.worldKnownRow.plainKeys==Tryz.prog.plainKeys)=true:=by kernel_rfl
theorem j6:(Tryz.prog.stopsHeard)=true:=by kernel_rfl
theorem j7:(Tryz.prog.mayEnter)=true:=by kernel_rfl
theorem j8:(Rows.worldKnownRow.lifted==Tryz.prog.liftsFinal)=true:=by kernel_rfl
theorem j9:(Tryz.prog.make==some Rows.worldKnownRow.make)=true:=by kernel_rfl
theorem j10:(Rows.worldKnownRow.loops==(Tryz.f19.params.toList++Rows.worldKnownSpec.plain.varTypes Tryz.prog).any (Tryz.prog.loopsFrom ·))=true:=by kernel_rfl
theorem C8o:joinedFacts Tryz.prog 19 Tryz.f19 Rows.worldKnownSpec Rows.worldKnownRow=true:=by
  unfold joinedFacts
  simp only [Bool.and_eq_true]
  repeat' apply And.intro
  all_goals first|with_reducible exact D02|with_reducible exact j0|with_reducible exact j1|with_reducible exact j2|with_reducible exact j3|with_reducible exact j4|with_reducible exact j5|with_reducible exact j6|with_reducible exact j7|with_reducible exact j8|with_reducible exact j9|with_reducible exact j10|kernel_rfl
theorem over:Rows.worldKnownRow.holds Tryz.pinned (OpenSpec.ofChange Rows.worldKnownSpec):=
  OpenClaim.holds_of_wide 19 Tryz.f19 rfl rfl rfl rfl rfl rfl rfl ⟨rfl,rfl,rfl,rfl,rfl⟩ rfl rfl rfl rfl rfl (by kernel_rfl) Tryz.func19 C8o
    (of_decide_eq_true (by kernel_rfl)) (by unfold Func.isWrapper;first|(rw [if_pos (by decide+kernel)];kernel_rfl)|(rw [if_neg (by decide+kernel)];exact ⟨rfl,rfl⟩))
    (fun os started H enc _=>lifted os started H enc)
end Go.Proofs.YtgjdiioennhoeaaGreat.worldKnown
namespace Go.Proofs.YtgjdiioennhoeaaGreat
theorem worldKnown_holds:Rows.WorldKnownSaid:=worldKnown.over
end Go.Proofs.YtgjdiioennhoeaaGreat
