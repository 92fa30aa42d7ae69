/-
  Proved: for every input, RoadsClashes returns true, and its arguments read afterwards as they read before.
  Conditions: none beyond those of the given row.
-/
import Derived.Test.YtimbepcdlehjjaaGreatPlainB
import Derived.Test.YtimbepcdlehjjaaGreatRows
import Derived.WalkKit
namespace Go.Abs.Roadsz
open Go Go.Abs Go.Proofs
theorem LR:Rd Tryz.prog 2 A8 I5:=QB Tryz.underlying2
theorem XM:Rd Tryz.prog 3 A8 I5:=QB Tryz.underlying3
theorem YO:Rd Tryz.prog 148 M0 (fun x:Spot=>I5 x.X∧I5 x.Y):=
  Ni (Gx Tryz.underlying148 (wf:=_) (O3 (n:=1) LR rfl (fun _=>rfl) (O3 (n:=1) LR rfl (fun _=>rfl) Kz)) (by intro y;kernel_rfl)) M0 (fun x:Spot=>I5 x.X∧I5 x.Y) (fun y=>⟨y.1,y.2.1⟩) (fun _=>rfl) (fun y h=>⟨h.1,h.2.1⟩)
theorem ZG:Rd Tryz.prog 37 UH (fun xs:(List Spot)=> ∀a∈xs,(fun x:Spot=>I5 x.X∧I5 x.Y) a):=Kh (sz:=2) Tryz.underlying37 YO (fun _=>rfl) (by decide) (by kernel_rfl)
theorem ZH:Rd Tryz.prog 39 QQ (fun x:Curve=>(fun xs:(List Spot)=> ∀a∈xs,(fun x:Spot=>I5 x.X∧I5 x.Y) a) x.Pts):=
  Ni (Gx Tryz.underlying39 (wf:=_) (O3 (n:=1) ZG rfl (fun _=>rfl) Kz) (by intro y;kernel_rfl)) QQ (fun x:Curve=>(fun xs:(List Spot)=> ∀a∈xs,(fun x:Spot=>I5 x.X∧I5 x.Y) a) x.Pts) (fun y=>⟨y.1⟩) (fun _=>rfl) (fun y h=>h.1)
theorem YP:Rd Tryz.prog 40 JX (fun xs:(List Int)=> ∀a∈xs,I5 a):=Kh (sz:=1) Tryz.underlying40 XM (fun _=>rfl) (by decide) (by kernel_rfl)
theorem ZI:Rd Tryz.prog 42 Dg (fun x:Lane=>I5 x.Kind∧(fun x:Curve=>(fun xs:(List Spot)=> ∀a∈xs,(fun x:Spot=>I5 x.X∧I5 x.Y) a) x.Pts) x.Curve_∧I5 x.Half∧I5 x.Limit∧(fun xs:(List Int)=> ∀a∈xs,I5 a) x.Next):=
  Ni (Gx Tryz.underlying42 (wf:=_) (O3 (n:=1) XM rfl (fun _=>rfl) (O3 (n:=1) ZH rfl (fun _=>rfl) (O3 (n:=1) LR rfl (fun _=>rfl) (O3 (n:=1) LR rfl (fun _=>rfl) (O3 (n:=1) YP rfl (fun _=>rfl) Kz))))) (by intro y;kernel_rfl)) Dg (fun x:Lane=>I5 x.Kind∧(fun x:Curve=>(fun xs:(List Spot)=> ∀a∈xs,(fun x:Spot=>I5 x.X∧I5 x.Y) a) x.Pts) x.Curve_∧I5 x.Half∧I5 x.Limit∧(fun xs:(List Int)=> ∀a∈xs,I5 a) x.Next) (fun y=>⟨y.1,y.2.1,y.2.2.1,y.2.2.2.1,y.2.2.2.2.1⟩) (fun _=>rfl) (fun y h=>⟨h.1,h.2.1,h.2.2.1,h.2.2.2.1,h.2.2.2.2.1⟩)
theorem ZJ:Rd Tryz.prog 22 UG (fun xs:(List Lane)=> ∀a∈xs,(fun x:Lane=>I5 x.Kind∧(fun x:Curve=>(fun xs:(List Spot)=> ∀a∈xs,(fun x:Spot=>I5 x.X∧I5 x.Y) a) x.Pts) x.Curve_∧I5 x.Half∧I5 x.Limit∧(fun xs:(List Int)=> ∀a∈xs,I5 a) x.Next) a):=Kh (sz:=5) Tryz.underlying22 ZI (fun _=>rfl) (by decide) (by kernel_rfl)
theorem ZK:Rd Tryz.prog 91 H9 (fun x:Part=>I5 x.Lane_∧I5 x.From∧I5 x.To∧I5 x.Rank):=
  Ni (Gx Tryz.underlying91 (wf:=_) (O3 (n:=1) XM rfl (fun _=>rfl) (O3 (n:=1) LR rfl (fun _=>rfl) (O3 (n:=1) LR rfl (fun _=>rfl) (O3 (n:=1) XM rfl (fun _=>rfl) Kz)))) (by intro y;kernel_rfl)) H9 (fun x:Part=>I5 x.Lane_∧I5 x.From∧I5 x.To∧I5 x.Rank) (fun y=>⟨y.1,y.2.1,y.2.2.1,y.2.2.2.1⟩) (fun _=>rfl) (fun y h=>⟨h.1,h.2.1,h.2.2.1,h.2.2.2.1⟩)
theorem ZL:Rd Tryz.prog 43 UJ (fun xs:(List Part)=> ∀a∈xs,(fun x:Part=>I5 x.Lane_∧I5 x.From∧I5 x.To∧I5 x.Rank) a):=Kh (sz:=4) Tryz.underlying43 ZK (fun _=>rfl) (by decide) (by kernel_rfl)
theorem ZM:Rd Tryz.prog 45 Q9 (fun x:Zone=>(fun xs:(List Part)=> ∀a∈xs,(fun x:Part=>I5 x.Lane_∧I5 x.From∧I5 x.To∧I5 x.Rank) a) x.Parts∧I5 x.Signal_):=
  Ni (Gx Tryz.underlying45 (wf:=_) (O3 (n:=1) ZL rfl (fun _=>rfl) (O3 (n:=1) XM rfl (fun _=>rfl) Kz)) (by intro y;kernel_rfl)) Q9 (fun x:Zone=>(fun xs:(List Part)=> ∀a∈xs,(fun x:Part=>I5 x.Lane_∧I5 x.From∧I5 x.To∧I5 x.Rank) a) x.Parts∧I5 x.Signal_) (fun y=>⟨y.1,y.2.1⟩) (fun _=>rfl) (fun y h=>⟨h.1,h.2.1⟩)
theorem ZN:Rd Tryz.prog 23 UI (fun xs:(List Zone)=> ∀a∈xs,(fun x:Zone=>(fun xs:(List Part)=> ∀a∈xs,(fun x:Part=>I5 x.Lane_∧I5 x.From∧I5 x.To∧I5 x.Rank) a) x.Parts∧I5 x.Signal_) a):=Kh (sz:=2) Tryz.underlying23 ZM (fun _=>rfl) (by decide) (by kernel_rfl)
theorem ZO:Rd Tryz.prog 97 By (fun x:Phase=>I5 x.Ticks∧(fun xs:(List Int)=> ∀a∈xs,I5 a) x.Green):=
  Ni (Gx Tryz.underlying97 (wf:=_) (O3 (n:=1) LR rfl (fun _=>rfl) (O3 (n:=1) YP rfl (fun _=>rfl) Kz)) (by intro y;kernel_rfl)) By (fun x:Phase=>I5 x.Ticks∧(fun xs:(List Int)=> ∀a∈xs,I5 a) x.Green) (fun y=>⟨y.1,y.2.1⟩) (fun _=>rfl) (fun y h=>⟨h.1,h.2.1⟩)
theorem ZP:Rd Tryz.prog 46 QR (fun xs:(List Phase)=> ∀a∈xs,(fun x:Phase=>I5 x.Ticks∧(fun xs:(List Int)=> ∀a∈xs,I5 a) x.Green) a):=Kh (sz:=2) Tryz.underlying46 ZO (fun _=>rfl) (by decide) (by kernel_rfl)
theorem ZQ:Rd Tryz.prog 48 La (fun x:Signal=>I5 x.Offset∧(fun xs:(List Phase)=> ∀a∈xs,(fun x:Phase=>I5 x.Ticks∧(fun xs:(List Int)=> ∀a∈xs,I5 a) x.Green) a) x.Phases):=
  Ni (Gx Tryz.underlying48 (wf:=_) (O3 (n:=1) LR rfl (fun _=>rfl) (O3 (n:=1) ZP rfl (fun _=>rfl) Kz)) (by intro y;kernel_rfl)) La (fun x:Signal=>I5 x.Offset∧(fun xs:(List Phase)=> ∀a∈xs,(fun x:Phase=>I5 x.Ticks∧(fun xs:(List Int)=> ∀a∈xs,I5 a) x.Green) a) x.Phases) (fun y=>⟨y.1,y.2.1⟩) (fun _=>rfl) (fun y h=>⟨h.1,h.2.1⟩)
theorem ZR:Rd Tryz.prog 24 MW (fun xs:(List Signal)=> ∀a∈xs,(fun x:Signal=>I5 x.Offset∧(fun xs:(List Phase)=> ∀a∈xs,(fun x:Phase=>I5 x.Ticks∧(fun xs:(List Int)=> ∀a∈xs,I5 a) x.Green) a) x.Phases) a):=Kh (sz:=2) Tryz.underlying24 ZQ (fun _=>rfl) (by decide) (by kernel_rfl)
theorem ZS:Rd Tryz.prog 50 Qs (fun x:Work=>I5 x.Lane_∧I5 x.From∧I5 x.To∧I5 x.Begin∧I5 x.End∧I5 x.Limit):=
  Ni (Gx Tryz.underlying50 (wf:=_) (O3 (n:=1) XM rfl (fun _=>rfl) (O3 (n:=1) LR rfl (fun _=>rfl) (O3 (n:=1) LR rfl (fun _=>rfl) (O3 (n:=1) LR rfl (fun _=>rfl) (O3 (n:=1) LR rfl (fun _=>rfl) (O3 (n:=1) LR rfl (fun _=>rfl) Kz)))))) (by intro y;kernel_rfl)) Qs (fun x:Work=>I5 x.Lane_∧I5 x.From∧I5 x.To∧I5 x.Begin∧I5 x.End∧I5 x.Limit) (fun y=>⟨y.1,y.2.1,y.2.2.1,y.2.2.2.1,y.2.2.2.2.1,y.2.2.2.2.2.1⟩) (fun _=>rfl) (fun y h=>⟨h.1,h.2.1,h.2.2.1,h.2.2.2.1,h.2.2.2.2.1,h.2.2.2.2.2.1⟩)
theorem ZT:Rd Tryz.prog 25 UK (fun xs:(List Work)=> ∀a∈xs,(fun x:Work=>I5 x.Lane_∧I5 x.From∧I5 x.To∧I5 x.Begin∧I5 x.End∧I5 x.Limit) a):=Kh (sz:=6) Tryz.underlying25 ZS (fun _=>rfl) (by decide) (by kernel_rfl)
theorem ZU:Rd Tryz.prog 27 L8 (fun x:Map=>I5 x.Version∧(fun xs:(List Lane)=> ∀a∈xs,(fun x:Lane=>I5 x.Kind∧(fun x:Curve=>(fun xs:(List Spot)=> ∀a∈xs,(fun x:Spot=>I5 x.X∧I5 x.Y) a) x.Pts) x.Curve_∧I5 x.Half∧I5 x.Limit∧(fun xs:(List Int)=> ∀a∈xs,I5 a) x.Next) a) x.Lanes∧(fun xs:(List Zone)=> ∀a∈xs,(fun x:Zone=>(fun xs:(List Part)=> ∀a∈xs,(fun x:Part=>I5 x.Lane_∧I5 x.From∧I5 x.To∧I5 x.Rank) a) x.Parts∧I5 x.Signal_) a) x.Zones∧(fun xs:(List Signal)=> ∀a∈xs,(fun x:Signal=>I5 x.Offset∧(fun xs:(List Phase)=> ∀a∈xs,(fun x:Phase=>I5 x.Ticks∧(fun xs:(List Int)=> ∀a∈xs,I5 a) x.Green) a) x.Phases) a) x.Signals∧(fun xs:(List Work)=> ∀a∈xs,(fun x:Work=>I5 x.Lane_∧I5 x.From∧I5 x.To∧I5 x.Begin∧I5 x.End∧I5 x.Limit) a) x.Works):=
  Ni (Gx Tryz.underlying27 (wf:=_) (O3 (n:=1) LR rfl (fun _=>rfl) (O3 (n:=1) ZJ rfl (fun _=>rfl) (O3 (n:=1) ZN rfl (fun _=>rfl) (O3 (n:=1) ZR rfl (fun _=>rfl) (O3 (n:=1) ZT rfl (fun _=>rfl) Kz))))) (by intro y;kernel_rfl)) L8 (fun x:Map=>I5 x.Version∧(fun xs:(List Lane)=> ∀a∈xs,(fun x:Lane=>I5 x.Kind∧(fun x:Curve=>(fun xs:(List Spot)=> ∀a∈xs,(fun x:Spot=>I5 x.X∧I5 x.Y) a) x.Pts) x.Curve_∧I5 x.Half∧I5 x.Limit∧(fun xs:(List Int)=> ∀a∈xs,I5 a) x.Next) a) x.Lanes∧(fun xs:(List Zone)=> ∀a∈xs,(fun x:Zone=>(fun xs:(List Part)=> ∀a∈xs,(fun x:Part=>I5 x.Lane_∧I5 x.From∧I5 x.To∧I5 x.Rank) a) x.Parts∧I5 x.Signal_) a) x.Zones∧(fun xs:(List Signal)=> ∀a∈xs,(fun x:Signal=>I5 x.Offset∧(fun xs:(List Phase)=> ∀a∈xs,(fun x:Phase=>I5 x.Ticks∧(fun xs:(List Int)=> ∀a∈xs,I5 a) x.Green) a) x.Phases) a) x.Signals∧(fun xs:(List Work)=> ∀a∈xs,(fun x:Work=>I5 x.Lane_∧I5 x.From∧I5 x.To∧I5 x.Begin∧I5 x.End∧I5 x.Limit) a) x.Works) (fun y=>⟨y.1,y.2.1,y.2.2.1,y.2.2.2.1,y.2.2.2.2.1⟩) (fun _=>rfl) (fun y h=>⟨h.1,h.2.1,h.2.2.1,h.2.2.2.1,h.2.2.2.2.1⟩)
end Go.Abs.Roadsz
namespace Go.Proofs.YtimbepcdlehjjaaGreat.roadsClashes
open Go.ChangeShapes Go.WideShapes Go.ChangeAt Go.RowKit Go.Abs Go.Abs.Roadsz
set_option linter.unusedVariables false
theorem own:ownKnob Tryz.prog.godebug=none:=by kernel_rfl
theorem LS:laidOutB Tryz.prog=true:=by kernel_rfl
set_option maxRecDepth 100000 in
theorem lifted (os:Os)(started:os.Started)(H:Type)(enc:TypeId×Value→H):
    ReturnsInHanded {} Tryz.checked os 6 .any (Rows.roadsClashesSpec.pre6 enc Tryz.prog Tryz.f6 Rows.roadsClashesRow.domain false) (Rows.roadsClashesSpec.post enc Tryz.prog Tryz.f6 false true false false):=by
  refine returnsInHanded_of_change (C:=Tryz.checked) own started (by kernel_rfl) Tryz.func6
    (ChangeSpec.witness6 (enc:=enc) (C:=Tryz.checked) false ⟨#[],#[.agg #[.int .i64 0, .slice none 0 0, .slice none 0 0, .slice none 0 0, .slice none 0 0]],[]⟩ 8 (by kernel_rfl) (by kernel_rfl) (by kernel_rfl) (by kernel_rfl)) ?_
  intro W base args ds gs before hval0 hW hcnd _
  have hval: ∀(j:Nat) t v,Tryz.f6.params[j]? =some t→args[j]? =some v→Value.okWide Tryz.prog W .any base t v:=hval0
  have hW':=hW
  obtain ⟨p,q,hA0,hV,rfl,hfz,hnd⟩:=hW
  have hA:DataW.TrodAll enc Tryz.prog W 0 (fun _=>true) true Tryz.f6.params.toList args.toList ds p:=hA0
  rw [Tryz.params6]at hA hval
  obtain ⟨v0,vs0,d0,ds0,p0,q0,hargs,rfl,rfl,h0,r0⟩:=trodAll_cons hA
  obtain ⟨rfl,rfl,rfl⟩:=trodAll_nil r0
  obtain rfl:args= #[v0]:=by cases args;simp_all
  obtain ⟨rfl,rfl⟩:=trodVars_none hV
  have k0:=h0
  have lt0: ∀x∈p0,x.block<W.heap.size:=by obtain ⟨m,hm⟩:=k0;exact DataW.trod_lt m _ _ _ hm
  obtain ⟨a0,w0,e0⟩:=TU ZU Tryz.underlying27 (hval 0 27 v0 rfl rfl) h0
  clear hA0 hval0
  refine (QA (vs:= [v0]) (Px a0 _ (Nq a0)) rfl ?_).mono fun e W' ⟨he,bel⟩=> ?_
  ·intro i d hi
   match i,hi with
   |0,hi=>cases hi;exact e0
   |i+1,hi=>simp at hi
  ·subst he
   exact ⟨_,rfl,_,_,_,[],_,[],hW',trodAll_mk1 (shut_bool Tryz.underlying4 _),(trodAll_cons_mk (Below.trod LS (by kernel_rfl) (of_decide_eq_true (by kernel_rfl)) k0 bel lt0) trodAll_mk0),rfl,bel.frame _,fun h=>by cases h⟩
theorem j0:(mapsRowed Tryz.prog)=true:=by kernel_rfl
theorem j1:(Rows.roadsClashesRow.inPlace==Tryz.prog.inPlace 6)=true:=by kernel_rfl
theorem j2:(Rows.roadsClashesRow.unfollowed==Tryz.prog.unfollowed 6)=true:=by kernel_rfl
theorem j3:(Rows.roadsClashesRow.recurses==Tryz.prog.recurses 6)=true:=by kernel_rfl
theorem j4:(Rows.roadsClashesRow.named==Tryz.prog.varsNamed 6)=true:=by kernel_rfl
theorem j5:(Rows.roadsClashesRow.plainKeys==Tryz.prog.plainKeys)=true:=by kernel_rfl
theorem j6:(Tryz.prog.stopsHeard)=true:=by kernel_rfl
theorem j7:(Tryz.prog.mayEnter)=true:=by kernel_rfl
theorem j8:(Rows.roadsClashesRow.lifted==Tryz.prog.liftsFinal)=true:=by kernel_rfl
theorem j9:(Tryz.prog.make==some Rows.roadsClashesRow.make)=true:=by kernel_rfl
theorem aR:(Rows.roadsClashesRow.loops==(Tryz.f6.params.toList++Rows.roadsClashesSpec.plain.varTypes Tryz.prog).any (Tryz.prog.loopsFrom ·))=true:=by kernel_rfl
theorem XH:joinedFacts Tryz.prog 6 Tryz.f6 Rows.roadsClashesSpec Rows.roadsClashesRow=true:=by
  unfold joinedFacts
  simp only [bD]
  repeat' apply And.intro
  all_goals first|with_reducible exact LS|with_reducible exact j0|with_reducible exact j1|with_reducible exact j2|with_reducible exact j3|with_reducible exact j4|with_reducible exact j5|with_reducible exact j6|with_reducible exact j7|with_reducible exact j8|with_reducible exact j9|with_reducible exact aR|kernel_rfl
theorem over:Rows.roadsClashesRow.holds Tryz.pinned (OpenSpec.ofChange Rows.roadsClashesSpec):=
  OpenClaim.holds_of_wide 6 Tryz.f6 rfl rfl rfl rfl rfl rfl rfl ⟨rfl,rfl,rfl,rfl,rfl⟩ rfl rfl rfl rfl rfl (by kernel_rfl) Tryz.func6 XH
    (of_decide_eq_true (by kernel_rfl)) (by unfold Func.isWrapper;first|(rw [bA (by decide+kernel)];kernel_rfl)|(rw [bB (by decide+kernel)];exact ⟨rfl,rfl⟩))
    (fun os started H enc _=>lifted os started H enc)
end Go.Proofs.YtimbepcdlehjjaaGreat.roadsClashes
namespace Go.Proofs.YtimbepcdlehjjaaGreat
theorem roadsClashes_holds:Rows.RoadsClashesSaid:=roadsClashes.over
end Go.Proofs.YtimbepcdlehjjaaGreat
