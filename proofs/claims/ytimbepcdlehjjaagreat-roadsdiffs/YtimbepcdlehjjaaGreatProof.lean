/-
  Proved: for every input, RoadsDiffs returns true, and its arguments read afterwards as they read before.
  Conditions: none beyond those of the given row.
-/
import Derived.Test.YtimbepcdlehjjaaGreatPlain
import Derived.Test.YtimbepcdlehjjaaGreatRows
import Derived.WalkKit
namespace Go.Abs.Roadsz
open Go Go.Abs Go.Proofs
theorem HF:Rd Tryz.prog 2 A7 G8:=LH Tryz.underlying2
theorem SM:Rd Tryz.prog 3 A7 G8:=LH Tryz.underlying3
theorem TR:Rd Tryz.prog 148 I0 (fun x:Spot=>G8 x.X∧G8 x.Y):=
  Kj (El Tryz.underlying148 (wf:=_) (M1 (n:=1) HF rfl (fun _=>rfl) (M1 (n:=1) HF rfl (fun _=>rfl) If)) (by intro y;kernel_rfl)) I0 (fun x:Spot=>G8 x.X∧G8 x.Y) (fun y=>⟨y.1,y.2.1⟩) (fun _=>rfl) (fun y h=>⟨h.1,h.2.1⟩)
theorem UF:Rd Tryz.prog 37 PF (fun xs:(List Spot)=> ∀a∈xs,(fun x:Spot=>G8 x.X∧G8 x.Y) a):=Hl (sz:=2) Tryz.underlying37 TR (fun _=>rfl) (by decide) (by kernel_rfl)
theorem UG:Rd Tryz.prog 39 LZ (fun x:Curve=>(fun xs:(List Spot)=> ∀a∈xs,(fun x:Spot=>G8 x.X∧G8 x.Y) a) x.Pts):=
  Kj (El Tryz.underlying39 (wf:=_) (M1 (n:=1) UF rfl (fun _=>rfl) If) (by intro y;kernel_rfl)) LZ (fun x:Curve=>(fun xs:(List Spot)=> ∀a∈xs,(fun x:Spot=>G8 x.X∧G8 x.Y) a) x.Pts) (fun y=>⟨y.1⟩) (fun _=>rfl) (fun y h=>h.1)
theorem TS:Rd Tryz.prog 40 FJ (fun xs:(List Int)=> ∀a∈xs,G8 a):=Hl (sz:=1) Tryz.underlying40 SM (fun _=>rfl) (by decide) (by kernel_rfl)
theorem UH:Rd Tryz.prog 42 R8 (fun x:Lane=>G8 x.Kind∧(fun x:Curve=>(fun xs:(List Spot)=> ∀a∈xs,(fun x:Spot=>G8 x.X∧G8 x.Y) a) x.Pts) x.Curve_∧G8 x.Half∧G8 x.Limit∧(fun xs:(List Int)=> ∀a∈xs,G8 a) x.Next):=
  Kj (El Tryz.underlying42 (wf:=_) (M1 (n:=1) SM rfl (fun _=>rfl) (M1 (n:=1) UG rfl (fun _=>rfl) (M1 (n:=1) HF rfl (fun _=>rfl) (M1 (n:=1) HF rfl (fun _=>rfl) (M1 (n:=1) TS rfl (fun _=>rfl) If))))) (by intro y;kernel_rfl)) R8 (fun x:Lane=>G8 x.Kind∧(fun x:Curve=>(fun xs:(List Spot)=> ∀a∈xs,(fun x:Spot=>G8 x.X∧G8 x.Y) a) x.Pts) x.Curve_∧G8 x.Half∧G8 x.Limit∧(fun xs:(List Int)=> ∀a∈xs,G8 a) x.Next) (fun y=>⟨y.1,y.2.1,y.2.2.1,y.2.2.2.1,y.2.2.2.2.1⟩) (fun _=>rfl) (fun y h=>⟨h.1,h.2.1,h.2.2.1,h.2.2.2.1,h.2.2.2.2.1⟩)
theorem UI:Rd Tryz.prog 22 PE (fun xs:(List Lane)=> ∀a∈xs,(fun x:Lane=>G8 x.Kind∧(fun x:Curve=>(fun xs:(List Spot)=> ∀a∈xs,(fun x:Spot=>G8 x.X∧G8 x.Y) a) x.Pts) x.Curve_∧G8 x.Half∧G8 x.Limit∧(fun xs:(List Int)=> ∀a∈xs,G8 a) x.Next) a):=Hl (sz:=5) Tryz.underlying22 UH (fun _=>rfl) (by decide) (by kernel_rfl)
theorem UJ:Rd Tryz.prog 91 G1 (fun x:Part=>G8 x.Lane_∧G8 x.From∧G8 x.To∧G8 x.Rank):=
  Kj (El Tryz.underlying91 (wf:=_) (M1 (n:=1) SM rfl (fun _=>rfl) (M1 (n:=1) HF rfl (fun _=>rfl) (M1 (n:=1) HF rfl (fun _=>rfl) (M1 (n:=1) SM rfl (fun _=>rfl) If)))) (by intro y;kernel_rfl)) G1 (fun x:Part=>G8 x.Lane_∧G8 x.From∧G8 x.To∧G8 x.Rank) (fun y=>⟨y.1,y.2.1,y.2.2.1,y.2.2.2.1⟩) (fun _=>rfl) (fun y h=>⟨h.1,h.2.1,h.2.2.1,h.2.2.2.1⟩)
theorem UK:Rd Tryz.prog 43 PH (fun xs:(List Part)=> ∀a∈xs,(fun x:Part=>G8 x.Lane_∧G8 x.From∧G8 x.To∧G8 x.Rank) a):=Hl (sz:=4) Tryz.underlying43 UJ (fun _=>rfl) (by decide) (by kernel_rfl)
theorem UL:Rd Tryz.prog 45 N8 (fun x:Zone=>(fun xs:(List Part)=> ∀a∈xs,(fun x:Part=>G8 x.Lane_∧G8 x.From∧G8 x.To∧G8 x.Rank) a) x.Parts∧G8 x.Signal_):=
  Kj (El Tryz.underlying45 (wf:=_) (M1 (n:=1) UK rfl (fun _=>rfl) (M1 (n:=1) SM rfl (fun _=>rfl) If)) (by intro y;kernel_rfl)) N8 (fun x:Zone=>(fun xs:(List Part)=> ∀a∈xs,(fun x:Part=>G8 x.Lane_∧G8 x.From∧G8 x.To∧G8 x.Rank) a) x.Parts∧G8 x.Signal_) (fun y=>⟨y.1,y.2.1⟩) (fun _=>rfl) (fun y h=>⟨h.1,h.2.1⟩)
theorem UM:Rd Tryz.prog 23 PG (fun xs:(List Zone)=> ∀a∈xs,(fun x:Zone=>(fun xs:(List Part)=> ∀a∈xs,(fun x:Part=>G8 x.Lane_∧G8 x.From∧G8 x.To∧G8 x.Rank) a) x.Parts∧G8 x.Signal_) a):=Hl (sz:=2) Tryz.underlying23 UL (fun _=>rfl) (by decide) (by kernel_rfl)
theorem UN:Rd Tryz.prog 97 G3 (fun x:Phase=>G8 x.Ticks∧(fun xs:(List Int)=> ∀a∈xs,G8 a) x.Green):=
  Kj (El Tryz.underlying97 (wf:=_) (M1 (n:=1) HF rfl (fun _=>rfl) (M1 (n:=1) TS rfl (fun _=>rfl) If)) (by intro y;kernel_rfl)) G3 (fun x:Phase=>G8 x.Ticks∧(fun xs:(List Int)=> ∀a∈xs,G8 a) x.Green) (fun y=>⟨y.1,y.2.1⟩) (fun _=>rfl) (fun y h=>⟨h.1,h.2.1⟩)
theorem UO:Rd Tryz.prog 46 MA (fun xs:(List Phase)=> ∀a∈xs,(fun x:Phase=>G8 x.Ticks∧(fun xs:(List Int)=> ∀a∈xs,G8 a) x.Green) a):=Hl (sz:=2) Tryz.underlying46 UN (fun _=>rfl) (by decide) (by kernel_rfl)
theorem UP:Rd Tryz.prog 48 U8 (fun x:Signal=>G8 x.Offset∧(fun xs:(List Phase)=> ∀a∈xs,(fun x:Phase=>G8 x.Ticks∧(fun xs:(List Int)=> ∀a∈xs,G8 a) x.Green) a) x.Phases):=
  Kj (El Tryz.underlying48 (wf:=_) (M1 (n:=1) HF rfl (fun _=>rfl) (M1 (n:=1) UO rfl (fun _=>rfl) If)) (by intro y;kernel_rfl)) U8 (fun x:Signal=>G8 x.Offset∧(fun xs:(List Phase)=> ∀a∈xs,(fun x:Phase=>G8 x.Ticks∧(fun xs:(List Int)=> ∀a∈xs,G8 a) x.Green) a) x.Phases) (fun y=>⟨y.1,y.2.1⟩) (fun _=>rfl) (fun y h=>⟨h.1,h.2.1⟩)
theorem UQ:Rd Tryz.prog 24 IH (fun xs:(List Signal)=> ∀a∈xs,(fun x:Signal=>G8 x.Offset∧(fun xs:(List Phase)=> ∀a∈xs,(fun x:Phase=>G8 x.Ticks∧(fun xs:(List Int)=> ∀a∈xs,G8 a) x.Green) a) x.Phases) a):=Hl (sz:=2) Tryz.underlying24 UP (fun _=>rfl) (by decide) (by kernel_rfl)
theorem UR:Rd Tryz.prog 50 By (fun x:Work=>G8 x.Lane_∧G8 x.From∧G8 x.To∧G8 x.Begin∧G8 x.End∧G8 x.Limit):=
  Kj (El Tryz.underlying50 (wf:=_) (M1 (n:=1) SM rfl (fun _=>rfl) (M1 (n:=1) HF rfl (fun _=>rfl) (M1 (n:=1) HF rfl (fun _=>rfl) (M1 (n:=1) HF rfl (fun _=>rfl) (M1 (n:=1) HF rfl (fun _=>rfl) (M1 (n:=1) HF rfl (fun _=>rfl) If)))))) (by intro y;kernel_rfl)) By (fun x:Work=>G8 x.Lane_∧G8 x.From∧G8 x.To∧G8 x.Begin∧G8 x.End∧G8 x.Limit) (fun y=>⟨y.1,y.2.1,y.2.2.1,y.2.2.2.1,y.2.2.2.2.1,y.2.2.2.2.2.1⟩) (fun _=>rfl) (fun y h=>⟨h.1,h.2.1,h.2.2.1,h.2.2.2.1,h.2.2.2.2.1,h.2.2.2.2.2.1⟩)
theorem US:Rd Tryz.prog 25 PI (fun xs:(List Work)=> ∀a∈xs,(fun x:Work=>G8 x.Lane_∧G8 x.From∧G8 x.To∧G8 x.Begin∧G8 x.End∧G8 x.Limit) a):=Hl (sz:=6) Tryz.underlying25 UR (fun _=>rfl) (by decide) (by kernel_rfl)
theorem TT:Rd Tryz.prog 27 O1 (fun x:Map=>G8 x.Version∧(fun xs:(List Lane)=> ∀a∈xs,(fun x:Lane=>G8 x.Kind∧(fun x:Curve=>(fun xs:(List Spot)=> ∀a∈xs,(fun x:Spot=>G8 x.X∧G8 x.Y) a) x.Pts) x.Curve_∧G8 x.Half∧G8 x.Limit∧(fun xs:(List Int)=> ∀a∈xs,G8 a) x.Next) a) x.Lanes∧(fun xs:(List Zone)=> ∀a∈xs,(fun x:Zone=>(fun xs:(List Part)=> ∀a∈xs,(fun x:Part=>G8 x.Lane_∧G8 x.From∧G8 x.To∧G8 x.Rank) a) x.Parts∧G8 x.Signal_) a) x.Zones∧(fun xs:(List Signal)=> ∀a∈xs,(fun x:Signal=>G8 x.Offset∧(fun xs:(List Phase)=> ∀a∈xs,(fun x:Phase=>G8 x.Ticks∧(fun xs:(List Int)=> ∀a∈xs,G8 a) x.Green) a) x.Phases) a) x.Signals∧(fun xs:(List Work)=> ∀a∈xs,(fun x:Work=>G8 x.Lane_∧G8 x.From∧G8 x.To∧G8 x.Begin∧G8 x.End∧G8 x.Limit) a) x.Works):=
  Kj (El Tryz.underlying27 (wf:=_) (M1 (n:=1) HF rfl (fun _=>rfl) (M1 (n:=1) UI rfl (fun _=>rfl) (M1 (n:=1) UM rfl (fun _=>rfl) (M1 (n:=1) UQ rfl (fun _=>rfl) (M1 (n:=1) US rfl (fun _=>rfl) If))))) (by intro y;kernel_rfl)) O1 (fun x:Map=>G8 x.Version∧(fun xs:(List Lane)=> ∀a∈xs,(fun x:Lane=>G8 x.Kind∧(fun x:Curve=>(fun xs:(List Spot)=> ∀a∈xs,(fun x:Spot=>G8 x.X∧G8 x.Y) a) x.Pts) x.Curve_∧G8 x.Half∧G8 x.Limit∧(fun xs:(List Int)=> ∀a∈xs,G8 a) x.Next) a) x.Lanes∧(fun xs:(List Zone)=> ∀a∈xs,(fun x:Zone=>(fun xs:(List Part)=> ∀a∈xs,(fun x:Part=>G8 x.Lane_∧G8 x.From∧G8 x.To∧G8 x.Rank) a) x.Parts∧G8 x.Signal_) a) x.Zones∧(fun xs:(List Signal)=> ∀a∈xs,(fun x:Signal=>G8 x.Offset∧(fun xs:(List Phase)=> ∀a∈xs,(fun x:Phase=>G8 x.Ticks∧(fun xs:(List Int)=> ∀a∈xs,G8 a) x.Green) a) x.Phases) a) x.Signals∧(fun xs:(List Work)=> ∀a∈xs,(fun x:Work=>G8 x.Lane_∧G8 x.From∧G8 x.To∧G8 x.Begin∧G8 x.End∧G8 x.Limit) a) x.Works) (fun y=>⟨y.1,y.2.1,y.2.2.1,y.2.2.2.1,y.2.2.2.2.1⟩) (fun _=>rfl) (fun y h=>⟨h.1,h.2.1,h.2.2.1,h.2.2.2.1,h.2.2.2.2.1⟩)
end Go.Abs.Roadsz
namespace Go.Proofs.YtimbepcdlehjjaaGreat.roadsDiffs
open Go.ChangeShapes Go.WideShapes Go.ChangeAt Go.RowKit Go.Abs Go.Abs.Roadsz
set_option linter.unusedVariables false
theorem own:ownKnob Tryz.prog.godebug=none:=by kernel_rfl
theorem AX:laidOutB Tryz.prog=true:=by kernel_rfl
set_option maxRecDepth 100000 in
theorem lifted (os:Os)(started:os.Started)(H:Type)(enc:TypeId×Value→H):
    ReturnsInHanded {} Tryz.checked os 5 .any (Rows.roadsDiffsSpec.pre6 enc Tryz.prog Tryz.f5 Rows.roadsDiffsRow.domain false) (Rows.roadsDiffsSpec.post enc Tryz.prog Tryz.f5 false true false false):=by
  refine returnsInHanded_of_change (C:=Tryz.checked) own started (by kernel_rfl) Tryz.func5
    (ChangeSpec.witness6 (enc:=enc) (C:=Tryz.checked) false ⟨#[],#[.agg #[.int .i64 0, .slice none 0 0, .slice none 0 0, .slice none 0 0, .slice none 0 0], .agg #[.int .i64 0, .slice none 0 0, .slice none 0 0, .slice none 0 0, .slice none 0 0]],[]⟩ 8 (by kernel_rfl) (by kernel_rfl) (by kernel_rfl) (by kernel_rfl)) ?_
  intro W base args ds gs before hval0 hW hcnd _
  have hval: ∀(j:Nat) t v,Tryz.f5.params[j]? =some t→args[j]? =some v→Value.okWide Tryz.prog W .any base t v:=hval0
  have hW':=hW
  obtain ⟨p,q,hA0,hV,rfl,hfz,hnd⟩:=hW
  have hA:DataW.TrodAll enc Tryz.prog W 0 (fun _=>true) true Tryz.f5.params.toList args.toList ds p:=hA0
  rw [Tryz.params5]at hA hval
  obtain ⟨v0,vs0,d0,ds0,p0,q0,hargs,rfl,rfl,h0,r0⟩:=trodAll_cons hA
  obtain ⟨v1,vs1,d1,ds1,p1,q1,rfl,rfl,rfl,h1,r1⟩:=trodAll_cons r0
  obtain ⟨rfl,rfl,rfl⟩:=trodAll_nil r1
  obtain rfl:args= #[v0,v1]:=by cases args;simp_all
  obtain ⟨rfl,rfl⟩:=trodVars_none hV
  have k0:=h0
  have lt0: ∀x∈p0,x.block<W.heap.size:=by obtain ⟨m,hm⟩:=k0;exact DataW.trod_lt m _ _ _ hm
  obtain ⟨a0,w0,e0⟩:=GP TT Tryz.underlying27 (hval 0 27 v0 rfl rfl) h0
  have k1:=h1
  have lt1: ∀x∈p1,x.block<W.heap.size:=by obtain ⟨m,hm⟩:=k1;exact DataW.trod_lt m _ _ _ hm
  obtain ⟨a1,w1,e1⟩:=GP TT Tryz.underlying27 (hval 1 27 v1 rfl rfl) h1
  clear hA0 hval0
  refine (LG (vs:= [v0,v1]) (Ok a0 a1 _ (Ma a0 a1)) rfl ?_).mono fun e W' ⟨he,bel⟩=> ?_
  ·intro i d hi
   match i,hi with
   |0,hi=>cases hi;exact e0
   |1,hi=>cases hi;exact e1
   |i+2,hi=>simp at hi
  ·subst he
   exact ⟨_,rfl,_,_,_,[],_,[],hW',trodAll_mk1 (shut_bool Tryz.underlying4 _),(trodAll_cons_mk (Below.trod AX (by kernel_rfl) (of_decide_eq_true (by kernel_rfl)) k0 bel lt0) (trodAll_cons_mk (Below.trod AX (by kernel_rfl) (of_decide_eq_true (by kernel_rfl)) k1 bel lt1) trodAll_mk0)),rfl,bel.frame _,fun h=>by cases h⟩
theorem j0:(mapsRowed Tryz.prog)=true:=by kernel_rfl
theorem j1:(Rows.roadsDiffsRow.inPlace==Tryz.prog.inPlace 5)=true:=by kernel_rfl
theorem j2:(Rows.roadsDiffsRow.unfollowed==Tryz.prog.unfollowed 5)=true:=by kernel_rfl
theorem j3:(Rows.roadsDiffsRow.recurses==Tryz.prog.recurses 5)=true:=by kernel_rfl
theorem j4:(Rows.roadsDiffsRow.named==Tryz.prog.varsNamed 5)=true:=by kernel_rfl
theorem j5:(Rows.roadsDiffsRow.plainKeys==Tryz.prog.plainKeys)=true:=by kernel_rfl
theorem j6:(Tryz.prog.stopsHeard)=true:=by kernel_rfl
theorem j7:(Tryz.prog.mayEnter)=true:=by kernel_rfl
theorem j8:(Rows.roadsDiffsRow.lifted==Tryz.prog.liftsFinal)=true:=by kernel_rfl
theorem j9:(Tryz.prog.make==some Rows.roadsDiffsRow.make)=true:=by kernel_rfl
theorem VR:(Rows.roadsDiffsRow.loops==(Tryz.f5.params.toList++Rows.roadsDiffsSpec.plain.varTypes Tryz.prog).any (Tryz.prog.loopsFrom ·))=true:=by kernel_rfl
theorem SI:joinedFacts Tryz.prog 5 Tryz.f5 Rows.roadsDiffsSpec Rows.roadsDiffsRow=true:=by
  unfold joinedFacts
  simp only [bC]
  repeat' apply And.intro
  all_goals first|with_reducible exact AX|with_reducible exact j0|with_reducible exact j1|with_reducible exact j2|with_reducible exact j3|with_reducible exact j4|with_reducible exact j5|with_reducible exact j6|with_reducible exact j7|with_reducible exact j8|with_reducible exact j9|with_reducible exact VR|kernel_rfl
theorem over:Rows.roadsDiffsRow.holds Tryz.pinned (OpenSpec.ofChange Rows.roadsDiffsSpec):=
  OpenClaim.holds_of_wide 5 Tryz.f5 rfl rfl rfl rfl rfl rfl rfl ⟨rfl,rfl,rfl,rfl,rfl⟩ rfl rfl rfl rfl rfl (by kernel_rfl) Tryz.func5 SI
    (of_decide_eq_true (by kernel_rfl)) (by unfold Func.isWrapper;first|(rw [l9 (by decide+kernel)];kernel_rfl)|(rw [bA (by decide+kernel)];exact ⟨rfl,rfl⟩))
    (fun os started H enc _=>lifted os started H enc)
end Go.Proofs.YtimbepcdlehjjaaGreat.roadsDiffs
namespace Go.Proofs.YtimbepcdlehjjaaGreat
theorem roadsDiffs_holds:Rows.RoadsDiffsSaid:=roadsDiffs.over
end Go.Proofs.YtimbepcdlehjjaaGreat
