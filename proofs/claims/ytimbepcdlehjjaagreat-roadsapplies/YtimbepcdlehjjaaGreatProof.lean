/-
  Proved: for every input, RoadsApplies returns true, and its arguments read afterwards as they read before.
  Conditions: none beyond those of the given row.
-/
import Derived.Test.YtimbepcdlehjjaaGreatPlain
import Derived.Test.YtimbepcdlehjjaaGreatRows
import Derived.WalkKit
namespace Go.Abs.Roadsz
open Go Go.Abs Go.Proofs
theorem GG:Rd Tryz.prog 2 A9 C1:=LA Tryz.underlying2
theorem PJ:Rd Tryz.prog 3 A9 C1:=LA Tryz.underlying3
theorem SQ:Rd Tryz.prog 148 J6 (fun x:Spot=>C1 x.X∧C1 x.Y):=
  Ii (Bp Tryz.underlying148 (wf:=_) (I4 (n:=1) GG rfl (fun _=>rfl) (I4 (n:=1) GG rfl (fun _=>rfl) Gl)) (by intro y;kernel_rfl)) J6 (fun x:Spot=>C1 x.X∧C1 x.Y) (fun y=>⟨y.1,y.2.1⟩) (fun _=>rfl) (fun y h=>⟨h.1,h.2.1⟩)
theorem TG:Rd Tryz.prog 37 OZ (fun xs:(List Spot)=> ∀a∈xs,(fun x:Spot=>C1 x.X∧C1 x.Y) a):=Gm (sz:=2) Tryz.underlying37 SQ (fun _=>rfl) (by decide) (by kernel_rfl)
theorem TH:Rd Tryz.prog 39 LQ (fun x:Curve=>(fun xs:(List Spot)=> ∀a∈xs,(fun x:Spot=>C1 x.X∧C1 x.Y) a) x.Pts):=
  Ii (Bp Tryz.underlying39 (wf:=_) (I4 (n:=1) TG rfl (fun _=>rfl) Gl) (by intro y;kernel_rfl)) LQ (fun x:Curve=>(fun xs:(List Spot)=> ∀a∈xs,(fun x:Spot=>C1 x.X∧C1 x.Y) a) x.Pts) (fun y=>⟨y.1⟩) (fun _=>rfl) (fun y h=>h.1)
theorem SR:Rd Tryz.prog 40 FR (fun xs:(List Int)=> ∀a∈xs,C1 a):=Gm (sz:=1) Tryz.underlying40 PJ (fun _=>rfl) (by decide) (by kernel_rfl)
theorem SS:Rd Tryz.prog 42 G5 (fun x:Lane=>C1 x.Kind∧(fun x:Curve=>(fun xs:(List Spot)=> ∀a∈xs,(fun x:Spot=>C1 x.X∧C1 x.Y) a) x.Pts) x.Curve_∧C1 x.Half∧C1 x.Limit∧(fun xs:(List Int)=> ∀a∈xs,C1 a) x.Next):=
  Ii (Bp Tryz.underlying42 (wf:=_) (I4 (n:=1) PJ rfl (fun _=>rfl) (I4 (n:=1) TH rfl (fun _=>rfl) (I4 (n:=1) GG rfl (fun _=>rfl) (I4 (n:=1) GG rfl (fun _=>rfl) (I4 (n:=1) SR rfl (fun _=>rfl) Gl))))) (by intro y;kernel_rfl)) G5 (fun x:Lane=>C1 x.Kind∧(fun x:Curve=>(fun xs:(List Spot)=> ∀a∈xs,(fun x:Spot=>C1 x.X∧C1 x.Y) a) x.Pts) x.Curve_∧C1 x.Half∧C1 x.Limit∧(fun xs:(List Int)=> ∀a∈xs,C1 a) x.Next) (fun y=>⟨y.1,y.2.1,y.2.2.1,y.2.2.2.1,y.2.2.2.2.1⟩) (fun _=>rfl) (fun y h=>⟨h.1,h.2.1,h.2.2.1,h.2.2.2.1,h.2.2.2.2.1⟩)
theorem TI:Rd Tryz.prog 22 OY (fun xs:(List Lane)=> ∀a∈xs,(fun x:Lane=>C1 x.Kind∧(fun x:Curve=>(fun xs:(List Spot)=> ∀a∈xs,(fun x:Spot=>C1 x.X∧C1 x.Y) a) x.Pts) x.Curve_∧C1 x.Half∧C1 x.Limit∧(fun xs:(List Int)=> ∀a∈xs,C1 a) x.Next) a):=Gm (sz:=5) Tryz.underlying22 SS (fun _=>rfl) (by decide) (by kernel_rfl)
theorem TJ:Rd Tryz.prog 91 H6 (fun x:Part=>C1 x.Lane_∧C1 x.From∧C1 x.To∧C1 x.Rank):=
  Ii (Bp Tryz.underlying91 (wf:=_) (I4 (n:=1) PJ rfl (fun _=>rfl) (I4 (n:=1) GG rfl (fun _=>rfl) (I4 (n:=1) GG rfl (fun _=>rfl) (I4 (n:=1) PJ rfl (fun _=>rfl) Gl)))) (by intro y;kernel_rfl)) H6 (fun x:Part=>C1 x.Lane_∧C1 x.From∧C1 x.To∧C1 x.Rank) (fun y=>⟨y.1,y.2.1,y.2.2.1,y.2.2.2.1⟩) (fun _=>rfl) (fun y h=>⟨h.1,h.2.1,h.2.2.1,h.2.2.2.1⟩)
theorem TK:Rd Tryz.prog 43 PB (fun xs:(List Part)=> ∀a∈xs,(fun x:Part=>C1 x.Lane_∧C1 x.From∧C1 x.To∧C1 x.Rank) a):=Gm (sz:=4) Tryz.underlying43 TJ (fun _=>rfl) (by decide) (by kernel_rfl)
theorem ST:Rd Tryz.prog 45 F0 (fun x:Zone=>(fun xs:(List Part)=> ∀a∈xs,(fun x:Part=>C1 x.Lane_∧C1 x.From∧C1 x.To∧C1 x.Rank) a) x.Parts∧C1 x.Signal_):=
  Ii (Bp Tryz.underlying45 (wf:=_) (I4 (n:=1) TK rfl (fun _=>rfl) (I4 (n:=1) PJ rfl (fun _=>rfl) Gl)) (by intro y;kernel_rfl)) F0 (fun x:Zone=>(fun xs:(List Part)=> ∀a∈xs,(fun x:Part=>C1 x.Lane_∧C1 x.From∧C1 x.To∧C1 x.Rank) a) x.Parts∧C1 x.Signal_) (fun y=>⟨y.1,y.2.1⟩) (fun _=>rfl) (fun y h=>⟨h.1,h.2.1⟩)
theorem TL:Rd Tryz.prog 23 PA (fun xs:(List Zone)=> ∀a∈xs,(fun x:Zone=>(fun xs:(List Part)=> ∀a∈xs,(fun x:Part=>C1 x.Lane_∧C1 x.From∧C1 x.To∧C1 x.Rank) a) x.Parts∧C1 x.Signal_) a):=Gm (sz:=2) Tryz.underlying23 ST (fun _=>rfl) (by decide) (by kernel_rfl)
theorem TM:Rd Tryz.prog 97 I3 (fun x:Phase=>C1 x.Ticks∧(fun xs:(List Int)=> ∀a∈xs,C1 a) x.Green):=
  Ii (Bp Tryz.underlying97 (wf:=_) (I4 (n:=1) GG rfl (fun _=>rfl) (I4 (n:=1) SR rfl (fun _=>rfl) Gl)) (by intro y;kernel_rfl)) I3 (fun x:Phase=>C1 x.Ticks∧(fun xs:(List Int)=> ∀a∈xs,C1 a) x.Green) (fun y=>⟨y.1,y.2.1⟩) (fun _=>rfl) (fun y h=>⟨h.1,h.2.1⟩)
theorem TN:Rd Tryz.prog 46 LR (fun xs:(List Phase)=> ∀a∈xs,(fun x:Phase=>C1 x.Ticks∧(fun xs:(List Int)=> ∀a∈xs,C1 a) x.Green) a):=Gm (sz:=2) Tryz.underlying46 TM (fun _=>rfl) (by decide) (by kernel_rfl)
theorem SU:Rd Tryz.prog 48 E2 (fun x:Signal=>C1 x.Offset∧(fun xs:(List Phase)=> ∀a∈xs,(fun x:Phase=>C1 x.Ticks∧(fun xs:(List Int)=> ∀a∈xs,C1 a) x.Green) a) x.Phases):=
  Ii (Bp Tryz.underlying48 (wf:=_) (I4 (n:=1) GG rfl (fun _=>rfl) (I4 (n:=1) TN rfl (fun _=>rfl) Gl)) (by intro y;kernel_rfl)) E2 (fun x:Signal=>C1 x.Offset∧(fun xs:(List Phase)=> ∀a∈xs,(fun x:Phase=>C1 x.Ticks∧(fun xs:(List Int)=> ∀a∈xs,C1 a) x.Green) a) x.Phases) (fun y=>⟨y.1,y.2.1⟩) (fun _=>rfl) (fun y h=>⟨h.1,h.2.1⟩)
theorem TO:Rd Tryz.prog 24 IG (fun xs:(List Signal)=> ∀a∈xs,(fun x:Signal=>C1 x.Offset∧(fun xs:(List Phase)=> ∀a∈xs,(fun x:Phase=>C1 x.Ticks∧(fun xs:(List Int)=> ∀a∈xs,C1 a) x.Green) a) x.Phases) a):=Gm (sz:=2) Tryz.underlying24 SU (fun _=>rfl) (by decide) (by kernel_rfl)
theorem SV:Rd Tryz.prog 50 H8 (fun x:Work=>C1 x.Lane_∧C1 x.From∧C1 x.To∧C1 x.Begin∧C1 x.End∧C1 x.Limit):=
  Ii (Bp Tryz.underlying50 (wf:=_) (I4 (n:=1) PJ rfl (fun _=>rfl) (I4 (n:=1) GG rfl (fun _=>rfl) (I4 (n:=1) GG rfl (fun _=>rfl) (I4 (n:=1) GG rfl (fun _=>rfl) (I4 (n:=1) GG rfl (fun _=>rfl) (I4 (n:=1) GG rfl (fun _=>rfl) Gl)))))) (by intro y;kernel_rfl)) H8 (fun x:Work=>C1 x.Lane_∧C1 x.From∧C1 x.To∧C1 x.Begin∧C1 x.End∧C1 x.Limit) (fun y=>⟨y.1,y.2.1,y.2.2.1,y.2.2.2.1,y.2.2.2.2.1,y.2.2.2.2.2.1⟩) (fun _=>rfl) (fun y h=>⟨h.1,h.2.1,h.2.2.1,h.2.2.2.1,h.2.2.2.2.1,h.2.2.2.2.2.1⟩)
theorem TP:Rd Tryz.prog 25 PC (fun xs:(List Work)=> ∀a∈xs,(fun x:Work=>C1 x.Lane_∧C1 x.From∧C1 x.To∧C1 x.Begin∧C1 x.End∧C1 x.Limit) a):=Gm (sz:=6) Tryz.underlying25 SV (fun _=>rfl) (by decide) (by kernel_rfl)
theorem TQ:Rd Tryz.prog 27 K6 (fun x:Map=>C1 x.Version∧(fun xs:(List Lane)=> ∀a∈xs,(fun x:Lane=>C1 x.Kind∧(fun x:Curve=>(fun xs:(List Spot)=> ∀a∈xs,(fun x:Spot=>C1 x.X∧C1 x.Y) a) x.Pts) x.Curve_∧C1 x.Half∧C1 x.Limit∧(fun xs:(List Int)=> ∀a∈xs,C1 a) x.Next) a) x.Lanes∧(fun xs:(List Zone)=> ∀a∈xs,(fun x:Zone=>(fun xs:(List Part)=> ∀a∈xs,(fun x:Part=>C1 x.Lane_∧C1 x.From∧C1 x.To∧C1 x.Rank) a) x.Parts∧C1 x.Signal_) a) x.Zones∧(fun xs:(List Signal)=> ∀a∈xs,(fun x:Signal=>C1 x.Offset∧(fun xs:(List Phase)=> ∀a∈xs,(fun x:Phase=>C1 x.Ticks∧(fun xs:(List Int)=> ∀a∈xs,C1 a) x.Green) a) x.Phases) a) x.Signals∧(fun xs:(List Work)=> ∀a∈xs,(fun x:Work=>C1 x.Lane_∧C1 x.From∧C1 x.To∧C1 x.Begin∧C1 x.End∧C1 x.Limit) a) x.Works):=
  Ii (Bp Tryz.underlying27 (wf:=_) (I4 (n:=1) GG rfl (fun _=>rfl) (I4 (n:=1) TI rfl (fun _=>rfl) (I4 (n:=1) TL rfl (fun _=>rfl) (I4 (n:=1) TO rfl (fun _=>rfl) (I4 (n:=1) TP rfl (fun _=>rfl) Gl))))) (by intro y;kernel_rfl)) K6 (fun x:Map=>C1 x.Version∧(fun xs:(List Lane)=> ∀a∈xs,(fun x:Lane=>C1 x.Kind∧(fun x:Curve=>(fun xs:(List Spot)=> ∀a∈xs,(fun x:Spot=>C1 x.X∧C1 x.Y) a) x.Pts) x.Curve_∧C1 x.Half∧C1 x.Limit∧(fun xs:(List Int)=> ∀a∈xs,C1 a) x.Next) a) x.Lanes∧(fun xs:(List Zone)=> ∀a∈xs,(fun x:Zone=>(fun xs:(List Part)=> ∀a∈xs,(fun x:Part=>C1 x.Lane_∧C1 x.From∧C1 x.To∧C1 x.Rank) a) x.Parts∧C1 x.Signal_) a) x.Zones∧(fun xs:(List Signal)=> ∀a∈xs,(fun x:Signal=>C1 x.Offset∧(fun xs:(List Phase)=> ∀a∈xs,(fun x:Phase=>C1 x.Ticks∧(fun xs:(List Int)=> ∀a∈xs,C1 a) x.Green) a) x.Phases) a) x.Signals∧(fun xs:(List Work)=> ∀a∈xs,(fun x:Work=>C1 x.Lane_∧C1 x.From∧C1 x.To∧C1 x.Begin∧C1 x.End∧C1 x.Limit) a) x.Works) (fun y=>⟨y.1,y.2.1,y.2.2.1,y.2.2.2.1,y.2.2.2.2.1⟩) (fun _=>rfl) (fun y h=>⟨h.1,h.2.1,h.2.2.1,h.2.2.2.1,h.2.2.2.2.1⟩)
theorem TR:Rd Tryz.prog 52 Bj (fun x:Edit=>C1 x.Kind∧C1 x.Table∧C1 x.At∧(fun x:Lane=>C1 x.Kind∧(fun x:Curve=>(fun xs:(List Spot)=> ∀a∈xs,(fun x:Spot=>C1 x.X∧C1 x.Y) a) x.Pts) x.Curve_∧C1 x.Half∧C1 x.Limit∧(fun xs:(List Int)=> ∀a∈xs,C1 a) x.Next) x.Lane_∧(fun x:Zone=>(fun xs:(List Part)=> ∀a∈xs,(fun x:Part=>C1 x.Lane_∧C1 x.From∧C1 x.To∧C1 x.Rank) a) x.Parts∧C1 x.Signal_) x.Zone_∧(fun x:Signal=>C1 x.Offset∧(fun xs:(List Phase)=> ∀a∈xs,(fun x:Phase=>C1 x.Ticks∧(fun xs:(List Int)=> ∀a∈xs,C1 a) x.Green) a) x.Phases) x.Signal_∧(fun x:Work=>C1 x.Lane_∧C1 x.From∧C1 x.To∧C1 x.Begin∧C1 x.End∧C1 x.Limit) x.Work_):=
  Ii (Bp Tryz.underlying52 (wf:=_) (I4 (n:=1) PJ rfl (fun _=>rfl) (I4 (n:=1) PJ rfl (fun _=>rfl) (I4 (n:=1) PJ rfl (fun _=>rfl) (I4 (n:=5) SS rfl (fun _=>rfl) (I4 (n:=2) ST rfl (fun _=>rfl) (I4 (n:=2) SU rfl (fun _=>rfl) (I4 (n:=6) SV rfl (fun _=>rfl) Gl))))))) (by intro y;kernel_rfl)) Bj (fun x:Edit=>C1 x.Kind∧C1 x.Table∧C1 x.At∧(fun x:Lane=>C1 x.Kind∧(fun x:Curve=>(fun xs:(List Spot)=> ∀a∈xs,(fun x:Spot=>C1 x.X∧C1 x.Y) a) x.Pts) x.Curve_∧C1 x.Half∧C1 x.Limit∧(fun xs:(List Int)=> ∀a∈xs,C1 a) x.Next) x.Lane_∧(fun x:Zone=>(fun xs:(List Part)=> ∀a∈xs,(fun x:Part=>C1 x.Lane_∧C1 x.From∧C1 x.To∧C1 x.Rank) a) x.Parts∧C1 x.Signal_) x.Zone_∧(fun x:Signal=>C1 x.Offset∧(fun xs:(List Phase)=> ∀a∈xs,(fun x:Phase=>C1 x.Ticks∧(fun xs:(List Int)=> ∀a∈xs,C1 a) x.Green) a) x.Phases) x.Signal_∧(fun x:Work=>C1 x.Lane_∧C1 x.From∧C1 x.To∧C1 x.Begin∧C1 x.End∧C1 x.Limit) x.Work_) (fun y=>⟨y.1,y.2.1,y.2.2.1,y.2.2.2.1,y.2.2.2.2.1,y.2.2.2.2.2.1,y.2.2.2.2.2.2.1⟩) (fun _=>rfl) (fun y h=>⟨h.1,h.2.1,h.2.2.1,h.2.2.2.1,h.2.2.2.2.1,h.2.2.2.2.2.1,h.2.2.2.2.2.2.1⟩)
theorem TS:Rd Tryz.prog 34 PD (fun xs:(List Edit)=> ∀a∈xs,(fun x:Edit=>C1 x.Kind∧C1 x.Table∧C1 x.At∧(fun x:Lane=>C1 x.Kind∧(fun x:Curve=>(fun xs:(List Spot)=> ∀a∈xs,(fun x:Spot=>C1 x.X∧C1 x.Y) a) x.Pts) x.Curve_∧C1 x.Half∧C1 x.Limit∧(fun xs:(List Int)=> ∀a∈xs,C1 a) x.Next) x.Lane_∧(fun x:Zone=>(fun xs:(List Part)=> ∀a∈xs,(fun x:Part=>C1 x.Lane_∧C1 x.From∧C1 x.To∧C1 x.Rank) a) x.Parts∧C1 x.Signal_) x.Zone_∧(fun x:Signal=>C1 x.Offset∧(fun xs:(List Phase)=> ∀a∈xs,(fun x:Phase=>C1 x.Ticks∧(fun xs:(List Int)=> ∀a∈xs,C1 a) x.Green) a) x.Phases) x.Signal_∧(fun x:Work=>C1 x.Lane_∧C1 x.From∧C1 x.To∧C1 x.Begin∧C1 x.End∧C1 x.Limit) x.Work_) a):=Gm (sz:=18) Tryz.underlying34 TR (fun _=>rfl) (by decide) (by kernel_rfl)
theorem TT:Rd Tryz.prog 36 LS (fun x:Patch=>C1 x.Base∧(fun xs:(List Edit)=> ∀a∈xs,(fun x:Edit=>C1 x.Kind∧C1 x.Table∧C1 x.At∧(fun x:Lane=>C1 x.Kind∧(fun x:Curve=>(fun xs:(List Spot)=> ∀a∈xs,(fun x:Spot=>C1 x.X∧C1 x.Y) a) x.Pts) x.Curve_∧C1 x.Half∧C1 x.Limit∧(fun xs:(List Int)=> ∀a∈xs,C1 a) x.Next) x.Lane_∧(fun x:Zone=>(fun xs:(List Part)=> ∀a∈xs,(fun x:Part=>C1 x.Lane_∧C1 x.From∧C1 x.To∧C1 x.Rank) a) x.Parts∧C1 x.Signal_) x.Zone_∧(fun x:Signal=>C1 x.Offset∧(fun xs:(List Phase)=> ∀a∈xs,(fun x:Phase=>C1 x.Ticks∧(fun xs:(List Int)=> ∀a∈xs,C1 a) x.Green) a) x.Phases) x.Signal_∧(fun x:Work=>C1 x.Lane_∧C1 x.From∧C1 x.To∧C1 x.Begin∧C1 x.End∧C1 x.Limit) x.Work_) a) x.Edits):=
  Ii (Bp Tryz.underlying36 (wf:=_) (I4 (n:=1) GG rfl (fun _=>rfl) (I4 (n:=1) TS rfl (fun _=>rfl) Gl)) (by intro y;kernel_rfl)) LS (fun x:Patch=>C1 x.Base∧(fun xs:(List Edit)=> ∀a∈xs,(fun x:Edit=>C1 x.Kind∧C1 x.Table∧C1 x.At∧(fun x:Lane=>C1 x.Kind∧(fun x:Curve=>(fun xs:(List Spot)=> ∀a∈xs,(fun x:Spot=>C1 x.X∧C1 x.Y) a) x.Pts) x.Curve_∧C1 x.Half∧C1 x.Limit∧(fun xs:(List Int)=> ∀a∈xs,C1 a) x.Next) x.Lane_∧(fun x:Zone=>(fun xs:(List Part)=> ∀a∈xs,(fun x:Part=>C1 x.Lane_∧C1 x.From∧C1 x.To∧C1 x.Rank) a) x.Parts∧C1 x.Signal_) x.Zone_∧(fun x:Signal=>C1 x.Offset∧(fun xs:(List Phase)=> ∀a∈xs,(fun x:Phase=>C1 x.Ticks∧(fun xs:(List Int)=> ∀a∈xs,C1 a) x.Green) a) x.Phases) x.Signal_∧(fun x:Work=>C1 x.Lane_∧C1 x.From∧C1 x.To∧C1 x.Begin∧C1 x.End∧C1 x.Limit) x.Work_) a) x.Edits) (fun y=>⟨y.1,y.2.1⟩) (fun _=>rfl) (fun y h=>⟨h.1,h.2.1⟩)
end Go.Abs.Roadsz
namespace Go.Proofs.YtimbepcdlehjjaaGreat.roadsApplies
open Go.ChangeShapes Go.WideShapes Go.ChangeAt Go.RowKit Go.Abs Go.Abs.Roadsz
set_option linter.unusedVariables false
theorem own:ownKnob Tryz.prog.godebug=none:=by kernel_rfl
theorem BL:laidOutB Tryz.prog=true:=by kernel_rfl
set_option maxRecDepth 100000 in
theorem lifted (os:Os)(started:os.Started)(H:Type)(enc:TypeId×Value→H):
    ReturnsInHanded {} Tryz.checked os 4 .any (Rows.roadsAppliesSpec.pre6 enc Tryz.prog Tryz.f4 Rows.roadsAppliesRow.domain false) (Rows.roadsAppliesSpec.post enc Tryz.prog Tryz.f4 false true false false):=by
  refine returnsInHanded_of_change (C:=Tryz.checked) own started (by kernel_rfl) Tryz.func4
    (ChangeSpec.witness6 (enc:=enc) (C:=Tryz.checked) false ⟨#[],#[.agg #[.int .i64 0, .slice none 0 0, .slice none 0 0, .slice none 0 0, .slice none 0 0], .agg #[.int .i64 0, .slice none 0 0]],[]⟩ 8 (by kernel_rfl) (by kernel_rfl) (by kernel_rfl) (by kernel_rfl)) ?_
  intro W base args ds gs before hval0 hW hcnd _
  have hval: ∀(j:Nat) t v,Tryz.f4.params[j]? =some t→args[j]? =some v→Value.okWide Tryz.prog W .any base t v:=hval0
  have hW':=hW
  obtain ⟨p,q,hA0,hV,rfl,hfz,hnd⟩:=hW
  have hA:DataW.TrodAll enc Tryz.prog W 0 (fun _=>true) true Tryz.f4.params.toList args.toList ds p:=hA0
  rw [Tryz.params4]at hA hval
  obtain ⟨v0,vs0,d0,ds0,p0,q0,hargs,rfl,rfl,h0,r0⟩:=trodAll_cons hA
  obtain ⟨v1,vs1,d1,ds1,p1,q1,rfl,rfl,rfl,h1,r1⟩:=trodAll_cons r0
  obtain ⟨rfl,rfl,rfl⟩:=trodAll_nil r1
  obtain rfl:args= #[v0,v1]:=by cases args;simp_all
  obtain ⟨rfl,rfl⟩:=trodVars_none hV
  have k0:=h0
  have lt0: ∀x∈p0,x.block<W.heap.size:=by obtain ⟨m,hm⟩:=k0;exact DataW.trod_lt m _ _ _ hm
  obtain ⟨a0,w0,e0⟩:=GV TQ Tryz.underlying27 (hval 0 27 v0 rfl rfl) h0
  have k1:=h1
  have lt1: ∀x∈p1,x.block<W.heap.size:=by obtain ⟨m,hm⟩:=k1;exact DataW.trod_lt m _ _ _ hm
  obtain ⟨a1,w1,e1⟩:=GV TT Tryz.underlying36 (hval 1 36 v1 rfl rfl) h1
  clear hA0 hval0
  refine (KZ (vs:= [v0,v1]) (Mu a0 a1 _ (Kv a0 a1)) rfl ?_).mono fun e W' ⟨he,bel⟩=> ?_
  ·intro i d hi
   match i,hi with
   |0,hi=>cases hi;exact e0
   |1,hi=>cases hi;exact e1
   |i+2,hi=>simp at hi
  ·subst he
   exact ⟨_,rfl,_,_,_,[],_,[],hW',trodAll_mk1 (shut_bool Tryz.underlying4 _),(trodAll_cons_mk (Below.trod BL (by kernel_rfl) (of_decide_eq_true (by kernel_rfl)) k0 bel lt0) (trodAll_cons_mk (Below.trod BL (by kernel_rfl) (of_decide_eq_true (by kernel_rfl)) k1 bel lt1) trodAll_mk0)),rfl,bel.frame _,fun h=>by cases h⟩
theorem j0:(mapsRowed Tryz.prog)=true:=by kernel_rfl
theorem j1:(Rows.roadsAppliesRow.inPlace==Tryz.prog.inPlace 4)=true:=by kernel_rfl
theorem j2:(Rows.roadsAppliesRow.unfollowed==Tryz.prog.unfollowed 4)=true:=by kernel_rfl
theorem j3:(Rows.roadsAppliesRow.recurses==Tryz.prog.recurses 4)=true:=by kernel_rfl
theorem j4:(Rows.roadsAppliesRow.named==Tryz.prog.varsNamed 4)=true:=by kernel_rfl
theorem j5:(Rows.roadsAppliesRow.plainKeys==Tryz.prog.plainKeys)=true:=by kernel_rfl
theorem j6:(Tryz.prog.stopsHeard)=true:=by kernel_rfl
theorem j7:(Tryz.prog.mayEnter)=true:=by kernel_rfl
theorem j8:(Rows.roadsAppliesRow.lifted==Tryz.prog.liftsFinal)=true:=by kernel_rfl
theorem j9:(Tryz.prog.make==some Rows.roadsAppliesRow.make)=true:=by kernel_rfl
theorem UT:(Rows.roadsAppliesRow.loops==(Tryz.f4.params.toList++Rows.roadsAppliesSpec.plain.varTypes Tryz.prog).any (Tryz.prog.loopsFrom ·))=true:=by kernel_rfl
theorem RI:joinedFacts Tryz.prog 4 Tryz.f4 Rows.roadsAppliesSpec Rows.roadsAppliesRow=true:=by
  unfold joinedFacts
  simp only [bB]
  repeat' apply And.intro
  all_goals first|with_reducible exact BL|with_reducible exact j0|with_reducible exact j1|with_reducible exact j2|with_reducible exact j3|with_reducible exact j4|with_reducible exact j5|with_reducible exact j6|with_reducible exact j7|with_reducible exact j8|with_reducible exact j9|with_reducible exact UT|kernel_rfl
theorem over:Rows.roadsAppliesRow.holds Tryz.pinned (OpenSpec.ofChange Rows.roadsAppliesSpec):=
  OpenClaim.holds_of_wide 4 Tryz.f4 rfl rfl rfl rfl rfl rfl rfl ⟨rfl,rfl,rfl,rfl,rfl⟩ rfl rfl rfl rfl rfl (by kernel_rfl) Tryz.func4 RI
    (of_decide_eq_true (by kernel_rfl)) (by unfold Func.isWrapper;first|(rw [l8 (by decide+kernel)];kernel_rfl)|(rw [l9 (by decide+kernel)];exact ⟨rfl,rfl⟩))
    (fun os started H enc _=>lifted os started H enc)
end Go.Proofs.YtimbepcdlehjjaaGreat.roadsApplies
namespace Go.Proofs.YtimbepcdlehjjaaGreat
theorem roadsApplies_holds:Rows.RoadsAppliesSaid:=roadsApplies.over
end Go.Proofs.YtimbepcdlehjjaaGreat
