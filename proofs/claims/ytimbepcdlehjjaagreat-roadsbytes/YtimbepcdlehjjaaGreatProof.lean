/-
  Proved: for every input, RoadsBytes returns true, and its arguments read afterwards as they read before.
  Conditions: none beyond those of the given row.
-/
import Derived.Test.YtimbepcdlehjjaaGreatPlain
import Derived.Test.YtimbepcdlehjjaaGreatRows
import Derived.WalkKit
namespace Go.Abs.Roadsz
open Go Go.Abs Go.Proofs
theorem SI:Rd Tryz.prog 2 A4 G6:=XB Tryz.underlying2
theorem iI:Rd Tryz.prog 3 A4 G6:=XB Tryz.underlying3
theorem jM:Rd Tryz.prog 148 K4 (fun x:Spot=>G6 x.X∧G6 x.Y):=
  Sj (Iz Tryz.underlying148 (wf:=_) (P7 (n:=1) SI rfl (fun _=>rfl) (P7 (n:=1) SI rfl (fun _=>rfl) Pl)) (by intro y;kernel_rfl)) K4 (fun x:Spot=>G6 x.X∧G6 x.Y) (fun y=>⟨y.1,y.2.1⟩) (fun _=>rfl) (fun y h=>⟨h.1,h.2.1⟩)
theorem jZ:Rd Tryz.prog 37 cQ (fun xs:(List Spot)=> ∀a∈xs,(fun x:Spot=>G6 x.X∧G6 x.Y) a):=Na (sz:=2) Tryz.underlying37 jM (fun _=>rfl) (by decide) (by kernel_rfl)
theorem kA:Rd Tryz.prog 39 XV (fun x:Curve=>(fun xs:(List Spot)=> ∀a∈xs,(fun x:Spot=>G6 x.X∧G6 x.Y) a) x.Pts):=
  Sj (Iz Tryz.underlying39 (wf:=_) (P7 (n:=1) jZ rfl (fun _=>rfl) Pl) (by intro y;kernel_rfl)) XV (fun x:Curve=>(fun xs:(List Spot)=> ∀a∈xs,(fun x:Spot=>G6 x.X∧G6 x.Y) a) x.Pts) (fun y=>⟨y.1⟩) (fun _=>rfl) (fun y h=>h.1)
theorem jN:Rd Tryz.prog 40 PM (fun xs:(List Int)=> ∀a∈xs,G6 a):=Na (sz:=1) Tryz.underlying40 iI (fun _=>rfl) (by decide) (by kernel_rfl)
theorem kB:Rd Tryz.prog 42 J7 (fun x:Lane=>G6 x.Kind∧(fun x:Curve=>(fun xs:(List Spot)=> ∀a∈xs,(fun x:Spot=>G6 x.X∧G6 x.Y) a) x.Pts) x.Curve_∧G6 x.Half∧G6 x.Limit∧(fun xs:(List Int)=> ∀a∈xs,G6 a) x.Next):=
  Sj (Iz Tryz.underlying42 (wf:=_) (P7 (n:=1) iI rfl (fun _=>rfl) (P7 (n:=1) kA rfl (fun _=>rfl) (P7 (n:=1) SI rfl (fun _=>rfl) (P7 (n:=1) SI rfl (fun _=>rfl) (P7 (n:=1) jN rfl (fun _=>rfl) Pl))))) (by intro y;kernel_rfl)) J7 (fun x:Lane=>G6 x.Kind∧(fun x:Curve=>(fun xs:(List Spot)=> ∀a∈xs,(fun x:Spot=>G6 x.X∧G6 x.Y) a) x.Pts) x.Curve_∧G6 x.Half∧G6 x.Limit∧(fun xs:(List Int)=> ∀a∈xs,G6 a) x.Next) (fun y=>⟨y.1,y.2.1,y.2.2.1,y.2.2.2.1,y.2.2.2.2.1⟩) (fun _=>rfl) (fun y h=>⟨h.1,h.2.1,h.2.2.1,h.2.2.2.1,h.2.2.2.2.1⟩)
theorem kC:Rd Tryz.prog 22 cP (fun xs:(List Lane)=> ∀a∈xs,(fun x:Lane=>G6 x.Kind∧(fun x:Curve=>(fun xs:(List Spot)=> ∀a∈xs,(fun x:Spot=>G6 x.X∧G6 x.Y) a) x.Pts) x.Curve_∧G6 x.Half∧G6 x.Limit∧(fun xs:(List Int)=> ∀a∈xs,G6 a) x.Next) a):=Na (sz:=5) Tryz.underlying22 kB (fun _=>rfl) (by decide) (by kernel_rfl)
theorem kD:Rd Tryz.prog 91 G8 (fun x:Part=>G6 x.Lane_∧G6 x.From∧G6 x.To∧G6 x.Rank):=
  Sj (Iz Tryz.underlying91 (wf:=_) (P7 (n:=1) iI rfl (fun _=>rfl) (P7 (n:=1) SI rfl (fun _=>rfl) (P7 (n:=1) SI rfl (fun _=>rfl) (P7 (n:=1) iI rfl (fun _=>rfl) Pl)))) (by intro y;kernel_rfl)) G8 (fun x:Part=>G6 x.Lane_∧G6 x.From∧G6 x.To∧G6 x.Rank) (fun y=>⟨y.1,y.2.1,y.2.2.1,y.2.2.2.1⟩) (fun _=>rfl) (fun y h=>⟨h.1,h.2.1,h.2.2.1,h.2.2.2.1⟩)
theorem kE:Rd Tryz.prog 43 cT (fun xs:(List Part)=> ∀a∈xs,(fun x:Part=>G6 x.Lane_∧G6 x.From∧G6 x.To∧G6 x.Rank) a):=Na (sz:=4) Tryz.underlying43 kD (fun _=>rfl) (by decide) (by kernel_rfl)
theorem kF:Rd Tryz.prog 45 J2 (fun x:Zone=>(fun xs:(List Part)=> ∀a∈xs,(fun x:Part=>G6 x.Lane_∧G6 x.From∧G6 x.To∧G6 x.Rank) a) x.Parts∧G6 x.Signal_):=
  Sj (Iz Tryz.underlying45 (wf:=_) (P7 (n:=1) kE rfl (fun _=>rfl) (P7 (n:=1) iI rfl (fun _=>rfl) Pl)) (by intro y;kernel_rfl)) J2 (fun x:Zone=>(fun xs:(List Part)=> ∀a∈xs,(fun x:Part=>G6 x.Lane_∧G6 x.From∧G6 x.To∧G6 x.Rank) a) x.Parts∧G6 x.Signal_) (fun y=>⟨y.1,y.2.1⟩) (fun _=>rfl) (fun y h=>⟨h.1,h.2.1⟩)
theorem kG:Rd Tryz.prog 23 cS (fun xs:(List Zone)=> ∀a∈xs,(fun x:Zone=>(fun xs:(List Part)=> ∀a∈xs,(fun x:Part=>G6 x.Lane_∧G6 x.From∧G6 x.To∧G6 x.Rank) a) x.Parts∧G6 x.Signal_) a):=Na (sz:=2) Tryz.underlying23 kF (fun _=>rfl) (by decide) (by kernel_rfl)
theorem kH:Rd Tryz.prog 97 G2 (fun x:Phase=>G6 x.Ticks∧(fun xs:(List Int)=> ∀a∈xs,G6 a) x.Green):=
  Sj (Iz Tryz.underlying97 (wf:=_) (P7 (n:=1) SI rfl (fun _=>rfl) (P7 (n:=1) jN rfl (fun _=>rfl) Pl)) (by intro y;kernel_rfl)) G2 (fun x:Phase=>G6 x.Ticks∧(fun xs:(List Int)=> ∀a∈xs,G6 a) x.Green) (fun y=>⟨y.1,y.2.1⟩) (fun _=>rfl) (fun y h=>⟨h.1,h.2.1⟩)
theorem kI:Rd Tryz.prog 46 XW (fun xs:(List Phase)=> ∀a∈xs,(fun x:Phase=>G6 x.Ticks∧(fun xs:(List Int)=> ∀a∈xs,G6 a) x.Green) a):=Na (sz:=2) Tryz.underlying46 kH (fun _=>rfl) (by decide) (by kernel_rfl)
theorem kJ:Rd Tryz.prog 48 J9 (fun x:Signal=>G6 x.Offset∧(fun xs:(List Phase)=> ∀a∈xs,(fun x:Phase=>G6 x.Ticks∧(fun xs:(List Int)=> ∀a∈xs,G6 a) x.Green) a) x.Phases):=
  Sj (Iz Tryz.underlying48 (wf:=_) (P7 (n:=1) SI rfl (fun _=>rfl) (P7 (n:=1) kI rfl (fun _=>rfl) Pl)) (by intro y;kernel_rfl)) J9 (fun x:Signal=>G6 x.Offset∧(fun xs:(List Phase)=> ∀a∈xs,(fun x:Phase=>G6 x.Ticks∧(fun xs:(List Int)=> ∀a∈xs,G6 a) x.Green) a) x.Phases) (fun y=>⟨y.1,y.2.1⟩) (fun _=>rfl) (fun y h=>⟨h.1,h.2.1⟩)
theorem kK:Rd Tryz.prog 24 TM (fun xs:(List Signal)=> ∀a∈xs,(fun x:Signal=>G6 x.Offset∧(fun xs:(List Phase)=> ∀a∈xs,(fun x:Phase=>G6 x.Ticks∧(fun xs:(List Int)=> ∀a∈xs,G6 a) x.Green) a) x.Phases) a):=Na (sz:=2) Tryz.underlying24 kJ (fun _=>rfl) (by decide) (by kernel_rfl)
theorem kL:Rd Tryz.prog 50 R1 (fun x:Work=>G6 x.Lane_∧G6 x.From∧G6 x.To∧G6 x.Begin∧G6 x.End∧G6 x.Limit):=
  Sj (Iz Tryz.underlying50 (wf:=_) (P7 (n:=1) iI rfl (fun _=>rfl) (P7 (n:=1) SI rfl (fun _=>rfl) (P7 (n:=1) SI rfl (fun _=>rfl) (P7 (n:=1) SI rfl (fun _=>rfl) (P7 (n:=1) SI rfl (fun _=>rfl) (P7 (n:=1) SI rfl (fun _=>rfl) Pl)))))) (by intro y;kernel_rfl)) R1 (fun x:Work=>G6 x.Lane_∧G6 x.From∧G6 x.To∧G6 x.Begin∧G6 x.End∧G6 x.Limit) (fun y=>⟨y.1,y.2.1,y.2.2.1,y.2.2.2.1,y.2.2.2.2.1,y.2.2.2.2.2.1⟩) (fun _=>rfl) (fun y h=>⟨h.1,h.2.1,h.2.2.1,h.2.2.2.1,h.2.2.2.2.1,h.2.2.2.2.2.1⟩)
theorem kM:Rd Tryz.prog 25 cU (fun xs:(List Work)=> ∀a∈xs,(fun x:Work=>G6 x.Lane_∧G6 x.From∧G6 x.To∧G6 x.Begin∧G6 x.End∧G6 x.Limit) a):=Na (sz:=6) Tryz.underlying25 kL (fun _=>rfl) (by decide) (by kernel_rfl)
theorem jO:Rd Tryz.prog 27 N8 (fun x:Map=>G6 x.Version∧(fun xs:(List Lane)=> ∀a∈xs,(fun x:Lane=>G6 x.Kind∧(fun x:Curve=>(fun xs:(List Spot)=> ∀a∈xs,(fun x:Spot=>G6 x.X∧G6 x.Y) a) x.Pts) x.Curve_∧G6 x.Half∧G6 x.Limit∧(fun xs:(List Int)=> ∀a∈xs,G6 a) x.Next) a) x.Lanes∧(fun xs:(List Zone)=> ∀a∈xs,(fun x:Zone=>(fun xs:(List Part)=> ∀a∈xs,(fun x:Part=>G6 x.Lane_∧G6 x.From∧G6 x.To∧G6 x.Rank) a) x.Parts∧G6 x.Signal_) a) x.Zones∧(fun xs:(List Signal)=> ∀a∈xs,(fun x:Signal=>G6 x.Offset∧(fun xs:(List Phase)=> ∀a∈xs,(fun x:Phase=>G6 x.Ticks∧(fun xs:(List Int)=> ∀a∈xs,G6 a) x.Green) a) x.Phases) a) x.Signals∧(fun xs:(List Work)=> ∀a∈xs,(fun x:Work=>G6 x.Lane_∧G6 x.From∧G6 x.To∧G6 x.Begin∧G6 x.End∧G6 x.Limit) a) x.Works):=
  Sj (Iz Tryz.underlying27 (wf:=_) (P7 (n:=1) SI rfl (fun _=>rfl) (P7 (n:=1) kC rfl (fun _=>rfl) (P7 (n:=1) kG rfl (fun _=>rfl) (P7 (n:=1) kK rfl (fun _=>rfl) (P7 (n:=1) kM rfl (fun _=>rfl) Pl))))) (by intro y;kernel_rfl)) N8 (fun x:Map=>G6 x.Version∧(fun xs:(List Lane)=> ∀a∈xs,(fun x:Lane=>G6 x.Kind∧(fun x:Curve=>(fun xs:(List Spot)=> ∀a∈xs,(fun x:Spot=>G6 x.X∧G6 x.Y) a) x.Pts) x.Curve_∧G6 x.Half∧G6 x.Limit∧(fun xs:(List Int)=> ∀a∈xs,G6 a) x.Next) a) x.Lanes∧(fun xs:(List Zone)=> ∀a∈xs,(fun x:Zone=>(fun xs:(List Part)=> ∀a∈xs,(fun x:Part=>G6 x.Lane_∧G6 x.From∧G6 x.To∧G6 x.Rank) a) x.Parts∧G6 x.Signal_) a) x.Zones∧(fun xs:(List Signal)=> ∀a∈xs,(fun x:Signal=>G6 x.Offset∧(fun xs:(List Phase)=> ∀a∈xs,(fun x:Phase=>G6 x.Ticks∧(fun xs:(List Int)=> ∀a∈xs,G6 a) x.Green) a) x.Phases) a) x.Signals∧(fun xs:(List Work)=> ∀a∈xs,(fun x:Work=>G6 x.Lane_∧G6 x.From∧G6 x.To∧G6 x.Begin∧G6 x.End∧G6 x.Limit) a) x.Works) (fun y=>⟨y.1,y.2.1,y.2.2.1,y.2.2.2.1,y.2.2.2.2.1⟩) (fun _=>rfl) (fun y h=>⟨h.1,h.2.1,h.2.2.1,h.2.2.2.1,h.2.2.2.2.1⟩)
theorem mF:Rd Tryz.prog 9 jY (fun s:ByteArray=>s.size≤maxLen):=TG Tryz.underlying9
end Go.Abs.Roadsz
namespace Go.Proofs.YtimbepcdlehjjaaGreat.roadsBytes
open Go.ChangeShapes Go.WideShapes Go.ChangeAt Go.RowKit Go.Abs Go.Abs.Roadsz
set_option linter.unusedVariables false
theorem own:ownKnob Tryz.prog.godebug=none:=by kernel_rfl
theorem DN:laidOutB Tryz.prog=true:=by kernel_rfl
set_option maxRecDepth 100000 in
theorem lifted (os:Os)(started:os.Started)(H:Type)(enc:TypeId×Value→H):
    ReturnsInHanded {} Tryz.checked os 10 .any (Rows.roadsBytesSpec.pre6 enc Tryz.prog Tryz.f10 Rows.roadsBytesRow.domain false) (Rows.roadsBytesSpec.post enc Tryz.prog Tryz.f10 false true false false):=by
  refine returnsInHanded_of_change (C:=Tryz.checked) own started (by kernel_rfl) Tryz.func10
    (ChangeSpec.witness6 (enc:=enc) (C:=Tryz.checked) false ⟨#[],#[.agg #[.int .i64 0, .slice none 0 0, .slice none 0 0, .slice none 0 0, .slice none 0 0], .agg #[.int .i64 0, .slice none 0 0, .slice none 0 0, .slice none 0 0, .slice none 0 0], .string ByteArray.empty],[]⟩ 8 (by kernel_rfl) (by kernel_rfl) (by kernel_rfl) (by kernel_rfl)) ?_
  intro W base args ds gs before hval0 hW hcnd _
  have hval: ∀(j:Nat) t v,Tryz.f10.params[j]? =some t→args[j]? =some v→Value.okWide Tryz.prog W .any base t v:=hval0
  have hW':=hW
  obtain ⟨p,q,hA0,hV,rfl,hfz,hnd⟩:=hW
  have hA:DataW.TrodAll enc Tryz.prog W 0 (fun _=>true) true Tryz.f10.params.toList args.toList ds p:=hA0
  rw [Tryz.params10]at hA hval
  obtain ⟨v0,vs0,d0,ds0,p0,q0,hargs,rfl,rfl,h0,r0⟩:=trodAll_cons hA
  obtain ⟨v1,vs1,d1,ds1,p1,q1,rfl,rfl,rfl,h1,r1⟩:=trodAll_cons r0
  obtain ⟨v2,vs2,d2,ds2,p2,q2,rfl,rfl,rfl,h2,r2⟩:=trodAll_cons r1
  obtain ⟨rfl,rfl,rfl⟩:=trodAll_nil r2
  obtain rfl:args= #[v0,v1,v2]:=by cases args;simp_all
  obtain ⟨rfl,rfl⟩:=trodVars_none hV
  have k0:=h0
  have lt0: ∀x∈p0,x.block<W.heap.size:=by obtain ⟨m,hm⟩:=k0;exact DataW.trod_lt m _ _ _ hm
  obtain ⟨a0,w0,e0⟩:=RG jO Tryz.underlying27 (hval 0 27 v0 rfl rfl) h0
  have k1:=h1
  have lt1: ∀x∈p1,x.block<W.heap.size:=by obtain ⟨m,hm⟩:=k1;exact DataW.trod_lt m _ _ _ hm
  obtain ⟨a1,w1,e1⟩:=RG jO Tryz.underlying27 (hval 1 27 v1 rfl rfl) h1
  have k2:=h2
  have jG: ∀x∈p2,x.block<W.heap.size:=by obtain ⟨m,hm⟩:=k2;exact DataW.trod_lt m _ _ _ hm
  obtain ⟨a2,w2,e2⟩:=cE mF (by obtain ⟨_,rfl⟩:=okWide_string Tryz.underlying9 (hval 2 9 v2 rfl rfl);rfl) h2
  clear hA0 hval0
  refine (WZ (vs:= [v0,v1,v2]) (Xd a0 a1 a2 _ (Uo a0 a1 a2)) rfl ?_).mono fun e W' ⟨he,bel⟩=> ?_
  ·intro i d hi
   match i,hi with
   |0,hi=>cases hi;exact e0
   |1,hi=>cases hi;exact e1
   |2,hi=>cases hi;exact e2
   |i+3,hi=>simp at hi
  ·subst he
   exact ⟨_,rfl,_,_,_,[],_,[],hW',trodAll_mk1 (shut_bool Tryz.underlying4 _),(trodAll_cons_mk (Below.trod DN (by kernel_rfl) (of_decide_eq_true (by kernel_rfl)) k0 bel lt0) (trodAll_cons_mk (Below.trod DN (by kernel_rfl) (of_decide_eq_true (by kernel_rfl)) k1 bel lt1) (trodAll_cons_mk (Below.trod DN (by kernel_rfl) (of_decide_eq_true (by kernel_rfl)) k2 bel jG) trodAll_mk0))),rfl,bel.frame _,fun h=>by cases h⟩
theorem j0:(mapsRowed Tryz.prog)=true:=by kernel_rfl
theorem j1:(Rows.roadsBytesRow.inPlace==Tryz.prog.inPlace 10)=true:=by kernel_rfl
theorem j2:(Rows.roadsBytesRow.unfollowed==Tryz.prog.unfollowed 10)=true:=by kernel_rfl
theorem j3:(Rows.roadsBytesRow.recurses==Tryz.prog.recurses 10)=true:=by kernel_rfl
theorem j4:(Rows.roadsBytesRow.named==Tryz.prog.varsNamed 10)=true:=by kernel_rfl
theorem j5:(Rows.roadsBytesRow.plainKeys==Tryz.prog.plainKeys)=true:=by kernel_rfl
theorem j6:(Tryz.prog.stopsHeard)=true:=by kernel_rfl
theorem j7:(Tryz.prog.mayEnter)=true:=by kernel_rfl
theorem j8:(Rows.roadsBytesRow.lifted==Tryz.prog.liftsFinal)=true:=by kernel_rfl
theorem j9:(Tryz.prog.make==some Rows.roadsBytesRow.make)=true:=by kernel_rfl
theorem mG:(Rows.roadsBytesRow.loops==(Tryz.f10.params.toList++Rows.roadsBytesSpec.plain.varTypes Tryz.prog).any (Tryz.prog.loopsFrom ·))=true:=by kernel_rfl
theorem iE:joinedFacts Tryz.prog 10 Tryz.f10 Rows.roadsBytesSpec Rows.roadsBytesRow=true:=by
  unfold joinedFacts
  simp only [bE]
  repeat' apply And.intro
  all_goals first|with_reducible exact DN|with_reducible exact j0|with_reducible exact j1|with_reducible exact j2|with_reducible exact j3|with_reducible exact j4|with_reducible exact j5|with_reducible exact j6|with_reducible exact j7|with_reducible exact j8|with_reducible exact j9|with_reducible exact mG|kernel_rfl
theorem over:Rows.roadsBytesRow.holds Tryz.pinned (OpenSpec.ofChange Rows.roadsBytesSpec):=
  OpenClaim.holds_of_wide 10 Tryz.f10 rfl rfl rfl rfl rfl rfl rfl ⟨rfl,rfl,rfl,rfl,rfl⟩ rfl rfl rfl rfl rfl (by kernel_rfl) Tryz.func10 iE
    (of_decide_eq_true (by kernel_rfl)) (by unfold Func.isWrapper;first|(rw [bB (by decide+kernel)];kernel_rfl)|(rw [bC (by decide+kernel)];exact ⟨rfl,rfl⟩))
    (fun os started H enc _=>lifted os started H enc)
end Go.Proofs.YtimbepcdlehjjaaGreat.roadsBytes
namespace Go.Proofs.YtimbepcdlehjjaaGreat
theorem roadsBytes_holds:Rows.RoadsBytesSaid:=roadsBytes.over
end Go.Proofs.YtimbepcdlehjjaaGreat
