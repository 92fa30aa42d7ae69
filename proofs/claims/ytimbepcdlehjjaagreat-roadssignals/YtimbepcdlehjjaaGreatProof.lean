/-
  Proved: for every input, RoadsSignals returns true, and its arguments read afterwards as they read before.
  Conditions: none beyond those of the given row.
-/
import Derived.Test.YtimbepcdlehjjaaGreatPlainB
import Derived.Test.YtimbepcdlehjjaaGreatRows
import Derived.WalkKit
namespace Go.Abs.Roadsz
open Go Go.Abs Go.Proofs
theorem rd2:Rd Tryz.prog 2 A3 N7:=C8m Tryz.underlying2
theorem rd3:Rd Tryz.prog 3 A3 N7:=C8m Tryz.underlying3
theorem D3c:Rd Tryz.prog 148 A0z (fun x:Spot=>N7 x.X∧N7 x.Y):=
  B0e (A3h Tryz.underlying148 (wf:=_) (K9 (n:=1) rd2 rfl (fun _=>rfl) (K9 (n:=1) rd2 rfl (fun _=>rfl) A7p)) (by intro y;kernel_rfl)) A0z (fun x:Spot=>N7 x.X∧N7 x.Y) (fun y=>⟨y.1,y.2.1⟩) (fun _=>rfl) (fun y h=>⟨h.1,h.2.1⟩)
theorem rd37:Rd Tryz.prog 37 D0c (fun xs:(List Spot)=> ∀a∈xs,(fun x:Spot=>N7 x.X∧N7 x.Y) a):=A6o (sz:=2) Tryz.underlying37 D3c (fun _=>rfl) (by decide) (by kernel_rfl)
theorem rd39:Rd Tryz.prog 39 C8u (fun x:Curve=>(fun xs:(List Spot)=> ∀a∈xs,(fun x:Spot=>N7 x.X∧N7 x.Y) a) x.Pts):=
  B0e (A3h Tryz.underlying39 (wf:=_) (K9 (n:=1) rd37 rfl (fun _=>rfl) A7p) (by intro y;kernel_rfl)) C8u (fun x:Curve=>(fun xs:(List Spot)=> ∀a∈xs,(fun x:Spot=>N7 x.X∧N7 x.Y) a) x.Pts) (fun y=>⟨y.1⟩) (fun _=>rfl) (fun y h=>h.1)
theorem rd40:Rd Tryz.prog 40 C3k (fun xs:(List Int)=> ∀a∈xs,N7 a):=A6o (sz:=1) Tryz.underlying40 rd3 (fun _=>rfl) (by decide) (by kernel_rfl)
theorem rd42:Rd Tryz.prog 42 A8x (fun x:Lane=>N7 x.Kind∧(fun x:Curve=>(fun xs:(List Spot)=> ∀a∈xs,(fun x:Spot=>N7 x.X∧N7 x.Y) a) x.Pts) x.Curve_∧N7 x.Half∧N7 x.Limit∧(fun xs:(List Int)=> ∀a∈xs,N7 a) x.Next):=
  B0e (A3h Tryz.underlying42 (wf:=_) (K9 (n:=1) rd3 rfl (fun _=>rfl) (K9 (n:=1) rd39 rfl (fun _=>rfl) (K9 (n:=1) rd2 rfl (fun _=>rfl) (K9 (n:=1) rd2 rfl (fun _=>rfl) (K9 (n:=1) rd40 rfl (fun _=>rfl) A7p))))) (by intro y;kernel_rfl)) A8x (fun x:Lane=>N7 x.Kind∧(fun x:Curve=>(fun xs:(List Spot)=> ∀a∈xs,(fun x:Spot=>N7 x.X∧N7 x.Y) a) x.Pts) x.Curve_∧N7 x.Half∧N7 x.Limit∧(fun xs:(List Int)=> ∀a∈xs,N7 a) x.Next) (fun y=>⟨y.1,y.2.1,y.2.2.1,y.2.2.2.1,y.2.2.2.2.1⟩) (fun _=>rfl) (fun y h=>⟨h.1,h.2.1,h.2.2.1,h.2.2.2.1,h.2.2.2.2.1⟩)
theorem rd22:Rd Tryz.prog 22 D0b (fun xs:(List Lane)=> ∀a∈xs,(fun x:Lane=>N7 x.Kind∧(fun x:Curve=>(fun xs:(List Spot)=> ∀a∈xs,(fun x:Spot=>N7 x.X∧N7 x.Y) a) x.Pts) x.Curve_∧N7 x.Half∧N7 x.Limit∧(fun xs:(List Int)=> ∀a∈xs,N7 a) x.Next) a):=A6o (sz:=5) Tryz.underlying22 rd42 (fun _=>rfl) (by decide) (by kernel_rfl)
theorem rd91:Rd Tryz.prog 91 L5 (fun x:Part=>N7 x.Lane_∧N7 x.From∧N7 x.To∧N7 x.Rank):=
  B0e (A3h Tryz.underlying91 (wf:=_) (K9 (n:=1) rd3 rfl (fun _=>rfl) (K9 (n:=1) rd2 rfl (fun _=>rfl) (K9 (n:=1) rd2 rfl (fun _=>rfl) (K9 (n:=1) rd3 rfl (fun _=>rfl) A7p)))) (by intro y;kernel_rfl)) L5 (fun x:Part=>N7 x.Lane_∧N7 x.From∧N7 x.To∧N7 x.Rank) (fun y=>⟨y.1,y.2.1,y.2.2.1,y.2.2.2.1⟩) (fun _=>rfl) (fun y h=>⟨h.1,h.2.1,h.2.2.1,h.2.2.2.1⟩)
theorem rd43:Rd Tryz.prog 43 D0e (fun xs:(List Part)=> ∀a∈xs,(fun x:Part=>N7 x.Lane_∧N7 x.From∧N7 x.To∧N7 x.Rank) a):=A6o (sz:=4) Tryz.underlying43 rd91 (fun _=>rfl) (by decide) (by kernel_rfl)
theorem rd45:Rd Tryz.prog 45 V2 (fun x:Zone=>(fun xs:(List Part)=> ∀a∈xs,(fun x:Part=>N7 x.Lane_∧N7 x.From∧N7 x.To∧N7 x.Rank) a) x.Parts∧N7 x.Signal_):=
  B0e (A3h Tryz.underlying45 (wf:=_) (K9 (n:=1) rd43 rfl (fun _=>rfl) (K9 (n:=1) rd3 rfl (fun _=>rfl) A7p)) (by intro y;kernel_rfl)) V2 (fun x:Zone=>(fun xs:(List Part)=> ∀a∈xs,(fun x:Part=>N7 x.Lane_∧N7 x.From∧N7 x.To∧N7 x.Rank) a) x.Parts∧N7 x.Signal_) (fun y=>⟨y.1,y.2.1⟩) (fun _=>rfl) (fun y h=>⟨h.1,h.2.1⟩)
theorem rd23:Rd Tryz.prog 23 D0d (fun xs:(List Zone)=> ∀a∈xs,(fun x:Zone=>(fun xs:(List Part)=> ∀a∈xs,(fun x:Part=>N7 x.Lane_∧N7 x.From∧N7 x.To∧N7 x.Rank) a) x.Parts∧N7 x.Signal_) a):=A6o (sz:=2) Tryz.underlying23 rd45 (fun _=>rfl) (by decide) (by kernel_rfl)
theorem rd97:Rd Tryz.prog 97 W0 (fun x:Phase=>N7 x.Ticks∧(fun xs:(List Int)=> ∀a∈xs,N7 a) x.Green):=
  B0e (A3h Tryz.underlying97 (wf:=_) (K9 (n:=1) rd2 rfl (fun _=>rfl) (K9 (n:=1) rd40 rfl (fun _=>rfl) A7p)) (by intro y;kernel_rfl)) W0 (fun x:Phase=>N7 x.Ticks∧(fun xs:(List Int)=> ∀a∈xs,N7 a) x.Green) (fun y=>⟨y.1,y.2.1⟩) (fun _=>rfl) (fun y h=>⟨h.1,h.2.1⟩)
theorem rd46:Rd Tryz.prog 46 C7r (fun xs:(List Phase)=> ∀a∈xs,(fun x:Phase=>N7 x.Ticks∧(fun xs:(List Int)=> ∀a∈xs,N7 a) x.Green) a):=A6o (sz:=2) Tryz.underlying46 rd97 (fun _=>rfl) (by decide) (by kernel_rfl)
theorem rd48:Rd Tryz.prog 48 A7r (fun x:Signal=>N7 x.Offset∧(fun xs:(List Phase)=> ∀a∈xs,(fun x:Phase=>N7 x.Ticks∧(fun xs:(List Int)=> ∀a∈xs,N7 a) x.Green) a) x.Phases):=
  B0e (A3h Tryz.underlying48 (wf:=_) (K9 (n:=1) rd2 rfl (fun _=>rfl) (K9 (n:=1) rd46 rfl (fun _=>rfl) A7p)) (by intro y;kernel_rfl)) A7r (fun x:Signal=>N7 x.Offset∧(fun xs:(List Phase)=> ∀a∈xs,(fun x:Phase=>N7 x.Ticks∧(fun xs:(List Int)=> ∀a∈xs,N7 a) x.Green) a) x.Phases) (fun y=>⟨y.1,y.2.1⟩) (fun _=>rfl) (fun y h=>⟨h.1,h.2.1⟩)
theorem rd24:Rd Tryz.prog 24 C5j (fun xs:(List Signal)=> ∀a∈xs,(fun x:Signal=>N7 x.Offset∧(fun xs:(List Phase)=> ∀a∈xs,(fun x:Phase=>N7 x.Ticks∧(fun xs:(List Int)=> ∀a∈xs,N7 a) x.Green) a) x.Phases) a):=A6o (sz:=2) Tryz.underlying24 rd48 (fun _=>rfl) (by decide) (by kernel_rfl)
theorem rd50:Rd Tryz.prog 50 B4y (fun x:Work=>N7 x.Lane_∧N7 x.From∧N7 x.To∧N7 x.Begin∧N7 x.End∧N7 x.Limit):=
  B0e (A3h Tryz.underlying50 (wf:=_) (K9 (n:=1) rd3 rfl (fun _=>rfl) (K9 (n:=1) rd2 rfl (fun _=>rfl) (K9 (n:=1) rd2 rfl (fun _=>rfl) (K9 (n:=1) rd2 rfl (fun _=>rfl) (K9 (n:=1) rd2 rfl (fun _=>rfl) (K9 (n:=1) rd2 rfl (fun _=>rfl) A7p)))))) (by intro y;kernel_rfl)) B4y (fun x:Work=>N7 x.Lane_∧N7 x.From∧N7 x.To∧N7 x.Begin∧N7 x.End∧N7 x.Limit) (fun y=>⟨y.1,y.2.1,y.2.2.1,y.2.2.2.1,y.2.2.2.2.1,y.2.2.2.2.2.1⟩) (fun _=>rfl) (fun y h=>⟨h.1,h.2.1,h.2.2.1,h.2.2.2.1,h.2.2.2.2.1,h.2.2.2.2.2.1⟩)
theorem rd25:Rd Tryz.prog 25 D0f (fun xs:(List Work)=> ∀a∈xs,(fun x:Work=>N7 x.Lane_∧N7 x.From∧N7 x.To∧N7 x.Begin∧N7 x.End∧N7 x.Limit) a):=A6o (sz:=6) Tryz.underlying25 rd50 (fun _=>rfl) (by decide) (by kernel_rfl)
theorem rd27:Rd Tryz.prog 27 Y0 (fun x:Map=>N7 x.Version∧(fun xs:(List Lane)=> ∀a∈xs,(fun x:Lane=>N7 x.Kind∧(fun x:Curve=>(fun xs:(List Spot)=> ∀a∈xs,(fun x:Spot=>N7 x.X∧N7 x.Y) a) x.Pts) x.Curve_∧N7 x.Half∧N7 x.Limit∧(fun xs:(List Int)=> ∀a∈xs,N7 a) x.Next) a) x.Lanes∧(fun xs:(List Zone)=> ∀a∈xs,(fun x:Zone=>(fun xs:(List Part)=> ∀a∈xs,(fun x:Part=>N7 x.Lane_∧N7 x.From∧N7 x.To∧N7 x.Rank) a) x.Parts∧N7 x.Signal_) a) x.Zones∧(fun xs:(List Signal)=> ∀a∈xs,(fun x:Signal=>N7 x.Offset∧(fun xs:(List Phase)=> ∀a∈xs,(fun x:Phase=>N7 x.Ticks∧(fun xs:(List Int)=> ∀a∈xs,N7 a) x.Green) a) x.Phases) a) x.Signals∧(fun xs:(List Work)=> ∀a∈xs,(fun x:Work=>N7 x.Lane_∧N7 x.From∧N7 x.To∧N7 x.Begin∧N7 x.End∧N7 x.Limit) a) x.Works):=
  B0e (A3h Tryz.underlying27 (wf:=_) (K9 (n:=1) rd2 rfl (fun _=>rfl) (K9 (n:=1) rd22 rfl (fun _=>rfl) (K9 (n:=1) rd23 rfl (fun _=>rfl) (K9 (n:=1) rd24 rfl (fun _=>rfl) (K9 (n:=1) rd25 rfl (fun _=>rfl) A7p))))) (by intro y;kernel_rfl)) Y0 (fun x:Map=>N7 x.Version∧(fun xs:(List Lane)=> ∀a∈xs,(fun x:Lane=>N7 x.Kind∧(fun x:Curve=>(fun xs:(List Spot)=> ∀a∈xs,(fun x:Spot=>N7 x.X∧N7 x.Y) a) x.Pts) x.Curve_∧N7 x.Half∧N7 x.Limit∧(fun xs:(List Int)=> ∀a∈xs,N7 a) x.Next) a) x.Lanes∧(fun xs:(List Zone)=> ∀a∈xs,(fun x:Zone=>(fun xs:(List Part)=> ∀a∈xs,(fun x:Part=>N7 x.Lane_∧N7 x.From∧N7 x.To∧N7 x.Rank) a) x.Parts∧N7 x.Signal_) a) x.Zones∧(fun xs:(List Signal)=> ∀a∈xs,(fun x:Signal=>N7 x.Offset∧(fun xs:(List Phase)=> ∀a∈xs,(fun x:Phase=>N7 x.Ticks∧(fun xs:(List Int)=> ∀a∈xs,N7 a) x.Green) a) x.Phases) a) x.Signals∧(fun xs:(List Work)=> ∀a∈xs,(fun x:Work=>N7 x.Lane_∧N7 x.From∧N7 x.To∧N7 x.Begin∧N7 x.End∧N7 x.Limit) a) x.Works) (fun y=>⟨y.1,y.2.1,y.2.2.1,y.2.2.2.1,y.2.2.2.2.1⟩) (fun _=>rfl) (fun y h=>⟨h.1,h.2.1,h.2.2.1,h.2.2.2.1,h.2.2.2.2.1⟩)
end Go.Abs.Roadsz
namespace Go.Proofs.YtimbepcdlehjjaaGreat.roadsSignals
open Go.ChangeShapes Go.WideShapes Go.ChangeAt Go.RowKit Go.Abs Go.Abs.Roadsz
set_option linter.unusedVariables false
theorem own:ownKnob Tryz.prog.godebug=none:=by kernel_rfl
theorem B38:laidOutB Tryz.prog=true:=by kernel_rfl
set_option maxRecDepth 100000 in
theorem lifted (os:Os)(started:os.Started)(H:Type)(enc:TypeId×Value→H):
    ReturnsInHanded {} Tryz.checked os 11 .any (Rows.roadsSignalsSpec.pre6 enc Tryz.prog Tryz.f11 Rows.roadsSignalsRow.domain false) (Rows.roadsSignalsSpec.post enc Tryz.prog Tryz.f11 false true false false):=by
  refine returnsInHanded_of_change (C:=Tryz.checked) own started (by kernel_rfl) Tryz.func11
    (ChangeSpec.witness6 (enc:=enc) (C:=Tryz.checked) false ⟨#[],#[.agg #[.int .i64 0, .slice none 0 0, .slice none 0 0, .slice none 0 0, .slice none 0 0], .int .i64 0, .int .i64 0, .int .i64 0, .int .i64 0],[]⟩ 8 (by kernel_rfl) (by kernel_rfl) (by kernel_rfl) (by kernel_rfl)) ?_
  intro W base args ds gs before hval0 hW hcnd _
  have hval: ∀(j:Nat) t v,Tryz.f11.params[j]? =some t→args[j]? =some v→Value.okWide Tryz.prog W .any base t v:=hval0
  have hW':=hW
  obtain ⟨p,q,hA0,hV,rfl,hfz,hnd⟩:=hW
  have hA:DataW.TrodAll enc Tryz.prog W 0 (fun _=>true) true Tryz.f11.params.toList args.toList ds p:=hA0
  rw [Tryz.params11]at hA hval
  obtain ⟨v0,vs0,d0,ds0,p0,q0,hargs,rfl,rfl,h0,r0⟩:=trodAll_cons hA
  obtain ⟨v1,vs1,d1,ds1,p1,q1,rfl,rfl,rfl,h1,r1⟩:=trodAll_cons r0
  obtain ⟨v2,vs2,d2,ds2,p2,q2,rfl,rfl,rfl,h2,r2⟩:=trodAll_cons r1
  obtain ⟨v3,vs3,d3,ds3,p3,q3,rfl,rfl,rfl,h3,r3⟩:=trodAll_cons r2
  obtain ⟨v4,vs4,d4,ds4,p4,q4,rfl,rfl,rfl,h4,r4⟩:=trodAll_cons r3
  obtain ⟨rfl,rfl,rfl⟩:=trodAll_nil r4
  obtain rfl:args= #[v0,v1,v2,v3,v4]:=by cases args;simp_all
  obtain ⟨rfl,rfl⟩:=trodVars_none hV
  have k0:=h0
  have lt0: ∀x∈p0,x.block<W.heap.size:=by obtain ⟨m,hm⟩:=k0;exact DataW.trod_lt m _ _ _ hm
  obtain ⟨a0,w0,e0⟩:=D02 rd27 Tryz.underlying27 (hval 0 27 v0 rfl rfl) h0
  have k1:=h1
  have lt1: ∀x∈p1,x.block<W.heap.size:=by obtain ⟨m,hm⟩:=k1;exact DataW.trod_lt m _ _ _ hm
  obtain ⟨a1,w1,e1⟩:=B80 rd3 (by obtain ⟨_,rfl⟩:=okWide_int Tryz.underlying3 (hval 1 3 v1 rfl rfl);rfl) h1
  have k2:=h2
  have lt2: ∀x∈p2,x.block<W.heap.size:=by obtain ⟨m,hm⟩:=k2;exact DataW.trod_lt m _ _ _ hm
  obtain ⟨a2,w2,e2⟩:=B80 rd3 (by obtain ⟨_,rfl⟩:=okWide_int Tryz.underlying3 (hval 2 3 v2 rfl rfl);rfl) h2
  have k3:=h3
  have lt3: ∀x∈p3,x.block<W.heap.size:=by obtain ⟨m,hm⟩:=k3;exact DataW.trod_lt m _ _ _ hm
  obtain ⟨a3,w3,e3⟩:=B80 rd2 (by obtain ⟨_,rfl⟩:=okWide_int Tryz.underlying2 (hval 3 2 v3 rfl rfl);rfl) h3
  have k4:=h4
  have lt4: ∀x∈p4,x.block<W.heap.size:=by obtain ⟨m,hm⟩:=k4;exact DataW.trod_lt m _ _ _ hm
  obtain ⟨a4,w4,e4⟩:=B80 rd2 (by obtain ⟨_,rfl⟩:=okWide_int Tryz.underlying2 (hval 4 2 v4 rfl rfl);rfl) h4
  clear hA0 hval0
  refine (C7j (vs:= [v0,v1,v2,v3,v4]) (A9a a0 a1 a2 a3 a4 _ (A7k a0 a1 a2 a3 a4)) rfl ?_).mono fun e W' ⟨he,bel⟩=> ?_
  ·intro i d hi
   match i,hi with
   |0,hi=>cases hi;exact e0
   |1,hi=>cases hi;exact e1
   |2,hi=>cases hi;exact e2
   |3,hi=>cases hi;exact e3
   |4,hi=>cases hi;exact e4
   |i+5,hi=>simp at hi
  ·subst he
   exact ⟨_,rfl,_,_,_,[],_,[],hW',trodAll_mk1 (shut_bool Tryz.underlying4 _),(trodAll_cons_mk (Below.trod B38 (by kernel_rfl) (of_decide_eq_true (by kernel_rfl)) k0 bel lt0) (trodAll_cons_mk (Below.trod B38 (by kernel_rfl) (of_decide_eq_true (by kernel_rfl)) k1 bel lt1) (trodAll_cons_mk (Below.trod B38 (by kernel_rfl) (of_decide_eq_true (by kernel_rfl)) k2 bel lt2) (trodAll_cons_mk (Below.trod B38 (by kernel_rfl) (of_decide_eq_true (by kernel_rfl)) k3 bel lt3) (trodAll_cons_mk (Below.trod B38 (by kernel_rfl) (of_decide_eq_true (by kernel_rfl)) k4 bel lt4) trodAll_mk0))))),rfl,bel.frame _,fun h=>by cases h⟩
theorem j0:(mapsRowed Tryz.prog)=true:=by kernel_rfl
theorem j1:(Rows.roadsSignalsRow.inPlace==Tryz.prog.inPlace 11)=true:=by kernel_rfl
theorem j2:(Rows.roadsSignalsRow.unfollowed==Tryz.prog.unfollowed 11)=true:=by kernel_rfl
theorem j3:(Rows.roadsSignalsRow.recurses==Tryz.prog.recurses 11)=true:=by kernel_rfl
theorem j4:(Rows.roadsSignalsRow.named==Tryz.prog.varsNamed 11)=true:=by kernel_rfl
theorem j5:(Rows.roadsSignalsRow.plainKeys==Tryz.prog.plainKeys)=true:=by kernel_rfl
theorem j6:(Tryz.prog.stopsHeard)=true:=by kernel_rfl
theorem j7:(Tryz.prog.mayEnter)=true:=by kernel_rfl
theorem j8:(Rows.roadsSignalsRow.lifted==Tryz.prog.liftsFinal)=true:=by kernel_rfl
theorem j9:(Tryz.prog.make==some Rows.roadsSignalsRow.make)=true:=by kernel_rfl
theorem j10:(Rows.roadsSignalsRow.loops==(Tryz.f11.params.toList++Rows.roadsSignalsSpec.plain.varTypes Tryz.prog).any (Tryz.prog.loopsFrom ·))=true:=by kernel_rfl
theorem C91:joinedFacts Tryz.prog 11 Tryz.f11 Rows.roadsSignalsSpec Rows.roadsSignalsRow=true:=by
  unfold joinedFacts
  simp only [Bool.and_eq_true]
  repeat' apply And.intro
  all_goals first|with_reducible exact B38|with_reducible exact j0|with_reducible exact j1|with_reducible exact j2|with_reducible exact j3|with_reducible exact j4|with_reducible exact j5|with_reducible exact j6|with_reducible exact j7|with_reducible exact j8|with_reducible exact j9|with_reducible exact j10|kernel_rfl
theorem over:Rows.roadsSignalsRow.holds Tryz.pinned (OpenSpec.ofChange Rows.roadsSignalsSpec):=
  OpenClaim.holds_of_wide 11 Tryz.f11 rfl rfl rfl rfl rfl rfl rfl ⟨rfl,rfl,rfl,rfl,rfl⟩ rfl rfl rfl rfl rfl (by kernel_rfl) Tryz.func11 C91
    (of_decide_eq_true (by kernel_rfl)) (by unfold Func.isWrapper;first|(rw [if_pos (by decide+kernel)];kernel_rfl)|(rw [if_neg (by decide+kernel)];exact ⟨rfl,rfl⟩))
    (fun os started H enc _=>lifted os started H enc)
end Go.Proofs.YtimbepcdlehjjaaGreat.roadsSignals
namespace Go.Proofs.YtimbepcdlehjjaaGreat
theorem roadsSignals_holds:Rows.RoadsSignalsSaid:=roadsSignals.over
end Go.Proofs.YtimbepcdlehjjaaGreat
