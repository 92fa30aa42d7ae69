/-
  Proved: for every input, RoadsRoutes returns true, and its arguments read afterwards as they read before.
  Conditions: none beyond those of the given row.
-/
import Derived.Test.YtimbepcdlehjjaaGreatPlainB
import Derived.Test.YtimbepcdlehjjaaGreatRows
import Derived.WalkKit
namespace Go.Abs.Roadsz
open Go Go.Abs Go.Proofs
theorem rd2:Rd Tryz.prog 2 A5 S5:=D19 Tryz.underlying2
theorem rd3:Rd Tryz.prog 3 A5 S5:=D19 Tryz.underlying3
theorem D5v:Rd Tryz.prog 148 A2x (fun x:Spot=>S5 x.X∧S5 x.Y):=
  B2z (A5i Tryz.underlying148 (wf:=_) (P3 (n:=1) rd2 rfl (fun _=>rfl) (P3 (n:=1) rd2 rfl (fun _=>rfl) B02)) (by intro y;kernel_rfl)) A2x (fun x:Spot=>S5 x.X∧S5 x.Y) (fun y=>⟨y.1,y.2.1⟩) (fun _=>rfl) (fun y h=>⟨h.1,h.2.1⟩)
theorem rd37:Rd Tryz.prog 37 D2y (fun xs:(List Spot)=> ∀a∈xs,(fun x:Spot=>S5 x.X∧S5 x.Y) a):=A8x (sz:=2) Tryz.underlying37 D5v (fun _=>rfl) (by decide) (by kernel_rfl)
theorem rd39:Rd Tryz.prog 39 D1d (fun x:Curve=>(fun xs:(List Spot)=> ∀a∈xs,(fun x:Spot=>S5 x.X∧S5 x.Y) a) x.Pts):=
  B2z (A5i Tryz.underlying39 (wf:=_) (P3 (n:=1) rd37 rfl (fun _=>rfl) B02) (by intro y;kernel_rfl)) D1d (fun x:Curve=>(fun xs:(List Spot)=> ∀a∈xs,(fun x:Spot=>S5 x.X∧S5 x.Y) a) x.Pts) (fun y=>⟨y.1⟩) (fun _=>rfl) (fun y h=>h.1)
theorem D5w:Rd Tryz.prog 40 C5z (fun xs:(List Int)=> ∀a∈xs,S5 a):=A8x (sz:=1) Tryz.underlying40 rd3 (fun _=>rfl) (by decide) (by kernel_rfl)
theorem rd42:Rd Tryz.prog 42 B1d (fun x:Lane=>S5 x.Kind∧(fun x:Curve=>(fun xs:(List Spot)=> ∀a∈xs,(fun x:Spot=>S5 x.X∧S5 x.Y) a) x.Pts) x.Curve_∧S5 x.Half∧S5 x.Limit∧(fun xs:(List Int)=> ∀a∈xs,S5 a) x.Next):=
  B2z (A5i Tryz.underlying42 (wf:=_) (P3 (n:=1) rd3 rfl (fun _=>rfl) (P3 (n:=1) rd39 rfl (fun _=>rfl) (P3 (n:=1) rd2 rfl (fun _=>rfl) (P3 (n:=1) rd2 rfl (fun _=>rfl) (P3 (n:=1) D5w rfl (fun _=>rfl) B02))))) (by intro y;kernel_rfl)) B1d (fun x:Lane=>S5 x.Kind∧(fun x:Curve=>(fun xs:(List Spot)=> ∀a∈xs,(fun x:Spot=>S5 x.X∧S5 x.Y) a) x.Pts) x.Curve_∧S5 x.Half∧S5 x.Limit∧(fun xs:(List Int)=> ∀a∈xs,S5 a) x.Next) (fun y=>⟨y.1,y.2.1,y.2.2.1,y.2.2.2.1,y.2.2.2.2.1⟩) (fun _=>rfl) (fun y h=>⟨h.1,h.2.1,h.2.2.1,h.2.2.2.1,h.2.2.2.2.1⟩)
theorem rd22:Rd Tryz.prog 22 D2x (fun xs:(List Lane)=> ∀a∈xs,(fun x:Lane=>S5 x.Kind∧(fun x:Curve=>(fun xs:(List Spot)=> ∀a∈xs,(fun x:Spot=>S5 x.X∧S5 x.Y) a) x.Pts) x.Curve_∧S5 x.Half∧S5 x.Limit∧(fun xs:(List Int)=> ∀a∈xs,S5 a) x.Next) a):=A8x (sz:=5) Tryz.underlying22 rd42 (fun _=>rfl) (by decide) (by kernel_rfl)
theorem rd91:Rd Tryz.prog 91 R3 (fun x:Part=>S5 x.Lane_∧S5 x.From∧S5 x.To∧S5 x.Rank):=
  B2z (A5i Tryz.underlying91 (wf:=_) (P3 (n:=1) rd3 rfl (fun _=>rfl) (P3 (n:=1) rd2 rfl (fun _=>rfl) (P3 (n:=1) rd2 rfl (fun _=>rfl) (P3 (n:=1) rd3 rfl (fun _=>rfl) B02)))) (by intro y;kernel_rfl)) R3 (fun x:Part=>S5 x.Lane_∧S5 x.From∧S5 x.To∧S5 x.Rank) (fun y=>⟨y.1,y.2.1,y.2.2.1,y.2.2.2.1⟩) (fun _=>rfl) (fun y h=>⟨h.1,h.2.1,h.2.2.1,h.2.2.2.1⟩)
theorem rd43:Rd Tryz.prog 43 D30 (fun xs:(List Part)=> ∀a∈xs,(fun x:Part=>S5 x.Lane_∧S5 x.From∧S5 x.To∧S5 x.Rank) a):=A8x (sz:=4) Tryz.underlying43 rd91 (fun _=>rfl) (by decide) (by kernel_rfl)
theorem rd45:Rd Tryz.prog 45 A0g (fun x:Zone=>(fun xs:(List Part)=> ∀a∈xs,(fun x:Part=>S5 x.Lane_∧S5 x.From∧S5 x.To∧S5 x.Rank) a) x.Parts∧S5 x.Signal_):=
  B2z (A5i Tryz.underlying45 (wf:=_) (P3 (n:=1) rd43 rfl (fun _=>rfl) (P3 (n:=1) rd3 rfl (fun _=>rfl) B02)) (by intro y;kernel_rfl)) A0g (fun x:Zone=>(fun xs:(List Part)=> ∀a∈xs,(fun x:Part=>S5 x.Lane_∧S5 x.From∧S5 x.To∧S5 x.Rank) a) x.Parts∧S5 x.Signal_) (fun y=>⟨y.1,y.2.1⟩) (fun _=>rfl) (fun y h=>⟨h.1,h.2.1⟩)
theorem rd23:Rd Tryz.prog 23 D2z (fun xs:(List Zone)=> ∀a∈xs,(fun x:Zone=>(fun xs:(List Part)=> ∀a∈xs,(fun x:Part=>S5 x.Lane_∧S5 x.From∧S5 x.To∧S5 x.Rank) a) x.Parts∧S5 x.Signal_) a):=A8x (sz:=2) Tryz.underlying23 rd45 (fun _=>rfl) (by decide) (by kernel_rfl)
theorem rd97:Rd Tryz.prog 97 A5k (fun x:Phase=>S5 x.Ticks∧(fun xs:(List Int)=> ∀a∈xs,S5 a) x.Green):=
  B2z (A5i Tryz.underlying97 (wf:=_) (P3 (n:=1) rd2 rfl (fun _=>rfl) (P3 (n:=1) D5w rfl (fun _=>rfl) B02)) (by intro y;kernel_rfl)) A5k (fun x:Phase=>S5 x.Ticks∧(fun xs:(List Int)=> ∀a∈xs,S5 a) x.Green) (fun y=>⟨y.1,y.2.1⟩) (fun _=>rfl) (fun y h=>⟨h.1,h.2.1⟩)
theorem rd46:Rd Tryz.prog 46 D0c (fun xs:(List Phase)=> ∀a∈xs,(fun x:Phase=>S5 x.Ticks∧(fun xs:(List Int)=> ∀a∈xs,S5 a) x.Green) a):=A8x (sz:=2) Tryz.underlying46 rd97 (fun _=>rfl) (by decide) (by kernel_rfl)
theorem rd48:Rd Tryz.prog 48 B04 (fun x:Signal=>S5 x.Offset∧(fun xs:(List Phase)=> ∀a∈xs,(fun x:Phase=>S5 x.Ticks∧(fun xs:(List Int)=> ∀a∈xs,S5 a) x.Green) a) x.Phases):=
  B2z (A5i Tryz.underlying48 (wf:=_) (P3 (n:=1) rd2 rfl (fun _=>rfl) (P3 (n:=1) rd46 rfl (fun _=>rfl) B02)) (by intro y;kernel_rfl)) B04 (fun x:Signal=>S5 x.Offset∧(fun xs:(List Phase)=> ∀a∈xs,(fun x:Phase=>S5 x.Ticks∧(fun xs:(List Int)=> ∀a∈xs,S5 a) x.Green) a) x.Phases) (fun y=>⟨y.1,y.2.1⟩) (fun _=>rfl) (fun y h=>⟨h.1,h.2.1⟩)
theorem rd24:Rd Tryz.prog 24 C85 (fun xs:(List Signal)=> ∀a∈xs,(fun x:Signal=>S5 x.Offset∧(fun xs:(List Phase)=> ∀a∈xs,(fun x:Phase=>S5 x.Ticks∧(fun xs:(List Int)=> ∀a∈xs,S5 a) x.Green) a) x.Phases) a):=A8x (sz:=2) Tryz.underlying24 rd48 (fun _=>rfl) (by decide) (by kernel_rfl)
theorem rd50:Rd Tryz.prog 50 B7b (fun x:Work=>S5 x.Lane_∧S5 x.From∧S5 x.To∧S5 x.Begin∧S5 x.End∧S5 x.Limit):=
  B2z (A5i Tryz.underlying50 (wf:=_) (P3 (n:=1) rd3 rfl (fun _=>rfl) (P3 (n:=1) rd2 rfl (fun _=>rfl) (P3 (n:=1) rd2 rfl (fun _=>rfl) (P3 (n:=1) rd2 rfl (fun _=>rfl) (P3 (n:=1) rd2 rfl (fun _=>rfl) (P3 (n:=1) rd2 rfl (fun _=>rfl) B02)))))) (by intro y;kernel_rfl)) B7b (fun x:Work=>S5 x.Lane_∧S5 x.From∧S5 x.To∧S5 x.Begin∧S5 x.End∧S5 x.Limit) (fun y=>⟨y.1,y.2.1,y.2.2.1,y.2.2.2.1,y.2.2.2.2.1,y.2.2.2.2.2.1⟩) (fun _=>rfl) (fun y h=>⟨h.1,h.2.1,h.2.2.1,h.2.2.2.1,h.2.2.2.2.1,h.2.2.2.2.2.1⟩)
theorem rd25:Rd Tryz.prog 25 D31 (fun xs:(List Work)=> ∀a∈xs,(fun x:Work=>S5 x.Lane_∧S5 x.From∧S5 x.To∧S5 x.Begin∧S5 x.End∧S5 x.Limit) a):=A8x (sz:=6) Tryz.underlying25 rd50 (fun _=>rfl) (by decide) (by kernel_rfl)
theorem rd27:Rd Tryz.prog 27 A0s (fun x:Map=>S5 x.Version∧(fun xs:(List Lane)=> ∀a∈xs,(fun x:Lane=>S5 x.Kind∧(fun x:Curve=>(fun xs:(List Spot)=> ∀a∈xs,(fun x:Spot=>S5 x.X∧S5 x.Y) a) x.Pts) x.Curve_∧S5 x.Half∧S5 x.Limit∧(fun xs:(List Int)=> ∀a∈xs,S5 a) x.Next) a) x.Lanes∧(fun xs:(List Zone)=> ∀a∈xs,(fun x:Zone=>(fun xs:(List Part)=> ∀a∈xs,(fun x:Part=>S5 x.Lane_∧S5 x.From∧S5 x.To∧S5 x.Rank) a) x.Parts∧S5 x.Signal_) a) x.Zones∧(fun xs:(List Signal)=> ∀a∈xs,(fun x:Signal=>S5 x.Offset∧(fun xs:(List Phase)=> ∀a∈xs,(fun x:Phase=>S5 x.Ticks∧(fun xs:(List Int)=> ∀a∈xs,S5 a) x.Green) a) x.Phases) a) x.Signals∧(fun xs:(List Work)=> ∀a∈xs,(fun x:Work=>S5 x.Lane_∧S5 x.From∧S5 x.To∧S5 x.Begin∧S5 x.End∧S5 x.Limit) a) x.Works):=
  B2z (A5i Tryz.underlying27 (wf:=_) (P3 (n:=1) rd2 rfl (fun _=>rfl) (P3 (n:=1) rd22 rfl (fun _=>rfl) (P3 (n:=1) rd23 rfl (fun _=>rfl) (P3 (n:=1) rd24 rfl (fun _=>rfl) (P3 (n:=1) rd25 rfl (fun _=>rfl) B02))))) (by intro y;kernel_rfl)) A0s (fun x:Map=>S5 x.Version∧(fun xs:(List Lane)=> ∀a∈xs,(fun x:Lane=>S5 x.Kind∧(fun x:Curve=>(fun xs:(List Spot)=> ∀a∈xs,(fun x:Spot=>S5 x.X∧S5 x.Y) a) x.Pts) x.Curve_∧S5 x.Half∧S5 x.Limit∧(fun xs:(List Int)=> ∀a∈xs,S5 a) x.Next) a) x.Lanes∧(fun xs:(List Zone)=> ∀a∈xs,(fun x:Zone=>(fun xs:(List Part)=> ∀a∈xs,(fun x:Part=>S5 x.Lane_∧S5 x.From∧S5 x.To∧S5 x.Rank) a) x.Parts∧S5 x.Signal_) a) x.Zones∧(fun xs:(List Signal)=> ∀a∈xs,(fun x:Signal=>S5 x.Offset∧(fun xs:(List Phase)=> ∀a∈xs,(fun x:Phase=>S5 x.Ticks∧(fun xs:(List Int)=> ∀a∈xs,S5 a) x.Green) a) x.Phases) a) x.Signals∧(fun xs:(List Work)=> ∀a∈xs,(fun x:Work=>S5 x.Lane_∧S5 x.From∧S5 x.To∧S5 x.Begin∧S5 x.End∧S5 x.Limit) a) x.Works) (fun y=>⟨y.1,y.2.1,y.2.2.1,y.2.2.2.1,y.2.2.2.2.1⟩) (fun _=>rfl) (fun y h=>⟨h.1,h.2.1,h.2.2.1,h.2.2.2.1,h.2.2.2.2.1⟩)
end Go.Abs.Roadsz
namespace Go.Proofs.YtimbepcdlehjjaaGreat.roadsRoutes
open Go.ChangeShapes Go.WideShapes Go.ChangeAt Go.RowKit Go.Abs Go.Abs.Roadsz
set_option linter.unusedVariables false
theorem own:ownKnob Tryz.prog.godebug=none:=by kernel_rfl
theorem B8m:laidOutB Tryz.prog=true:=by kernel_rfl
set_option maxRecDepth 100000 in
theorem lifted (os:Os)(started:os.Started)(H:Type)(enc:TypeId×Value→H):
    ReturnsInHanded {} Tryz.checked os 9 .any (Rows.roadsRoutesSpec.pre6 enc Tryz.prog Tryz.f9 Rows.roadsRoutesRow.domain false) (Rows.roadsRoutesSpec.post enc Tryz.prog Tryz.f9 false true false false):=by
  refine returnsInHanded_of_change (C:=Tryz.checked) own started (by kernel_rfl) Tryz.func9
    (ChangeSpec.witness6 (enc:=enc) (C:=Tryz.checked) false ⟨#[],#[.agg #[.int .i64 0, .slice none 0 0, .slice none 0 0, .slice none 0 0, .slice none 0 0], .slice none 0 0, .int .i64 0, .int .i64 0],[]⟩ 8 (by kernel_rfl) (by kernel_rfl) (by kernel_rfl) (by kernel_rfl)) ?_
  intro W base args ds gs before hval0 hW hcnd _
  have hval: ∀(j:Nat) t v,Tryz.f9.params[j]? =some t→args[j]? =some v→Value.okWide Tryz.prog W .any base t v:=hval0
  have hW':=hW
  obtain ⟨p,q,hA0,hV,rfl,hfz,hnd⟩:=hW
  have hA:DataW.TrodAll enc Tryz.prog W 0 (fun _=>true) true Tryz.f9.params.toList args.toList ds p:=hA0
  rw [Tryz.params9]at hA hval
  obtain ⟨v0,vs0,d0,ds0,p0,q0,hargs,rfl,rfl,h0,r0⟩:=trodAll_cons hA
  obtain ⟨v1,vs1,d1,ds1,p1,q1,rfl,rfl,rfl,h1,r1⟩:=trodAll_cons r0
  obtain ⟨v2,vs2,d2,ds2,p2,q2,rfl,rfl,rfl,h2,r2⟩:=trodAll_cons r1
  obtain ⟨v3,vs3,d3,ds3,p3,q3,rfl,rfl,rfl,h3,r3⟩:=trodAll_cons r2
  obtain ⟨rfl,rfl,rfl⟩:=trodAll_nil r3
  obtain rfl:args= #[v0,v1,v2,v3]:=by cases args;simp_all
  obtain ⟨rfl,rfl⟩:=trodVars_none hV
  have k0:=h0
  have lt0: ∀x∈p0,x.block<W.heap.size:=by obtain ⟨m,hm⟩:=k0;exact DataW.trod_lt m _ _ _ hm
  obtain ⟨a0,w0,e0⟩:=D2m rd27 Tryz.underlying27 (hval 0 27 v0 rfl rfl) h0
  have k1:=h1
  have lt1: ∀x∈p1,x.block<W.heap.size:=by obtain ⟨m,hm⟩:=k1;exact DataW.trod_lt m _ _ _ hm
  obtain ⟨a1,w1,e1⟩:=C3e D5w (by obtain ⟨_,_,_,rfl⟩:=okWide_slice Tryz.underlying40 (hval 1 40 v1 rfl rfl);rfl) h1
  have k2:=h2
  have lt2: ∀x∈p2,x.block<W.heap.size:=by obtain ⟨m,hm⟩:=k2;exact DataW.trod_lt m _ _ _ hm
  obtain ⟨a2,w2,e2⟩:=C3e rd2 (by obtain ⟨_,rfl⟩:=okWide_int Tryz.underlying2 (hval 2 2 v2 rfl rfl);rfl) h2
  have k3:=h3
  have lt3: ∀x∈p3,x.block<W.heap.size:=by obtain ⟨m,hm⟩:=k3;exact DataW.trod_lt m _ _ _ hm
  obtain ⟨a3,w3,e3⟩:=C3e rd3 (by obtain ⟨_,rfl⟩:=okWide_int Tryz.underlying3 (hval 3 3 v3 rfl rfl);rfl) h3
  clear hA0 hval0
  refine (D05 (vs:= [v0,v1,v2,v3]) (B2n a0 a1 a2 a3 _ (B0v a0 a1 a2 a3)) rfl ?_).mono fun e W' ⟨he,bel⟩=> ?_
  ·intro i d hi
   match i,hi with
   |0,hi=>cases hi;exact e0
   |1,hi=>cases hi;exact e1
   |2,hi=>cases hi;exact e2
   |3,hi=>cases hi;exact e3
   |i+4,hi=>simp at hi
  ·subst he
   exact ⟨_,rfl,_,_,_,[],_,[],hW',trodAll_mk1 (shut_bool Tryz.underlying4 _),(trodAll_cons_mk (Below.trod B8m (by kernel_rfl) (of_decide_eq_true (by kernel_rfl)) k0 bel lt0) (trodAll_cons_mk (Below.trod B8m (by kernel_rfl) (of_decide_eq_true (by kernel_rfl)) k1 bel lt1) (trodAll_cons_mk (Below.trod B8m (by kernel_rfl) (of_decide_eq_true (by kernel_rfl)) k2 bel lt2) (trodAll_cons_mk (Below.trod B8m (by kernel_rfl) (of_decide_eq_true (by kernel_rfl)) k3 bel lt3) trodAll_mk0)))),rfl,bel.frame _,fun h=>by cases h⟩
theorem j0:(mapsRowed Tryz.prog)=true:=by kernel_rfl
theorem j1:(Rows.roadsRoutesRow.inPlace==Tryz.prog.inPlace 9)=true:=by kernel_rfl
theorem j2:(Rows.roadsRoutesRow.unfollowed==Tryz.prog.unfollowed 9)=true:=by kernel_rfl
theorem j3:(Rows.roadsRoutesRow.recurses==Tryz.prog.recurses 9)=true:=by kernel_rfl
theorem j4:(Rows.roadsRoutesRow.named==Tryz.prog.varsNamed 9)=true:=by kernel_rfl
theorem j5:(Rows.roadsRoutesRow.plainKeys==Tryz.prog.plainKeys)=true:=by kernel_rfl
theorem j6:(Tryz.prog.stopsHeard)=true:=by kernel_rfl
theorem j7:(Tryz.prog.mayEnter)=true:=by kernel_rfl
theorem j8:(Rows.roadsRoutesRow.lifted==Tryz.prog.liftsFinal)=true:=by kernel_rfl
theorem j9:(Tryz.prog.make==some Rows.roadsRoutesRow.make)=true:=by kernel_rfl
theorem j10:(Rows.roadsRoutesRow.loops==(Tryz.f9.params.toList++Rows.roadsRoutesSpec.plain.varTypes Tryz.prog).any (Tryz.prog.loopsFrom ·))=true:=by kernel_rfl
theorem D1l:joinedFacts Tryz.prog 9 Tryz.f9 Rows.roadsRoutesSpec Rows.roadsRoutesRow=true:=by
  unfold joinedFacts
  simp only [Bool.and_eq_true]
  repeat' apply And.intro
  all_goals first|with_reducible exact B8m|with_reducible exact j0|with_reducible exact j1|with_reducible exact j2|with_reducible exact j3|with_reducible exact j4|with_reducible exact j5|with_reducible exact j6|with_reducible exact j7|with_reducible exact j8|with_reducible exact j9|with_reducible exact j10|kernel_rfl
theorem over:Rows.roadsRoutesRow.holds Tryz.pinned (OpenSpec.ofChange Rows.roadsRoutesSpec):=
  OpenClaim.holds_of_wide 9 Tryz.f9 rfl rfl rfl rfl rfl rfl rfl ⟨rfl,rfl,rfl,rfl,rfl⟩ rfl rfl rfl rfl rfl (by kernel_rfl) Tryz.func9 D1l
    (of_decide_eq_true (by kernel_rfl)) (by unfold Func.isWrapper;first|(rw [if_pos (by decide+kernel)];kernel_rfl)|(rw [if_neg (by decide+kernel)];exact ⟨rfl,rfl⟩))
    (fun os started H enc _=>lifted os started H enc)
end Go.Proofs.YtimbepcdlehjjaaGreat.roadsRoutes
namespace Go.Proofs.YtimbepcdlehjjaaGreat
theorem roadsRoutes_holds:Rows.RoadsRoutesSaid:=roadsRoutes.over
end Go.Proofs.YtimbepcdlehjjaaGreat
