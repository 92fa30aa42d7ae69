/-
  The Go functions that WorldGaps reaches, as plain Lean functions, and the proofs that the program computes them.
-/
import Derived.Test.YtgjdiioennhoeaaGreatCoreD
import Derived.Test.YtgjdiioennhoeaaGreatProg
import Derived.KernelRfl
import Derived.IntWalk
import Derived.Shelf.SlicesE.Compact
set_option maxRecDepth 20000
set_option maxHeartbeats 4000000
set_option linter.unusedVariables false
namespace Go.Abs.World
noncomputable section
open Go Go.Abs Go.Proofs Tryz
attribute [local irreducible] L3 Lm Cq
structure Spot where
  X:Int
  Y:Int
  deriving Inhabited
structure CurveVector where
  x:Int
  y:Int
  deriving Inhabited
structure CurvePiece where
  p:Spot
  v:CurveVector
  l:Int
  start:Int
  deriving Inhabited
abbrev Bs:Spot→List D:=fun x=> [(i64 x.X),(i64 x.Y)]
structure Curve where
  Pts:(List Spot)
  deriving Inhabited
abbrev nS:Curve→List D:=fun x=> [(.list (List.map Bs x.Pts))]
structure Stay where
  Agent_:Int
  Zone_:Int
  Since:Int
  Rank:Int
  deriving Inhabited
abbrev K7:Stay→List D:=fun x=> [(i64 x.Agent_),(i64 x.Zone_),(i64 x.Since),(i64 x.Rank)]
abbrev A4:Int→List D:=fun x=> [.v (.int .i64 x)]
structure KitActor where
  R:Int
  S:Int
  V:Int
  Len:Int
  Begin:Int
  Disobeys:Bool
  deriving Inhabited
abbrev Sk:KitActor→List D:=fun x=> [(i64 x.R),(i64 x.S),(i64 x.V),(i64 x.Len),(i64 x.Begin),(bo x.Disobeys)]
abbrev mN:Bool→List D:=fun x=> [bo x]
structure Lane where
  Kind:Int
  Curve_:Curve
  Half:Int
  Limit:Int
  Next:(List Int)
  deriving Inhabited
structure Part where
  Lane_:Int
  From:Int
  To:Int
  Rank:Int
  deriving Inhabited
structure Zone where
  Parts:(List Part)
  Signal_:Int
  deriving Inhabited
structure Phase where
  Ticks:Int
  Green:(List Int)
  deriving Inhabited
structure Signal where
  Offset:Int
  Phases:(List Phase)
  deriving Inhabited
structure Work where
  Lane_:Int
  From:Int
  To:Int
  Begin:Int
  End:Int
  Limit:Int
  deriving Inhabited
structure Map where
  Version:Int
  Lanes:(List Lane)
  Zones:(List Zone)
  Signals:(List Signal)
  Works:(List Work)
  deriving Inhabited
abbrev Ft:Lane→List D:=fun x=> [(i64 x.Kind),(.list (List.map Bs x.Curve_.Pts)),(i64 x.Half),(i64 x.Limit),(.list (List.map A4 x.Next))]
abbrev Df:Part→List D:=fun x=> [(i64 x.Lane_),(i64 x.From),(i64 x.To),(i64 x.Rank)]
abbrev Fu:Zone→List D:=fun x=> [(.list (List.map Df x.Parts)),(i64 x.Signal_)]
abbrev Eb:Phase→List D:=fun x=> [(i64 x.Ticks),(.list (List.map A4 x.Green))]
abbrev Lw:Signal→List D:=fun x=> [(i64 x.Offset),(.list (List.map Eb x.Phases))]
abbrev Sl:Work→List D:=fun x=> [(i64 x.Lane_),(i64 x.From),(i64 x.To),(i64 x.Begin),(i64 x.End),(i64 x.Limit)]
structure Agent where
  Route:(List Int)
  S:Int
  V:Int
  Len:Int
  Begin:Int
  Obey:Bool
  Gone:Bool
  deriving Inhabited
abbrev E5:Agent→List D:=fun x=> [(.list (List.map A4 x.Route)),(i64 x.S),(i64 x.V),(i64 x.Len),(i64 x.Begin),(bo x.Obey),(bo x.Gone)]
structure State where
  Tick:Int
  Agents:(List Agent)
  In:(List Stay)
  deriving Inhabited
abbrev oC:Nat→List D:=fun x=> [.fn (.func x) [] []]
structure RoadsCheck where
  Map_:Map
  deriving Inhabited
abbrev mO:(Int×Int×Int)→List D:=fun x=> [(i64 x.1),(i64 x.2.1),(i64 x.2.2)]
structure RoadsWay where
  Map_:Map
  lanes:(List Int)
  starts:(List Int)
  length:Int
  deriving Inhabited
structure WorldSpan where
  from_:Int
  to:Int
  deriving Inhabited
structure Crash where
  Tick:Int
  A:Int
  B:Int
  Lane_:Int
  Zone_:Int
  Who:(List Int)
  deriving Inhabited
structure WorldScene where
  m:Map
  before:State
  after:State
  acts:(List Int)
  crashes:(List Crash)
  deriving Inhabited
abbrev Dg:Crash→List D:=fun x=> [(i64 x.Tick),(i64 x.A),(i64 x.B),(i64 x.Lane_),(i64 x.Zone_),(.list (List.map A4 x.Who))]
structure Pass where
  Zone_:Int
  Part_:Int
  From:Int
  To:Int
  deriving Inhabited
abbrev X9:Pass→List D:=fun x=> [(i64 x.Zone_),(i64 x.Part_),(i64 x.From),(i64 x.To)]
abbrev mP:(List Agent)→List D:=fun x=> [.list (List.map E5 x)]
abbrev nL:(List Stay)→List D:=fun x=> [.list (List.map K7 x)]
structure Span where
  Lane_:Int
  From:Int
  To:Int
  deriving Inhabited
abbrev Jt:Span→List D:=fun x=> [(i64 x.Lane_),(i64 x.From),(i64 x.To)]
structure Anon7 where
  x:Int
  y:Int
  signed:Bool
  code:Int
  deriving Inhabited
structure RuntimeBoundsError where
  x:Int
  y:Int
  signed:Bool
  code:Int
  deriving Inhabited
structure Anon13 where
  msg:ByteArray
  addr:Int
  deriving Inhabited
structure RuntimeErrorAddressString where
  msg:ByteArray
  addr:Int
  deriving Inhabited
structure Anon24 where
  Tick:Int
  Agents:(List Agent)
  In:(List Stay)
  deriving Inhabited
structure Anon32 where
  Version:Int
  Lanes:(List Lane)
  Zones:(List Zone)
  Signals:(List Signal)
  Works:(List Work)
  deriving Inhabited
structure Anon44 where
  Route:(List Int)
  S:Int
  V:Int
  Len:Int
  Begin:Int
  Obey:Bool
  Gone:Bool
  deriving Inhabited
structure Anon60 where
  Pts:(List Spot)
  deriving Inhabited
structure Anon62 where
  Kind:Int
  Curve_:Curve
  Half:Int
  Limit:Int
  Next:(List Int)
  deriving Inhabited
structure Anon72 where
  R:Int
  S:Int
  V:Int
  Len:Int
  Begin:Int
  Disobeys:Bool
  deriving Inhabited
structure Anon76 where
  Tick:Int
  A:Int
  B:Int
  Lane_:Int
  Zone_:Int
  Who:(List Int)
  deriving Inhabited
structure Anon82 where
  Stamp:Int
  Lo:Int
  Hi:Int
  deriving Inhabited
structure Mark where
  Stamp:Int
  Lo:Int
  Hi:Int
  deriving Inhabited
structure Anon92 where
  Lane_:Int
  From:Int
  To:Int
  deriving Inhabited
structure Point where
  X:Int
  Y:Int
  V:Int
  deriving Inhabited
structure Anon98 where
  Stamp:Int
  Seen:(List Span)
  Points:(List Point)
  deriving Inhabited
structure Scan where
  Stamp:Int
  Seen:(List Span)
  Points:(List Point)
  deriving Inhabited
structure Anon103 where
  X:Int
  Y:Int
  deriving Inhabited
structure Anon106 where
  X:Int
  Y:Int
  V:Int
  deriving Inhabited
structure Anon113 where
  Lane_:Int
  From:Int
  To:Int
  Rank:Int
  deriving Inhabited
structure Anon116 where
  Parts:(List Part)
  Signal_:Int
  deriving Inhabited
structure Anon119 where
  Offset:Int
  Phases:(List Phase)
  deriving Inhabited
structure Anon122 where
  Lane_:Int
  From:Int
  To:Int
  Begin:Int
  End:Int
  Limit:Int
  deriving Inhabited
structure Anon126 where
  Agent_:Int
  Zone_:Int
  Since:Int
  Rank:Int
  deriving Inhabited
structure Anon134 where
  m:Map
  before:State
  after:State
  acts:(List Int)
  crashes:(List Crash)
  deriving Inhabited
structure Anon164 where
  s:ByteArray
  bad:Bool
  deriving Inhabited
structure WorldReader where
  s:ByteArray
  bad:Bool
  deriving Inhabited
structure Anon171 where
  s:ByteArray
  bad:Bool
  deriving Inhabited
structure Ref04Reader where
  s:ByteArray
  bad:Bool
  deriving Inhabited
structure Anon190 where
  from_:Int
  to:Int
  deriving Inhabited
structure Anon207 where
  Ticks:Int
  Green:(List Int)
  deriving Inhabited
structure Anon211 where
  Map_:Map
  deriving Inhabited
structure Anon228 where
  Zone_:Int
  Part_:Int
  From:Int
  To:Int
  deriving Inhabited
structure WorldBar where
  front:Spot
  rear:Spot
  deriving Inhabited
structure Anon245 where
  m:Map
  eye:Spot
  view:Int
  bodies:(List (List Span))
  bars:(List WorldBar)
  deriving Inhabited
structure WorldLooks where
  m:Map
  eye:Spot
  view:Int
  bodies:(List (List Span))
  bars:(List WorldBar)
  deriving Inhabited
structure Anon247 where
  front:Spot
  rear:Spot
  deriving Inhabited
structure Anon252 where
  x:Int
  y:Int
  deriving Inhabited
structure Anon254 where
  p:Spot
  v:CurveVector
  l:Int
  start:Int
  deriving Inhabited
structure Anon259 where
  Map_:Map
  lanes:(List Int)
  starts:(List Int)
  length:Int
  deriving Inhabited
abbrev Nv:WorldScene→List D:=fun x=> [(i64 x.m.Version),(.list (List.map Ft x.m.Lanes)),(.list (List.map Fu x.m.Zones)),(.list (List.map Lw x.m.Signals)),(.list (List.map Sl x.m.Works)),(i64 x.before.Tick),(.list (List.map E5 x.before.Agents)),(.list (List.map K7 x.before.In)),(i64 x.after.Tick),(.list (List.map E5 x.after.Agents)),(.list (List.map K7 x.after.In)),(.list (List.map A4 x.acts)),(.list (List.map Dg x.crashes))]
abbrev V0:WorldScene→List AV:=fun x=> [(.d (i64 x.m.Version)),(.d (.list (List.map Ft x.m.Lanes))),(.d (.list (List.map Fu x.m.Zones))),(.d (.list (List.map Lw x.m.Signals))),(.d (.list (List.map Sl x.m.Works))),(.d (i64 x.before.Tick)),(.d (.list (List.map E5 x.before.Agents))),(.d (.list (List.map K7 x.before.In))),(.d (i64 x.after.Tick)),(.d (.list (List.map E5 x.after.Agents))),(.d (.list (List.map K7 x.after.In))),(.d (.list (List.map A4 x.acts))),(.d (.list (List.map Dg x.crashes)))]
abbrev WX:RoadsWay→List D:=fun x=> [(i64 x.Map_.Version),(.list (List.map Ft x.Map_.Lanes)),(.list (List.map Fu x.Map_.Zones)),(.list (List.map Lw x.Map_.Signals)),(.list (List.map Sl x.Map_.Works)),(.list (List.map A4 x.lanes)),(.list (List.map A4 x.starts)),(i64 x.length)]
abbrev Nb:RoadsWay→List AV:=fun x=> [(.d (i64 x.Map_.Version)),(.d (.list (List.map Ft x.Map_.Lanes))),(.d (.list (List.map Fu x.Map_.Zones))),(.d (.list (List.map Lw x.Map_.Signals))),(.d (.list (List.map Sl x.Map_.Works))),(.d (.list (List.map A4 x.lanes))),(.d (.list (List.map A4 x.starts))),(.d (i64 x.length))]
abbrev X5:Agent→List AV:=fun x=> [(.d (.list (List.map A4 x.Route))),(.d (i64 x.S)),(.d (i64 x.V)),(.d (i64 x.Len)),(.d (i64 x.Begin)),(.d (bo x.Obey)),(.d (bo x.Gone))]
abbrev Sm:KitActor→List AV:=fun x=> [(.d (i64 x.R)),(.d (i64 x.S)),(.d (i64 x.V)),(.d (i64 x.Len)),(.d (i64 x.Begin)),(.d (bo x.Disobeys))]
abbrev mQ:Work→List AV:=fun x=> [(.d (i64 x.Lane_)),(.d (i64 x.From)),(.d (i64 x.To)),(.d (i64 x.Begin)),(.d (i64 x.End)),(.d (i64 x.Limit))]
abbrev PX:CurvePiece→List D:=fun x=> [(i64 x.p.X),(i64 x.p.Y),(i64 x.v.x),(i64 x.v.y),(i64 x.l),(i64 x.start)]
abbrev PY:CurvePiece→List AV:=fun x=> [(.d (i64 x.p.X)),(.d (i64 x.p.Y)),(.d (i64 x.v.x)),(.d (i64 x.v.y)),(.d (i64 x.l)),(.d (i64 x.start))]
abbrev V1:Map→List D:=fun x=> [(i64 x.Version),(.list (List.map Ft x.Lanes)),(.list (List.map Fu x.Zones)),(.list (List.map Lw x.Signals)),(.list (List.map Sl x.Works))]
abbrev N4:Map→List AV:=fun x=> [(.d (i64 x.Version)),(.d (.list (List.map Ft x.Lanes))),(.d (.list (List.map Fu x.Zones))),(.d (.list (List.map Lw x.Signals))),(.d (.list (List.map Sl x.Works)))]
abbrev BX:Lane→List AV:=fun x=> [(.d (i64 x.Kind)),(.d (.list (List.map Bs x.Curve_.Pts))),(.d (i64 x.Half)),(.d (i64 x.Limit)),(.d (.list (List.map A4 x.Next)))]
abbrev HR:Part→List AV:=fun x=> [(.d (i64 x.Lane_)),(.d (i64 x.From)),(.d (i64 x.To)),(.d (i64 x.Rank))]
abbrev Ys:Stay→List AV:=fun x=> [(.d (i64 x.Agent_)),(.d (i64 x.Zone_)),(.d (i64 x.Since)),(.d (i64 x.Rank))]
abbrev Ku:State→List D:=fun x=> [(i64 x.Tick),(.list (List.map E5 x.Agents)),(.list (List.map K7 x.In))]
abbrev O7:State→List AV:=fun x=> [(.d (i64 x.Tick)),(.d (.list (List.map E5 x.Agents))),(.d (.list (List.map K7 x.In)))]
def Pb (p1:Int)(p2:Int):Option Int:=
  (Tl p1 p2).bind fun v1=>cond (decide (v1<0)) (some (D2 (v1+p2))) (some v1)
theorem Ps(p1 p2 r)(h:Pb p1 p2=some r):PCall prog 37 [(i64 p1),(i64 p2)] (i64 r):=by
 refine C3 (fk func37 ntmps37 m0 (by with_unfolding_all rfl)) (nl W) ?_
 unfold Pb at h
 refine B4 (s0:=⟨T [(0,(.d _)),(1,(.d _))],G []⟩) (G9 W W) ?_
 refine B1<|sv W<|A2<|B1<|sv W<|sv W<|bs h fun _ hv1 h=>sd W (HL W W hv1)<|sv W<|A2<|A6<|B1<|sv W<|sv W<|A2<|cc W h (fun c1 h=> ?_)<|fun c1 h=> ?_
 refine C6<|sv W<|sv W<|sv W<|sv W<|A2<|B1<|sv W<|sv W<|A2<|B2 ?_
 cases h
 exact A7 (.inr W) (B6 (B3 W) C1) (.refl _)
 refine A9<|B1<|sv W<|sv W<|A2<|B2 ?_
 cases h
 exact A7 (.inr W) (B6 (B3 W) C1) (.refl _)
def Wi (p4:(List Int))(x1:(Int× (List Spot))):Option (Stp (Int× (List Spot)) (List Spot)):=
  cond (decide ((D2 (x1.1+1))< (p4.length:Int))) ((B8 p4 x1.1).bind fun v1=>(B8 p4 (D2 (x1.1+1))).bind fun v2=>(Bj x1.2 [(Spot.mk v1 v2)]).bind fun v3=>some (.go ((D2 (x1.1+2)),v3))) (some (.out x1.2))
def T0 [Lp](p1:Int)(p2:Int)(p3:(List Int))(p4:(List Int)):Option Lane:=
  (loop (Wi p4) (0,[])).bind fun y1=>cond (p1==3) (some (Lane.mk p1 (Curve.mk y1) 500 p2 p3)) (some (Lane.mk p1 (Curve.mk y1) 1500 p2 p3))
theorem R3(p1 p2 p3 p4 r)(h:T0 p1 p2 p3 p4=some r):PCall prog 69 [(i64 p1),(i64 p2),(.list (List.map A4 p3)),(.list (List.map A4 p4))] (.agg (Ft r)):=by
 refine C3 (fk func69 ntmps69 (fun r=>if r==5 then [1013]else []) (by with_unfolding_all rfl)) (nl W) ?_
 unfold T0 at h
 refine B4 (s0:=⟨T [(0,(.d _)),(1,(.d _)),(2,(.d _)),(3,(.d _))],G []⟩) (G9 W W) ?_
 refine lr<|fun u1 _=>sm W<|A2<|lr<|fun u2 _=>sv W<|sv W<|sv W<|sv W<|sm W<|V5 W G_hit [(di p1),(.d .nilS),(di 1500),(di p2),(dl A4 p3)] W (A2<|A6<|B1<|sv W<|A2<|bs h fun y1 hy1 h=>E7 (fun s=> ∃g1:Nat,Sb ⟨T [(0,(di p1)),(8,(.ptr (8,u1) 0)),(9,(.ptr (9,u2) 0))],G [((8,u1),some<|.box 63 (((zs 4).set 1 (.d .nilS))++ [(.d .nilS)])),((9,u2),some<|.box 63 [(di p1),(oS y1 (36,g1)),(di 1500),(di p2),(dl A4 p3)]),((36,g1),oB 104 2 Bs y1)]⟩ s) ?_ ?_)
 refine A8<|G6 (Wi p4) (fun (x1:(Int× (List Spot))) (g2:Nat)=>⟨T [(0,(di p1)),(3,(dl A4 p4)),(8,(.ptr (8,u1) 0)),(9,(.ptr (9,u2) 0)),(10,(di x1.1))],G [((8,u1),some<|.box 63 (((zs 4).set 1 (.d .nilS))++ [(.d .nilS)])),((9,u2),some<|.box 63 [(di p1),(oS x1.2 (36,g2)),(di 1500),(di p2),(dl A4 p3)]),((36,g2),oB 104 2 Bs x1.2)]⟩) (0,[]) 0 _ hy1 (F6 (Dv W)<|sg W<|B5 G_hit (.of W)<|T8 trivial) ?_
 intro x1 g2 z1 hz1 ez1
 unfold Wi at hz1
 refine A6<|B1<|sv W<|sv W<|sv W<|sd W (E8 W)<|sv W<|A2<|cc W hz1 (fun c1 hz1=> ?_)<|fun c1 hz1=> ?_
 refine A9<|A6<|A8<|Mz W fun u5 _=>sq W<|sq W<|C0 (oS x1.2 (36,g2)) W (U5 W (gq W) W) (sv W<|sv W<|bs hz1 fun v1 hv1 hz1=>sd W (E2 W W hv1 W)<|sd W (H5 W hv1 W)<|sv W<|sv W<|sv W<|bs hz1 fun v2 hv2 hz1=>sd W (E2 W W hv2 W)<|sd W (H5 W hv2 W)<|sv W<|C0 (dl Bs [(Spot.mk v1 v2)]) W W (bs hz1 fun _ hv3 hz1=>U7 Bs (36,g2) x1.2 (Spot.mk v1 v2) [] _ (P0<|fun _=>W) W (gq W) hv3 (sq W<|sp W W<|V5 W (gq W) [(di p1),(.sl (36,u5)),(di 1500),(di p2),(dl A4 p3)] W (A2<|F9<|C6<|sv W<|sv W<|sv W<|A2<|G5 ?_))))
 cases hz1
 exact ⟨W,u5,(F6 (Dv W)<|sg W<|B5 G_hit (.box (cv<|.cons (.of (X1<|Aj hv3).symm) cw))<|O8 (gq W) trivial)⟩
 refine D5 W ?_
 cases hz1
 obtain rfl:=ez1 _ rfl
 refine ⟨nofun,D4 W<|X2 ?_⟩
 exact ⟨g2,(F6 (Dv W)<|B5 G_hit (.of W)<|sg W<|C2 (gq W) trivial)⟩
 rintro _ ⟨g1,q1⟩
 refine B4 q1<|A6<|B1<|sv W<|sv W<|A2<|cc W h (fun c2 h=> ?_)<|fun c2 h=> ?_
 refine C6<|sq W<|V5 W (gq W) [(di p1),(oS y1 (36,g1)),(di 500),(di p2),(dl A4 p3)] W (A2<|B1<|C0 (Ak [(di p1),(oS y1 (36,g1)),(di 500),(di p2),(dl A4 p3)]) W (B7 W G_hit W W) (Nn _ _ _ _ _ (Aw _) W W (gq W) (nl W) [(di p1),(oS y1 (36,g1)),(di 500),(di p2),(dl A4 p3)] W (A2<|B2 ?_)))
 cases h
 exact A7 (.inr W) (B6 (M1 W G_hit (nl W) W)<|Pq<|rD<|E3 (X4<|gq W)<|rD<|rD<|rD G2) (.agg (ca W<|.cons ⟨X3,W⟩ (cz W)))
 refine A9<|B1<|C0 (Ak [(di p1),(oS y1 (36,g1)),(di 1500),(di p2),(dl A4 p3)]) W (B7 W (gq W) W W) (Nn _ _ _ _ _ (Aw _) W W G_hit (nl W) [(di p1),(oS y1 (36,g1)),(di 1500),(di p2),(dl A4 p3)] W (A2<|B2 ?_))
 cases h
 exact A7 (.inr W) (B6 (M1 W G_hit (nl W) W)<|Pq<|rD<|E3 (X4<|gq W)<|rD<|rD<|rD G2) (.agg (ca W<|.cons ⟨X3,W⟩ (cz W)))
def Pt (p1:Int)(p2:Int)(p3:Int):Option Signal:=
  some (Signal.mk p1 [(Phase.mk 12 [p2]),(Phase.mk 5 []),(Phase.mk 9 [p3]),(Phase.mk 4 [])])
theorem Rr(p1 p2 p3 r)(h:Pt p1 p2 p3=some r):PCall prog 70 [(i64 p1),(i64 p2),(i64 p3)] (.agg [(i64 r.Offset),(.list (List.map Eb r.Phases))]):=by
 refine C3 (fk func70 ntmps70 (fun r=>if r==1 then [1002,1006,1009]else []) (by with_unfolding_all rfl)) (nl W) ?_
 unfold Pt at h
 refine B4 (s0:=⟨T [(0,(.d _)),(1,(.d _)),(2,(.d _))],G []⟩) (G9 W W) ?_
 refine B1<|sm W<|A2<|B1<|sv W<|sv W<|C0 (dl A4 [p2]) W W (sv W<|sv W<|sv W<|C0 (dl A4 [p3]) W W (sv W<|sv W<|C0 (dl Eb [(Phase.mk 12 [p2]),(Phase.mk 5 []),(Phase.mk 9 [p3]),(Phase.mk 4 [])]) W W (sv W<|V5 W G_hit [(di p1),(dl Eb [(Phase.mk 12 [p2]),(Phase.mk 5 []),(Phase.mk 9 [p3]),(Phase.mk 4 [])])] W (A2<|B2 ?_))))
 cases h
 exact A7 (.inr W) (B6 (M1 W G_hit (nl W) W) C1) (.refl _)
def Xy [Lp](p1:Int):Option Map:=
  (Pb p1 16777216).bind fun v1=>(B8 [1500,600,1000,300] ((D2 (v1.tdiv 7)).tmod 4)).bind fun v2=>(cond ((v1.tmod 7)==0) ((T0 1 v2 [] [0,0,60000,0]).bind fun v3=>some ([v3],[],[])) ((cond ((v1.tmod 7)==1) (some ((v1.tmod 7)==1)) (some ((v1.tmod 7)==2))).bind fun y2=>cond y2 ((T0 1 v2 [] [0,0,50000,0]).bind fun v4=>(T0 1 1500 [] [30000,(-20000),30000,20000]).bind fun v5=>cond ((v1.tmod 7)==2) ((B8 [(Zone.mk [(Part.mk 0 28000 32000 ((D2 (v1.tdiv 28)).tmod 2)),(Part.mk 1 18000 22000 (D2 (2 - (D2 (2* ((D2 (v1.tdiv 28)).tmod 2))))))] 0)] 0).bind fun v6=>(Pt ((D2 (v1.tdiv 28)).tmod 31) 0 1).bind fun v7=>some ([v4,v5],(Kd [(Zone.mk [(Part.mk 0 28000 32000 ((D2 (v1.tdiv 28)).tmod 2)),(Part.mk 1 18000 22000 (D2 (2 - (D2 (2* ((D2 (v1.tdiv 28)).tmod 2))))))] 0)] 0 (Zone.mk v6.Parts 1)),[v7])) (some ([v4,v5],[(Zone.mk [(Part.mk 0 28000 32000 ((D2 (v1.tdiv 28)).tmod 2)),(Part.mk 1 18000 22000 (D2 (2 - (D2 (2* ((D2 (v1.tdiv 28)).tmod 2))))))] 0)],[]))) (cond ((v1.tmod 7)==3) ((T0 1 v2 [1,2] [0,0,30000,0]).bind fun v8=>(T0 1 1500 [] [30000,0,60000,0]).bind fun v9=>(T0 1 800 [] [30000,0,54000,10000]).bind fun v10=>some ([v8,v9,v10],[],[])) (cond ((v1.tmod 7)==4) ((T0 1 v2 [2] [0,0,30000,0]).bind fun v11=>(T0 1 1500 [2] [6000,(-10000),30000,0]).bind fun v12=>(T0 1 1500 [] [30000,0,60000,0]).bind fun v13=>some ([v11,v12,v13],[(Zone.mk [(Part.mk 0 25000 30000 1),(Part.mk 1 20000 26000 0),(Part.mk 2 0 5000 0)] 0)],[])) (cond ((v1.tmod 7)==5) ((T0 1 v2 [1] [0,0,20000,0]).bind fun v14=>(T0 1 v2 [] [20000,0,50000,0]).bind fun v15=>(T0 3 200 [] [35000,(-8000),35000,8000]).bind fun v16=>some ([v14,v15,v16],[(Zone.mk [(Part.mk 1 14000 16000 0),(Part.mk 2 6000 10000 3)] 0)],[])) (cond ((v1.tmod 7)==6) ((T0 1 v2 [1,2] [0,0,20000,0]).bind fun v17=>(T0 1 1500 [] [20000,0,50000,0]).bind fun v18=>(T0 1 1000 [] [20000,0,44000,10000]).bind fun v19=>(T0 2 700 [] [36000,(-12000),36000,18000]).bind fun v20=>cond (((D2 (v1.tdiv 28)).tmod 2)==1) ((B8 [(Zone.mk [(Part.mk 1 14000 18000 1),(Part.mk 3 10000 14000 0)] 0),(Zone.mk [(Part.mk 2 14000 21000 1),(Part.mk 3 14500 23000 0)] 0)] 0).bind fun v21=>(B8 (Kd [(Zone.mk [(Part.mk 1 14000 18000 1),(Part.mk 3 10000 14000 0)] 0),(Zone.mk [(Part.mk 2 14000 21000 1),(Part.mk 3 14500 23000 0)] 0)] 0 (Zone.mk v21.Parts 1)) 1).bind fun v22=>(Pt ((D2 (v1.tdiv 56)).tmod 31) 1 3).bind fun v23=>(Pt ((D2 (v1.tdiv 56)).tmod 17) 2 3).bind fun v24=>some ([v17,v18,v19,v20],(Kd (Kd [(Zone.mk [(Part.mk 1 14000 18000 1),(Part.mk 3 10000 14000 0)] 0),(Zone.mk [(Part.mk 2 14000 21000 1),(Part.mk 3 14500 23000 0)] 0)] 0 (Zone.mk v21.Parts 1)) 1 (Zone.mk v22.Parts 2)),[v23,v24])) (some ([v17,v18,v19,v20],[(Zone.mk [(Part.mk 1 14000 18000 1),(Part.mk 3 10000 14000 0)] 0),(Zone.mk [(Part.mk 2 14000 21000 1),(Part.mk 3 14500 23000 0)] 0)],[]))) (some ([],[],[])))))))).bind fun y1=>cond (((D2 (v1.tdiv 1736)).tmod 3)==1) (some (Map.mk ((D2 (v1.tdiv 28)).tmod 5) y1.1 y1.2.1 y1.2.2 [(Work.mk 0 10000 15000 ((D2 (v1.tdiv 5208)).tmod 40) (D2 (((D2 (v1.tdiv 5208)).tmod 40)+20)) (D2 (((D2 (v1.tdiv 208320)).tmod 3)*200)))])) (some (Map.mk ((D2 (v1.tdiv 28)).tmod 5) y1.1 y1.2.1 y1.2.2 []))
theorem TE(p1 r)(h:Xy p1=some r):PCall prog 22 [(i64 p1)] (.agg (V1 r)):=by
 refine C3 (fk func22 ntmps22 (fun r=>if r==2 then [1000]else if r==6 then [1001]else if r==9 then [1001,1003]else if r==10 then [1010]else if r==15 then [1001,1002,1004,1006]else if r==17 then [1001,1002,1004,1005,1007]else if r==18 then [1003]else if r==20 then [1001,1002,1005,1007]else if r==21 then [1002]else if r==23 then [1001,1002,1004,1006,1008]else if r==24 then [1002,1006]else if r==30 then [1012]else []) (by with_unfolding_all rfl)) (nl W) ?_
 unfold Xy at h
 refine B4 (s0:=⟨T [(0,(.d _))],G []⟩) (G9 W W) ?_
 refine lr<|fun u1 _=>sm W<|A2<|B1<|sv W<|bs h fun v1 hv1 h=>B0 W W A3 (Ps _ _ _ hv1) (.inl W) (sv W<|A2<|B1<|C0 (dl A4 [1500,600,1000,300]) W W (sv W<|sv W<|sv W<|bs h fun v2 hv2 h=>sd W (E2 W W hv2 W)<|sd W (H5 W hv2 W)<|sv W<|A2<|lr<|fun u4 _=>sm W<|A2<|A6<|B1<|sv W<|sv W<|A2<|bs h fun y1 hy1 h=>E7 (fun s=> ∃g1:(({d:Nat // d∈ [20,30,69,82,102,122]}×Nat)× ({d:Nat // d∈ [44,89,108,132]}×Nat)× ({d:Nat // d∈ [57,154]}×Nat)),Sb ⟨T [(0,(di v1)),(2,(.ptr (2,u1) 0)),(4,(.ptr (4,u4) 0))],G [((2,u1),some<|.box 33 [(di 0),(.d .nilS),(.d .nilS),(.d .nilS),(.d .nilS)]),((4,u4),some<|.box 33 [(di 0),(oS y1.1 (g1.1.1.val,g1.1.2)),(oS y1.2.1 (g1.2.1.1.val,g1.2.1.2)),(oS y1.2.2 (g1.2.2.1.val,g1.2.2.2)),(.d .nilS)]),((g1.1.1.val,g1.1.2),oB 63 5 Ft y1.1),((g1.2.1.1.val,g1.2.1.2),oB 117 2 Fu y1.2.1),((g1.2.2.1.val,g1.2.2.2),oB 120 2 Lw y1.2.2)]⟩ s) ?_ ?_))
 refine A8<|B1<|sv W<|sv W<|A2<|cc W hy1 (fun c1 hy1=> ?_)<|fun c1 hy1=> ?_
 refine Cd fun u7 _=>sv W<|C0 (dl A4 [0,0,60000,0]) W W (bs hy1 fun v3 hv3 hy1=>B0 W W (.cons (.refl _) (.cons (.refl _) (.cons DLe.nil A3))) (R3 _ _ _ _ _ hv3) (.inl W) (Ms (.sl _) (.arr 63 5 (List.map Ft ([v3]:List Lane))) W W (sq W<|V5 W (gq W) [(di 0),(.sl (20,u7)),(.d .nilS),(.d .nilS),(.d .nilS)] W (A2<|F9 ?_))))
 cases hy1
 exact X2 ⟨((⟨20, .head _⟩,u7),(⟨44, .head _⟩,0),(⟨57, .head _⟩,0)),(F6 (Dv W)<|sg W<|B5 G_hit (.box (cv<|.cons (.of (X1<|List.cons_ne_nil _ _).symm) cw))<|O8 (gq W)<|T8<|T8 trivial)⟩
 refine A6<|B1<|sv W<|sv W<|A2<|bs hy1 fun y2 hy2 hy1=>E7 (fun s=> ∃g2:Unit,Sb ⟨T [(0,(di v1)),(2,(.ptr (2,u1) 0)),(3,(di v2)),(4,(.ptr (4,u4) 0)),(14,(di<|v1.tmod 7)),(22,(.d (bo y2)))],G [((2,u1),some<|.box 33 [(di 0),(.d .nilS),(.d .nilS),(.d .nilS),(.d .nilS)]),((4,u4),some<|.box 33 [(di 0),(.d .nilS),(.d .nilS),(.d .nilS),(.d .nilS)])]⟩ s) ?_ ?_
 refine cc W hy2 (fun c2 hy2=> ?_)<|fun c2 hy2=> ?_
 refine A9 ?_
 cases hy2
 exact X2 ⟨(),(G9 W W)⟩
 refine C6<|sv W<|sv W<|A2 ?_
 cases hy2
 exact X2 ⟨(),(G9 W W)⟩
 rintro _ ⟨g2,q1⟩
 refine B4 q1<|cc W hy1 (fun c3 hy1=> ?_)<|fun c3 hy1=> ?_
 refine lr<|fun u10 _=>sv W<|C0 (dl A4 [0,0,50000,0]) W W (bs hy1 fun v4 hv4 hy1=>B0 W W (.cons (.refl _) (.cons (.refl _) (.cons DLe.nil A3))) (R3 _ _ _ _ _ hv4) (.inl W) (C0 (dl A4 [30000,(-20000),30000,20000]) W W (bs hy1 fun v5 hv5 hy1=>B0 W W (.cons (.refl _) (.cons (.refl _) (.cons DLe.nil A3))) (R3 _ _ _ _ _ hv5) (.inl W) (Ms (.sl _) (.arr 63 5 (List.map Ft ([v4,v5]:List Lane))) W (Lu Ft _ (fun _=>W) W W ⟨W,W,W,W,W,W,trivial⟩) (sq W<|V5 W (gq W) [(di 0),(.sl (30,u10)),(.d .nilS),(.d .nilS),(.d .nilS)] W (A2<|lr<|fun u11 _=>sv W<|sv W<|sv W<|sv W<|sv W<|sv W<|sv W<|sv W<|sv W<|sv W<|C0 (dl Df [(Part.mk 0 28000 32000 ((D2<|v1.tdiv 28).tmod 2)),(Part.mk 1 18000 22000<|D2 (2 - (D2 (2* ((D2<|v1.tdiv 28).tmod 2)))))]) W W (sv W<|Ms (.sl _) (.arr 117 2 (List.map Fu ([(Zone.mk [(Part.mk 0 28000 32000 ((D2<|v1.tdiv 28).tmod 2)),(Part.mk 1 18000 22000<|D2 (2 - (D2 (2* ((D2<|v1.tdiv 28).tmod 2)))))] 0)]:List Zone))) W W (sq W<|V5 W (gq W) [(di 0),(.sl (30,u10)),(.sl (44,u11)),(.d .nilS),(.d .nilS)] W (A2<|B1<|sv W<|sv W<|sv W<|A2<|cc W hy1 (fun c4 hy1=> ?_)<|fun c4 hy1=> ?_)))))))))
 refine B1<|sq W<|C0 (.sl _) W (U5 W G_hit W) (bs hy1 fun v6 hv6 hy1=>C0 (.aptr _ _ _ _) W (Jy W W (gq W) hv6) (C0 (.aptr _ _ _ _) W W (Sh Fu _ _ _ (0) _ (Zone.mk v6.Parts 1) [(i64 1)] W W W (gq W) hv6 (nl W) W (A2<|Cd fun u14 _=>sv W<|sv W<|sv W<|bs hy1 fun v7 hv7 hy1=>B0 W W A3 (Rr _ _ _ _ hv7) (.inl W) (Ms (.sl _) (.arr 120 2 (List.map Lw ([v7]:List Signal))) W W (sq W<|V5 W (gq W) [(di 0),(.sl (30,u10)),(.sl (44,u11)),(.sl (57,u14)),(.d .nilS)] W (A2<|F9 ?_)))))))
 cases hy1
 exact X2 ⟨((⟨30, .tail _ (.head _)⟩,u10),(⟨44, .head _⟩,u11),(⟨57, .head _⟩,u14)),(F6 (Dv W)<|sg W<|B5 G_hit (.box (cv<|.cons (.of (X1<|List.cons_ne_nil _ _).symm) (.cons (.of (X1<|FW<|List.cons_ne_nil _ _).symm) (.cons (.of (X1<|List.cons_ne_nil _ _).symm) cw))))<|O8 (gq W)<|O8 (gq W)<|O8 (gq W) trivial)⟩
 refine A9<|F9 ?_
 cases hy1
 exact X2 ⟨((⟨30, .tail _ (.head _)⟩,u10),(⟨44, .head _⟩,u11),(⟨57, .head _⟩,0)),(F6 (Dv W)<|sg W<|B5 G_hit (.box (cv<|.cons (.of (X1<|List.cons_ne_nil _ _).symm) (.cons (.of (X1<|List.cons_ne_nil _ _).symm) cw)))<|O8 (gq W)<|O8 (gq W)<|T8 trivial)⟩
 refine B1<|sv W<|sv W<|A2<|cc W hy1 (fun c5 hy1=> ?_)<|fun c5 hy1=> ?_
 refine Cd fun u16 _=>sv W<|C0 (dl A4 [1,2]) W W (C0 (dl A4 [0,0,30000,0]) W W (bs hy1 fun v8 hv8 hy1=>B0 W W A3 (R3 _ _ _ _ _ hv8) (.inl W) (C0 (dl A4 [30000,0,60000,0]) W W (bs hy1 fun v9 hv9 hy1=>B0 W W (.cons (.refl _) (.cons (.refl _) (.cons DLe.nil A3))) (R3 _ _ _ _ _ hv9) (.inl W) (C0 (dl A4 [30000,0,54000,10000]) W W (bs hy1 fun v10 hv10 hy1=>B0 W W (.cons (.refl _) (.cons (.refl _) (.cons DLe.nil A3))) (R3 _ _ _ _ _ hv10) (.inl W) (Ms (.sl _) (.arr 63 5 (List.map Ft ([v8,v9,v10]:List Lane))) W (Lu Ft _ (fun _=>W) W W ⟨W,W,W,W,W,W,W,W,W,trivial⟩) (sq W<|V5 W (gq W) [(di 0),(.sl (69,u16)),(.d .nilS),(.d .nilS),(.d .nilS)] W (A2<|F9 ?_)))))))))
 cases hy1
 exact X2 ⟨((⟨69, .tail _ (.tail _ (.head _))⟩,u16),(⟨44, .head _⟩,0),(⟨57, .head _⟩,0)),(F6 (Dv W)<|sg W<|B5 G_hit (.box (cv<|.cons (.of (X1<|List.cons_ne_nil _ _).symm) cw))<|O8 (gq W)<|T8<|T8 trivial)⟩
 refine B1<|sv W<|sv W<|A2<|cc W hy1 (fun c6 hy1=> ?_)<|fun c6 hy1=> ?_
 refine lr<|fun u18 _=>sv W<|C0 (dl A4 [2]) W W (C0 (dl A4 [0,0,30000,0]) W W (bs hy1 fun v11 hv11 hy1=>B0 W W A3 (R3 _ _ _ _ _ hv11) (.inl W) (C0 (dl A4 [2]) W W (C0 (dl A4 [6000,(-10000),30000,0]) W W (bs hy1 fun v12 hv12 hy1=>B0 W W A3 (R3 _ _ _ _ _ hv12) (.inl W) (C0 (dl A4 [30000,0,60000,0]) W W (bs hy1 fun v13 hv13 hy1=>B0 W W (.cons (.refl _) (.cons (.refl _) (.cons DLe.nil A3))) (R3 _ _ _ _ _ hv13) (.inl W) (Ms (.sl _) (.arr 63 5 (List.map Ft ([v11,v12,v13]:List Lane))) W (Lu Ft _ (fun _=>W) W W ⟨W,W,W,W,W,W,W,W,W,trivial⟩) (sq W<|V5 W (gq W) [(di 0),(.sl (82,u18)),(.d .nilS),(.d .nilS),(.d .nilS)] W (A2<|Cd fun u19 _=>sv W<|sv W<|sv W<|C0 (dl Df [(Part.mk 0 25000 30000 1),(Part.mk 1 20000 26000 0),(Part.mk 2 0 5000 0)]) W (Xx Df ([(Part.mk 0 25000 30000 1),(Part.mk 1 20000 26000 0),(Part.mk 2 0 5000 0)]:List Part) (fun _=>W) W W ⟨W,W,W,W,W,W,W,W,W,trivial⟩ (fun _=>W)) (sv W<|Ms (.sl _) (.arr 117 2 (List.map Fu ([(Zone.mk [(Part.mk 0 25000 30000 1),(Part.mk 1 20000 26000 0),(Part.mk 2 0 5000 0)] 0)]:List Zone))) W W (sq W<|V5 W (gq W) [(di 0),(.sl (82,u18)),(.sl (89,u19)),(.d .nilS),(.d .nilS)] W (A2<|F9 ?_)))))))))))))
 cases hy1
 exact X2 ⟨((⟨82, .tail _ (.tail _ (.tail _ (.head _)))⟩,u18),(⟨89, .tail _ (.head _)⟩,u19),(⟨57, .head _⟩,0)),(F6 (Dv W)<|sg W<|B5 G_hit (.box (cv<|.cons (.of (X1<|List.cons_ne_nil _ _).symm) (.cons (.of (X1<|List.cons_ne_nil _ _).symm) cw)))<|O8 (gq W)<|O8 (gq W)<|T8 trivial)⟩
 refine B1<|sv W<|sv W<|A2<|cc W hy1 (fun c7 hy1=> ?_)<|fun c7 hy1=> ?_
 refine lr<|fun u21 _=>sv W<|C0 (dl A4 [1]) W W (C0 (dl A4 [0,0,20000,0]) W W (bs hy1 fun v14 hv14 hy1=>B0 W W A3 (R3 _ _ _ _ _ hv14) (.inl W) (sv W<|C0 (dl A4 [20000,0,50000,0]) W W (bs hy1 fun v15 hv15 hy1=>B0 W W (.cons (.refl _) (.cons (.refl _) (.cons DLe.nil A3))) (R3 _ _ _ _ _ hv15) (.inl W) (C0 (dl A4 [35000,(-8000),35000,8000]) W W (bs hy1 fun v16 hv16 hy1=>B0 W W (.cons (.refl _) (.cons (.refl _) (.cons DLe.nil A3))) (R3 _ _ _ _ _ hv16) (.inl W) (Ms (.sl _) (.arr 63 5 (List.map Ft ([v14,v15,v16]:List Lane))) W (Lu Ft _ (fun _=>W) W W ⟨W,W,W,W,W,W,W,W,W,trivial⟩) (sq W<|V5 W (gq W) [(di 0),(.sl (102,u21)),(.d .nilS),(.d .nilS),(.d .nilS)] W (A2<|Cd fun u22 _=>sv W<|sv W<|C0 (dl Df [(Part.mk 1 14000 16000 0),(Part.mk 2 6000 10000 3)]) W W (sv W<|Ms (.sl _) (.arr 117 2 (List.map Fu ([(Zone.mk [(Part.mk 1 14000 16000 0),(Part.mk 2 6000 10000 3)] 0)]:List Zone))) W W (sq W<|V5 W (gq W) [(di 0),(.sl (102,u21)),(.sl (108,u22)),(.d .nilS),(.d .nilS)] W (A2<|F9 ?_))))))))))))
 cases hy1
 exact X2 ⟨((⟨102, .tail _ (.tail _ (.tail _ (.tail _ (.head _))))⟩,u21),(⟨108, .tail _ (.tail _ (.head _))⟩,u22),(⟨57, .head _⟩,0)),(F6 (Dv W)<|sg W<|B5 G_hit (.box (cv<|.cons (.of (X1<|List.cons_ne_nil _ _).symm) (.cons (.of (X1<|List.cons_ne_nil _ _).symm) cw)))<|O8 (gq W)<|O8 (gq W)<|T8 trivial)⟩
 refine B1<|sv W<|sv W<|A2<|cc W hy1 (fun c8 hy1=> ?_)<|fun c8 hy1=> ?_
 refine lr<|fun u24 _=>sv W<|C0 (dl A4 [1,2]) W W (C0 (dl A4 [0,0,20000,0]) W W (bs hy1 fun v17 hv17 hy1=>B0 W W A3 (R3 _ _ _ _ _ hv17) (.inl W) (C0 (dl A4 [20000,0,50000,0]) W W (bs hy1 fun v18 hv18 hy1=>B0 W W (.cons (.refl _) (.cons (.refl _) (.cons DLe.nil A3))) (R3 _ _ _ _ _ hv18) (.inl W) (C0 (dl A4 [20000,0,44000,10000]) W W (bs hy1 fun v19 hv19 hy1=>B0 W W (.cons (.refl _) (.cons (.refl _) (.cons DLe.nil A3))) (R3 _ _ _ _ _ hv19) (.inl W) (C0 (dl A4 [36000,(-12000),36000,18000]) W W (bs hy1 fun v20 hv20 hy1=>B0 W W (.cons (.refl _) (.cons (.refl _) (.cons DLe.nil A3))) (R3 _ _ _ _ _ hv20) (.inl W) (Ms (.sl _) (.arr 63 5 (List.map Ft ([v17,v18,v19,v20]:List Lane))) W (Lu Ft _ (fun _=>W) W W ⟨W,W,W,W,W,W,W,W,W,W,W,W,trivial⟩) (sq W<|V5 W (gq W) [(di 0),(.sl (122,u24)),(.d .nilS),(.d .nilS),(.d .nilS)] W (A2<|lr<|fun u25 _=>sv W<|sv W<|C0 (dl Df [(Part.mk 1 14000 18000 1),(Part.mk 3 10000 14000 0)]) W W (sv W<|sv W<|sv W<|C0 (dl Df [(Part.mk 2 14000 21000 1),(Part.mk 3 14500 23000 0)]) W W (sv W<|Ms (.sl _) (.arr 117 2 (List.map Fu ([(Zone.mk [(Part.mk 1 14000 18000 1),(Part.mk 3 10000 14000 0)] 0),(Zone.mk [(Part.mk 2 14000 21000 1),(Part.mk 3 14500 23000 0)] 0)]:List Zone))) W W (sq W<|V5 W (gq W) [(di 0),(.sl (122,u24)),(.sl (132,u25)),(.d .nilS),(.d .nilS)] W (A2<|B1<|sv W<|sv W<|sv W<|sv W<|A2<|cc W hy1 (fun c9 hy1=> ?_)<|fun c9 hy1=> ?_)))))))))))))))
 refine A6<|FY fun _ _=>Em (.ptr _ _) W W (Em (.sl _) W (U5 W G_hit W) (Em (.ptr _ _) W W (Em (.sl _) W (U5 W G_hit W) (bs hy1 fun v21 hv21 hy1=>Em (.aptr _ _ _ _) W (Jy W W (gq W) hv21) (Em (.aptr _ _ _ _) W W (PV Fu _ _ _ (0) _ (Zone.mk v21.Parts 1) [(i64 1)] W W W (gq W) hv21 (nl W) W (bs hy1 fun v22 hv22 hy1=>Em (.aptr _ _ _ _) W (Jy W W G_hit hv22) (Em (.aptr _ _ _ _) W W (PV Fu _ _ _ (1) _ (Zone.mk v22.Parts 2) [(i64 2)] W W W G_hit hv22 (nl W) W (UY ⟨W,?_⟩))))))))))
 refine Cd fun u28 _=>sv W<|sv W<|sv W<|bs hy1 fun v23 hv23 hy1=>B0 W W A3 (Rr _ _ _ _ hv23) (.inl W) (sv W<|sv W<|sv W<|bs hy1 fun v24 hv24 hy1=>B0 W W A3 (Rr _ _ _ _ hv24) (.inl W) (Ms (.sl _) (.arr 120 2 (List.map Lw ([v23,v24]:List Signal))) W W (sq W<|V5 W (gq W) [(di 0),(.sl (122,u24)),(.sl (132,u25)),(.sl (154,u28)),(.d .nilS)] W (A2<|F9 ?_))))
 cases hy1
 exact X2 ⟨((⟨122, .tail _ (.tail _ (.tail _ (.tail _ (.tail _ (.head _)))))⟩,u24),(⟨132, .tail _ (.tail _ (.tail _ (.head _)))⟩,u25),(⟨154, .tail _ (.head _)⟩,u28)),(F6 (Dv W)<|sg W<|B5 G_hit (.box (cv<|.cons (.of (X1<|List.cons_ne_nil _ _).symm) (.cons (.of (X1<|FW<|FW<|List.cons_ne_nil _ _).symm) (.cons (.of (X1<|List.cons_ne_nil _ _).symm) cw))))<|O8 (gq W)<|O8 (gq W)<|O8 (gq W) trivial)⟩
 refine A9<|F9 ?_
 cases hy1
 exact X2 ⟨((⟨122, .tail _ (.tail _ (.tail _ (.tail _ (.tail _ (.head _)))))⟩,u24),(⟨132, .tail _ (.tail _ (.tail _ (.head _)))⟩,u25),(⟨57, .head _⟩,0)),(F6 (Dv W)<|sg W<|B5 G_hit (.box (cv<|.cons (.of (X1<|List.cons_ne_nil _ _).symm) (.cons (.of (X1<|List.cons_ne_nil _ _).symm) cw)))<|O8 (gq W)<|O8 (gq W)<|T8 trivial)⟩
 refine A9<|F9 ?_
 cases hy1
 exact X2 ⟨((⟨20, .head _⟩,0),(⟨44, .head _⟩,0),(⟨57, .head _⟩,0)),(F6 (Dv W)<|B5 G_hit (.of W)<|sg W<|T8<|T8<|T8 trivial)⟩
 rintro _ ⟨g1,q2⟩
 refine B4 q2<|B1<|sv W<|sv W<|sv W<|sq W<|V5 W (gq W) [(di ((D2<|v1.tdiv 28).tmod 5)),(oS y1.1 (g1.1.1.val,g1.1.2)),(oS y1.2.1 (g1.2.1.1.val,g1.2.1.2)),(oS y1.2.2 (g1.2.2.1.val,g1.2.2.2)),(.d .nilS)] W (A2<|A6<|B1<|sv W<|sv W<|sv W<|sv W<|A2<|cc W h (fun c10 h=> ?_)<|fun c10 h=> ?_)
 refine C6<|sv W<|sv W<|sv W<|sv W<|sv W<|sv W<|sv W<|sv W<|sv W<|sv W<|sv W<|sv W<|C0 (dl Sl [(Work.mk 0 10000 15000 ((D2<|v1.tdiv 5208).tmod 40) (D2 (((D2<|v1.tdiv 5208).tmod 40)+20)) (D2 (((D2<|v1.tdiv 208320).tmod 3)*200)))]) W W (sq W<|V5 W G_hit [(di ((D2<|v1.tdiv 28).tmod 5)),(oS y1.1 (g1.1.1.val,g1.1.2)),(oS y1.2.1 (g1.2.1.1.val,g1.2.1.2)),(oS y1.2.2 (g1.2.2.1.val,g1.2.2.2)),(dl Sl [(Work.mk 0 10000 15000 ((D2<|v1.tdiv 5208).tmod 40) (D2 (((D2<|v1.tdiv 5208).tmod 40)+20)) (D2 (((D2<|v1.tdiv 208320).tmod 3)*200)))])] W (A2<|B1<|C0 (Ak [(di ((D2<|v1.tdiv 28).tmod 5)),(oS y1.1 (g1.1.1.val,g1.1.2)),(oS y1.2.1 (g1.2.1.1.val,g1.2.1.2)),(oS y1.2.2 (g1.2.2.1.val,g1.2.2.2)),(dl Sl [(Work.mk 0 10000 15000 ((D2<|v1.tdiv 5208).tmod 40) (D2 (((D2<|v1.tdiv 5208).tmod 40)+20)) (D2 (((D2<|v1.tdiv 208320).tmod 3)*200)))])]) W (B7 W G_hit W W) (Nn _ _ _ _ _ (Aw _) W W (gq W) (nl W) [(di ((D2<|v1.tdiv 28).tmod 5)),(oS y1.1 (g1.1.1.val,g1.1.2)),(oS y1.2.1 (g1.2.1.1.val,g1.2.1.2)),(oS y1.2.2 (g1.2.2.1.val,g1.2.2.2)),(dl Sl [(Work.mk 0 10000 15000 ((D2<|v1.tdiv 5208).tmod 40) (D2 (((D2<|v1.tdiv 5208).tmod 40)+20)) (D2 (((D2<|v1.tdiv 208320).tmod 3)*200)))])] W (A2<|B2 ?_))))
 cases h
 exact A7 (.inr W) (B6 (M1 W G_hit (nl W) W)<|Pq<|rD<|E3 (X4<|Yk g1.1.1.property 5 W G_hit)<|E3 (X4<|Yk g1.2.1.1.property 5 W<|G3 (WV g1.2.1.1.property g1.1.1.property W) G_hit)<|E3 (X4<|Yk g1.2.2.1.property 5 W<|G3 (WV g1.2.2.1.property g1.1.1.property W)<|G3 (WV g1.2.2.1.property g1.2.1.1.property W) G_hit)<|rD G2) (.agg (ca W<|.cons ⟨X3,W⟩ (.cons ⟨X3,W⟩ (.cons ⟨X3,W⟩ (cz W)))))
 refine A9<|B1<|C0 (Ak [(di ((D2<|v1.tdiv 28).tmod 5)),(oS y1.1 (g1.1.1.val,g1.1.2)),(oS y1.2.1 (g1.2.1.1.val,g1.2.1.2)),(oS y1.2.2 (g1.2.2.1.val,g1.2.2.2)),(.d .nilS)]) W (B7 W G_hit W W) (Nn _ _ _ _ _ (Aw _) W W (gq W) (nl W) [(di ((D2<|v1.tdiv 28).tmod 5)),(oS y1.1 (g1.1.1.val,g1.1.2)),(oS y1.2.1 (g1.2.1.1.val,g1.2.1.2)),(oS y1.2.2 (g1.2.2.1.val,g1.2.2.2)),(.d .nilS)] W (A2<|B2 ?_))
 cases h
 exact A7 (.inr W) (B6 (M1 W G_hit (nl W) W)<|Pq<|rD<|E3 (X4<|Yk g1.1.1.property 4 W G_hit)<|E3 (X4<|Yk g1.2.1.1.property 4 W<|G3 (WV g1.2.1.1.property g1.1.1.property W) G_hit)<|E3 (X4<|Yk g1.2.2.1.property 4 W<|G3 (WV g1.2.2.1.property g1.1.1.property W)<|G3 (WV g1.2.2.1.property g1.2.1.1.property W) G_hit)<|rD G2) (.agg (ca W<|.cons ⟨X3,W⟩ (.cons ⟨X3,W⟩ (.cons ⟨X3,W⟩ (.cons ⟨DLe.nil,W⟩ .nil)))))
def Lx (p1:(List Int))(p2:Int)(x1:Int):Option (Stp Int (Sum Unit Bool)):=
  cond (decide (x1< (p1.length:Int))) ((B8 p1 x1).bind fun v1=>cond (v1==p2) (some (.out (.inr true))) (some (.go (D2 (x1+1))))) (some (.out (.inl ())))
def Nc [Lp](p1:(List Int))(p2:Int):Option Bool:=
  thenS (loop (Lx p1 p2) 0) (fun _=>some false) (fun r=>some r)
theorem BY(p1 p2 r)(h:Nc p1 p2=some r):PCall prog 190 [(.list (List.map A4 p1)),(i64 p2)] (bo r):=by
 refine C3 (fk func190 ntmps190 m0 (by with_unfolding_all rfl)) (nl W) ?_
 unfold Nc at h
 refine B4 (s0:=⟨T [(0,(.d _)),(1,(.d _))],G []⟩) (G9 W W) ?_
 refine B1<|sv W<|A2<|A6<|B1<|sv W<|A2<|js h fun z1 hz1 h=>E7 (fun s=> ∃(y1:Unit) (g1:Unit),z1= .inl y1∧Sb ⟨T [],G []⟩ s) ?_ ?_
 refine A8<|G6 (Lx p1 p2) (fun (x1:Int) (g2:Unit)=>⟨T [(0,(dl A4 p1)),(1,(di p2)),(5,(di x1))],G []⟩) 0 () _ hz1 (G9 W W) ?_
 intro x1 g2 z2 hz2 ez2
 unfold Lx at hz2
 refine A6<|B1<|sv W<|sv W<|sd W (E8 W)<|sv W<|A2<|cc W hz2 (fun c1 hz2=> ?_)<|fun c1 hz2=> ?_
 refine A9<|A6<|A8<|B1<|sv W<|sv W<|bs hz2 fun _ hv1 hz2=>sd W (E2 W W hv1 W)<|sd W (H5 W hv1 W)<|sv W<|sv W<|A2<|cc W hz2 (fun c2 hz2=> ?_)<|fun c2 hz2=> ?_
 refine B1<|sv W<|A2<|B2 ?_
 cases hz2
 obtain rfl:=ez2 _ rfl
 refine ⟨nofun,H4 ?_⟩
 rw [wE]at h
 cases h
 exact A7 (.inr W) (B6 (B3 W) C1) (.refl _)
 refine A9<|F9<|C6<|sv W<|sv W<|sv W<|A2<|G5 ?_
 cases hz2
 exact ⟨W,(),(G9 W W)⟩
 refine D5 W ?_
 cases hz2
 obtain rfl:=ez2 _ rfl
 refine ⟨nofun,D4 W<|X2 ?_⟩
 exact ⟨_,(),W,(G9 W W)⟩
 rintro _ ⟨y1,g1,rfl,q1⟩
 rw [wD]at h
 refine B4 q1<|B1<|sv W<|A2<|B2 ?_
 cases h
 exact A7 (.inr W) (B6 (B3 W) C1) (.refl _)
def Hq [Lp](p1:Map)(p2:Int)(x1:((List Int)×Int)):Option (Stp ((List Int)×Int) (List Int)):=
  cond (decide (x1.2< (p1.Lanes.length:Int))) ((B8 p1.Lanes x1.2).bind fun v1=>(Nc v1.Next p2).bind fun v2=>cond v2 ((Bj x1.1 [x1.2]).bind fun v3=>some (.go (v3,(D2 (x1.2+1))))) (some (.go (x1.1,(D2 (x1.2+1)))))) (some (.out x1.1))
def Jh [Lp](p1:Map)(p2:Int):Option (List Int):=
  (loop (Hq p1 p2) ([],0)).bind fun y1=>some y1
theorem Ut(p1 p2 r)(h:Jh p1 p2=some r):PCall prog 189 [(.agg (V1 p1)),(i64 p2)] (.list (List.map A4 r)):=by
 refine C3 (fk func189 ntmps189 (fun r=>if r==6 then [1002]else []) (by with_unfolding_all rfl)) (nl W) ?_
 unfold Jh at h
 refine B4 (s0:=⟨T [(0,(.d _)),(1,(.d _))],G []⟩) (G9 W W) ?_
 refine lr<|fun u1 _=>sm W<|sv W<|A2<|B1<|sv W<|A2<|A6<|B1<|sv W<|A2<|bs h fun y1 hy1 h=>E7 (fun s=> ∃g1:Nat,Sb ⟨T [(5,(oS y1 (25,g1)))],G [((25,g1),oB 3 1 A4 y1)]⟩ s) ?_ ?_
 refine A8<|G6 (Hq p1 p2) (fun (x1:((List Int)×Int)) (g2:Nat)=>⟨T [(1,(di p2)),(2,(.ptr (2,u1) 0)),(5,(oS x1.1 (25,g2))),(6,(di x1.2))],G [((2,u1),some<|.box 33 (N4 p1)),((25,g2),oB 3 1 A4 x1.1)]⟩) ([],0) 0 _ hy1 (F6 (Dv W)<|B5 G_hit (.of W)<|T8 trivial) ?_
 intro x1 g2 z1 hz1 ez1
 unfold Hq at hz1
 refine A6<|B1<|sv W<|sq W<|sl W G_hit W<|sd W (E8 W)<|sv W<|A2<|cc W hz1 (fun c1 hz1=> ?_)<|fun c1 hz1=> ?_
 refine A9<|A6<|A8<|B1<|sq W<|sl W G_hit W<|sv W<|bs hz1 fun _ hv1 hz1=>sd W (E2 W W hv1 W)<|sv W<|sd W (H5 W hv1 W)<|sv W<|bs hz1 fun _ hv2 hz1=>B0 W W A3 (BY _ _ _ hv2) (.inl W) (A2<|cc W hz1 (fun c2 hz1=> ?_)<|fun c2 hz1=> ?_)
 refine Cd fun u6 _=>C0 (oS x1.1 (25,g2)) W W (sv W<|C0 (dl A4 [x1.2]) W W (bs hz1 fun _ hv3 hz1=>U7 A4 (25,g2) x1.1 x1.2 [] _ (P0<|fun _=>W) W (gq W) hv3 (ss W<|A2<|F9<|C6<|sv W<|sv W<|sv W<|A2<|G5 ?_)))
 cases hz1
 exact ⟨W,u6,(F6 ⟨.of W, .of W,(.of (X1<|Aj hv3).symm), .of W,trivial⟩<|sg W<|O8 G_hit trivial)⟩
 refine A9<|F9<|C6<|sv W<|sv W<|sv W<|A2<|G5 ?_
 cases hz1
 exact ⟨W,g2,(F6 (Dv W)<|B5 G_hit (.of W)<|C2 (gq W) trivial)⟩
 refine D5 W ?_
 cases hz1
 obtain rfl:=ez1 _ rfl
 refine ⟨nofun,D4 W<|X2 ?_⟩
 exact ⟨g2,(F6 ⟨.of W,trivial⟩<|C2 (gq W) trivial)⟩
 rintro _ ⟨g1,q1⟩
 refine B4 q1<|B1<|C0 (oS y1 (25,g1)) W W (C0 (oS y1 (25,g1)) W W (A2<|B2 ?_))
 cases h
 exact A7 (.inr W) (B6 (B3 W)<|X4 G_hit) X3
def Gd [Lp](p1:Map)(x1:((List Int)×Int)):Option (Stp ((List Int)×Int) (List Int)):=
  cond (decide (x1.2< (p1.Lanes.length:Int))) ((Jh p1 x1.2).bind fun v1=>cond ((v1.length:Int)==0) ((Bj x1.1 [x1.2]).bind fun v2=>some (.go (v2,(D2 (x1.2+1))))) (some (.go (x1.1,(D2 (x1.2+1)))))) (some (.out x1.1))
def Kf [Lp](p1:Map):Option (List Int):=
  (loop (Gd p1) ([],0)).bind fun y1=>some y1
theorem DL(p1 r)(h:Kf p1=some r):PCall prog 188 [(.agg (V1 p1))] (.list (List.map A4 r)):=by
 refine C3 (fk func188 ntmps188 (fun r=>if r==6 then [1002]else []) (by with_unfolding_all rfl)) (nl W) ?_
 unfold Kf at h
 refine B4 (s0:=⟨T [(0,(.d _))],G []⟩) (G9 W W) ?_
 refine lr<|fun u1 _=>sm W<|sv W<|A2<|B1<|sv W<|A2<|A6<|B1<|sv W<|A2<|bs h fun y1 hy1 h=>E7 (fun s=> ∃g1:Nat,Sb ⟨T [(3,(oS y1 (20,g1)))],G [((20,g1),oB 3 1 A4 y1)]⟩ s) ?_ ?_
 refine A8<|G6 (Gd p1) (fun (x1:((List Int)×Int)) (g2:Nat)=>⟨T [(1,(.ptr (1,u1) 0)),(3,(oS x1.1 (20,g2))),(4,(di x1.2))],G [((1,u1),some<|.box 33 (N4 p1)),((20,g2),oB 3 1 A4 x1.1)]⟩) ([],0) 0 _ hy1 (F6 (Dv W)<|B5 G_hit (.of W)<|T8 trivial) ?_
 intro x1 g2 z1 hz1 ez1
 unfold Gd at hz1
 refine A6<|B1<|sv W<|sq W<|sl W G_hit W<|sd W (E8 W)<|sv W<|A2<|cc W hz1 (fun c1 hz1=> ?_)<|fun c1 hz1=> ?_
 refine A9<|A6<|A8<|B1<|sd W (B7 W G_hit W W)<|sv W<|bs hz1 fun _ hv1 hz1=>B0 W W A3 (Ut _ _ _ hv1) (.inl W) (sd W (E8 W)<|sv W<|A2<|cc W hz1 (fun c2 hz1=> ?_)<|fun c2 hz1=> ?_)
 refine Cd fun u6 _=>C0 (oS x1.1 (20,g2)) W W (sv W<|C0 (dl A4 [x1.2]) W W (bs hz1 fun _ hv2 hz1=>U7 A4 (20,g2) x1.1 x1.2 [] _ (P0<|fun _=>W) W (gq W) hv2 (ss W<|A2<|F9<|C6<|sv W<|sv W<|sv W<|A2<|G5 ?_)))
 cases hz1
 exact ⟨W,u6,(F6 ⟨.of W,(.of (X1<|Aj hv2).symm), .of W,trivial⟩<|sg W<|O8 G_hit trivial)⟩
 refine A9<|F9<|C6<|sv W<|sv W<|sv W<|A2<|G5 ?_
 cases hz1
 exact ⟨W,g2,(F6 (Dv W)<|B5 G_hit (.of W)<|C2 (gq W) trivial)⟩
 refine D5 W ?_
 cases hz1
 obtain rfl:=ez1 _ rfl
 refine ⟨nofun,D4 W<|X2 ?_⟩
 exact ⟨g2,(F6 ⟨.of W,trivial⟩<|C2 (gq W) trivial)⟩
 rintro _ ⟨g1,q1⟩
 refine B4 q1<|B1<|C0 (oS y1 (20,g1)) W W (C0 (oS y1 (20,g1)) W W (A2<|B2 ?_))
 cases h
 exact A7 (.inr W) (B6 (B3 W)<|X4 G_hit) X3
def Ji (p1:Map)(x1:(Int×Int× (List Int))):Option (Stp (Int×Int× (List Int)) (List Int)):=
  (B8 p1.Lanes x1.2.1).bind fun v6=>cond ((decide ((v6.Next.length:Int)>0))&& (decide ((x1.2.2.length:Int)<8))) ((B8 p1.Lanes x1.2.1).bind fun v7=>(B8 p1.Lanes x1.2.1).bind fun v8=>(Tl x1.1 (v7.Next.length:Int)).bind fun v9=>(B8 v8.Next v9).bind fun v10=>(NC .i64 x1.1 (v7.Next.length:Int)).bind fun v11=>(Bj x1.2.2 [v10]).bind fun v12=>some (.go (v11,v10,v12))) (some (.out x1.2.2))
def Ib [Lp](p1:Map)(p2:Int):Option (List Int):=
  (Kf p1).bind fun v1=>cond ((v1.length:Int)==0) (some []) ((Pb p2 1048576).bind fun v2=>(Tl v2 (v1.length:Int)).bind fun v3=>(B8 v1 v3).bind fun v4=>(NC .i64 v2 (v1.length:Int)).bind fun v5=>(loop (Ji p1) (v5,v4,[v4])).bind fun y1=>some y1)
theorem Tq(p1 p2 r)(h:Ib p1 p2=some r):PCall prog 100 [(.agg (V1 p1)),(i64 p2)] (.list (List.map A4 r)):=by
 refine C3 (fk func100 ntmps100 (fun r=>if r==12 then [1002]else []) (by with_unfolding_all rfl)) (nl W) ?_
 unfold Ib at h
 refine B4 (s0:=⟨T [(0,(.d _)),(1,(.d _))],G []⟩) (G9 W W) ?_
 refine lr<|fun u1 _=>sm W<|sv W<|A2<|B1<|sd W (B7 W G_hit W W)<|bs h fun _ hv1 h=>B0 W W A3 (DL _ _ hv1) (.inl W) (sv W<|A2<|A6<|B1<|sv W<|sd W (E8 W)<|sv W<|A2<|cc W h (fun c1 h=> ?_)<|fun c1 h=> ?_)
 refine B1<|sv W<|A2<|B2 ?_
 cases h
 exact A7 (.inr W) (B6 (B3 W) C1) DLe.nil
 refine A9<|B1<|sv W<|bs h fun _ hv2 h=>B0 W W A3 (Ps _ _ _ hv2) (.inl W) (sv W<|A2<|B1<|sv W<|sv W<|sv W<|sd W (E8 W)<|bs h fun _ hv3 h=>sd W (HL W W hv3)<|bs h fun v4 hv4 h=>sd W (E2 W W hv4 W)<|sd W (H5 W hv4 W)<|sv W<|A2<|lr<|fun u7 _=>sv W<|Ms (.sl _) (.arr 3 1 (List.map A4 ([v4]:List Int))) W W (ss W<|A2<|B1<|sv W<|sv W<|sd W (E8 W)<|bs h fun v5 hv5 h=>sd W (aR W W hv5)<|sv W<|A2<|A6<|bs h fun y1 hy1 h=>E7 (fun s=> ∃g1:({d:Nat // d∈ [24,66]}×Nat),Sb ⟨T [(7,(oS y1 (g1.1.val,g1.2)))],G [((g1.1.val,g1.2),oB 3 1 A4 y1)]⟩ s) ?_ ?_))
 refine A8<|G6 (Ji p1) (fun (x1:(Int×Int× (List Int))) (g2:({d:Nat // d∈ [24,66]}×Nat))=>⟨T [(1,(di x1.1)),(2,(.ptr (2,u1) 0)),(6,(di x1.2.1)),(7,(oS x1.2.2 (g2.1.val,g2.2)))],G [((2,u1),some<|.box 33 (N4 p1)),((g2.1.val,g2.2),oB 3 1 A4 x1.2.2)]⟩) (v5,v4,[v4]) (⟨24, .head _⟩,u7) _ hy1 (F6 ⟨.of W, .of W, .of W,(.of (X1<|List.cons_ne_nil _ _).symm),trivial⟩<|sg W<|O8 G_hit trivial) ?_
 intro x1 g2 z1 hz1 ez1
 unfold Ji at hz1
 refine A6<|B1<|sq W<|sl W G_hit W<|sv W<|bs hz1 fun _ hv6 hz1=>sd W (E2 W W hv6 W)<|sv W<|sd W (H5 W hv6 W)<|sd W (E8 W)<|sv W<|sv W<|U8 _ (oS x1.2.2 (g2.1.val,g2.2)) W (O5 W) (fun _=>W) (gt W (fun w2=>(jO (f:=A4) (A5 w2) (G3 (FZ g2.1.property W) G_hit)))<|gt W (vb W W W)<|sa W W W<|A2<|cc W hz1 (fun c2 hz1=> ?_)<|fun c2 hz1=> ?_)
 refine A9<|A8<|B1<|sq W<|sl W G_hit W<|sv W<|bs hz1 fun _ hv7 hz1=>sd W (E2 W W hv7 W)<|sv W<|sd W (H5 W hv7 W)<|sd W (E8 W)<|sv W<|A2<|A6<|J0 W<|sq W<|sl W G_hit W<|sv W<|bs hz1 fun _ hv8 hz1=>sd W (E2 W W hv8 W)<|sv W<|sd W (H5 W hv8 W)<|sv W<|sv W<|bs hz1 fun _ hv9 hz1=>sd W (HL W W hv9)<|bs hz1 fun v10 hv10 hz1=>sd W (E2 W W hv10 W)<|sd W (H5 W hv10 W)<|sv W<|A2<|B1<|sv W<|sv W<|bs hz1 fun _ hv11 hz1=>sd W (aR W W hv11)<|sv W<|A2<|Cd fun u13 _=>C0 (oS x1.2.2 (g2.1.val,g2.2)) W W (sv W<|C0 (dl A4 [v10]) W W (bs hz1 fun _ hv12 hz1=>U7 A4 (g2.1.val,g2.2) x1.2.2 v10 [] _ (P0<|fun _=>W) W (G3 (FZ g2.1.property W) G_hit) hv12 (ss W<|A2<|F9<|G5 ?_)))
 cases hz1
 exact ⟨W,(⟨66, .tail _ (.head _)⟩,u13),(F6 ⟨.of W, .of W, .of W,(.of (X1<|Aj hv12).symm),trivial⟩<|B5 (G3 W<|G3 (GA g2.1.property W) G_hit) (.of W) (O8 G_hit trivial))⟩
 refine D5 W ?_
 cases hz1
 obtain rfl:=ez1 _ rfl
 refine ⟨nofun,D4 W<|X2 ?_⟩
 exact ⟨(g2.1,g2.2),(F6 ⟨.of W,trivial⟩<|C2 (G3 (FZ g2.1.property W) G_hit) trivial)⟩
 rintro _ ⟨g1,q1⟩
 refine B4 q1<|B1<|C0 (oS y1 (g1.1.val,g1.2)) W W (C0 (oS y1 (g1.1.val,g1.2)) W W (A2<|B2 ?_))
 cases h
 exact A7 (.inr W) (B6 (B3 W)<|X4 G_hit) X3
def Nd (p1:Int)(p2:Int):Option Int:=
  (Tl p1 p2).bind fun v1=>cond (decide (v1<0)) (some (D2 (v1+p2))) (some v1)
theorem Ts(p1 p2 r)(h:Nd p1 p2=some r):PCall prog 46 [(i64 p1),(i64 p2)] (i64 r):=by
 refine C3 (fk func46 ntmps46 m0 (by with_unfolding_all rfl)) (nl W) ?_
 unfold Nd at h
 refine B4 (s0:=⟨T [(0,(.d _)),(1,(.d _))],G []⟩) (G9 W W) ?_
 refine B1<|sv W<|A2<|B1<|sv W<|sv W<|bs h fun _ hv1 h=>sd W (HL W W hv1)<|sv W<|A2<|A6<|B1<|sv W<|sv W<|A2<|cc W h (fun c1 h=> ?_)<|fun c1 h=> ?_
 refine C6<|sv W<|sv W<|sv W<|sv W<|A2<|B1<|sv W<|sv W<|A2<|B2 ?_
 cases h
 exact A7 (.inr W) (B6 (B3 W) C1) (.refl _)
 refine A9<|B1<|sv W<|sv W<|A2<|B2 ?_
 cases h
 exact A7 (.inr W) (B6 (B3 W) C1) (.refl _)
def Y0 [Lp](p1:Map)(p2:Int)(x1:Int):Option (Stp Int (Sum Unit (List Int))):=
  cond (decide (x1<4)) ((Pb p2 1048576).bind fun v1=>(Ib p1 (D2 (v1+x1))).bind fun v2=>((cond (decide ((v2.length:Int)>0)) (B8 v2 0) (some default))).bind fun v3=>((cond (decide ((v2.length:Int)>0)) (B8 p1.Lanes v3) (some default))).bind fun v4=>cond ((decide ((v2.length:Int)>0))&& (v4.Kind==1)) (some (.out (.inr v2))) (some (.go (D2 (x1+1))))) (some (.out (.inl ())))
def Cr [Lp](p1:Map)(p2:Int):Option (List Int):=
  thenS (loop (Y0 p1 p2) 0) (fun _=>(Ib p1 0).bind fun v5=>some v5) (fun r=>some r)
theorem DM(p1 p2 r)(h:Cr p1 p2=some r):PCall prog 101 [(.agg (V1 p1)),(i64 p2)] (.list (List.map A4 r)):=by
 refine C3 (fk func101 ntmps101 m0 (by with_unfolding_all rfl)) (nl W) ?_
 unfold Cr at h
 refine B4 (s0:=⟨T [(0,(.d _)),(1,(.d _))],G []⟩) (G9 W W) ?_
 refine lr<|fun u1 _=>sm W<|sv W<|A2<|A6<|B1<|sv W<|A2<|js h fun z1 hz1 h=>E7 (fun s=> ∃(y1:Unit) (g1:Unit),z1= .inl y1∧Sb ⟨T [(2,(.ptr (2,u1) 0))],G [((2,u1),some<|.box 33 (N4 p1))]⟩ s) ?_ ?_
 refine A8<|G6 (Y0 p1 p2) (fun (x1:Int) (g2:Unit)=>⟨T [(1,(di p2)),(2,(.ptr (2,u1) 0)),(5,(di x1))],G [((2,u1),some<|.box 33 (N4 p1))]⟩) 0 () _ hz1 (G9 W W) ?_
 intro x1 g2 z2 hz2 ez2
 unfold Y0 at hz2
 refine A6<|B1<|sv W<|sv W<|A2<|cc W hz2 (fun c1 hz2=> ?_)<|fun c1 hz2=> ?_
 refine A9<|A6<|A8<|A6<|J0 W<|sd W (B7 W G_hit W W)<|sv W<|bs hz2 fun _ hv1 hz2=>B0 W W A3 (Ps _ _ _ hv1) (.inl W) (sv W<|sv W<|bs hz2 fun _ hv2 hz2=>B0 W W A3 (Tq _ _ _ hv2) (.inl W) (sv W<|A2<|A6<|J0 W<|sv W<|sd W (E8 W)<|sv W<|sv W<|gp W (O5 W) (fun _=>W) (gt W (vl W G_hit W)<|gt W (fun _=>W)<|bs hz2 fun _ hv3 hz2=>gt W (fun w4=>(E2 (A5 w4) W (D3 w4 hv3) W))<|gt W (fun w5=>(H5 (A5 w5) (D3 w5 hv3) W))<|bs hz2 fun _ hv4 hz2=>gt W (fun w6=>(E2 (A5 w6) (A5 w6) (D3 w6 hv4) W)) ?_)))
 refine gt W (fun w7=>(by simp only [A5 w7];rfl)) ?_
 refine gt W (fun w8=>(H5 (A5 w8) (D3 w8 hv4) W))<|gt W (vb W W W)<|sa W W W<|A2<|cc W hz2 (fun c2 hz2=> ?_)<|fun c2 hz2=> ?_
 refine B1<|sv W<|sv W<|A2<|B2 ?_
 cases hz2
 obtain rfl:=ez2 _ rfl
 refine ⟨nofun,H4 ?_⟩
 rw [wE]at h
 cases h
 exact A7 (.inr W) (B6 (B3 W) C1) (.refl _)
 refine A9<|F9<|C6<|sv W<|sv W<|sv W<|A2<|G5 ?_
 cases hz2
 exact ⟨W,(),(G9 W W)⟩
 refine D5 W ?_
 cases hz2
 obtain rfl:=ez2 _ rfl
 refine ⟨nofun,D4 W<|X2 ?_⟩
 exact ⟨_,(),W,(G9 W W)⟩
 rintro _ ⟨y1,g1,rfl,q1⟩
 rw [wD]at h
 refine B4 q1<|B1<|sd W (B7 W G_hit W W)<|bs h fun _ hv5 h=>B0 W W A3 (Tq _ _ _ hv5) (.inl W) (sv W<|A2<|B2 ?_)
 cases h
 exact A7 (.inr W) (B6 (B3 W) C1) (.refl _)
def Cg (p1:Int):Option (Int×Int×Int):=
  cond (p1==1) (some (2000,30,90)) (cond (p1==2) (some (1000,20,60)) (cond (p1==3) (some (300,100,300)) (some (0,0,0))))
theorem Oe(p1 r)(h:Cg p1=some r):PCall prog 35 [(i64 p1)] (.tup [(i64 r.1),(i64 r.2.1),(i64 r.2.2)]):=by
 refine C3 (fk func35 ntmps35 m0 (by with_unfolding_all rfl)) (nl W) ?_
 unfold Cg at h
 refine B4 (s0:=⟨T [(0,(.d _))],G []⟩) (G9 W W) ?_
 refine B1<|sv W<|sv W<|sv W<|A2<|A6<|B1<|sv W<|A2<|A8<|B1<|sv W<|sv W<|A2<|cc W h (fun c1 h=> ?_)<|fun c1 h=> ?_
 refine B1<|sv W<|sv W<|sv W<|A2<|B2 ?_
 cases h
 exact A7 (.inr W) (BL (B3 W) (B3 W) (B3 W) C1 C1 C1) (.refl _)
 refine B1<|sv W<|sv W<|A2<|cc W h (fun c2 h=> ?_)<|fun c2 h=> ?_
 refine B1<|sv W<|sv W<|sv W<|A2<|B2 ?_
 cases h
 exact A7 (.inr W) (BL (B3 W) (B3 W) (B3 W) C1 C1 C1) (.refl _)
 refine B1<|sv W<|sv W<|A2<|cc W h (fun c3 h=> ?_)<|fun c3 h=> ?_
 refine B1<|sv W<|sv W<|sv W<|A2<|B2 ?_
 cases h
 exact A7 (.inr W) (BL (B3 W) (B3 W) (B3 W) C1 C1 C1) (.refl _)
 refine A9<|F9<|B1<|sv W<|sv W<|sv W<|A2<|B2 ?_
 cases h
 exact A7 (.inr W) (BL (B3 W) (B3 W) (B3 W) C1 C1 C1) (.refl _)
def Ci (p1:Int)(p2:Int)(p3:Int):Option Bool:=
  some ((decide (p1≥p2))&& (decide (p1≤p3)))
theorem Ec(p1 p2 p3 r)(h:Ci p1 p2 p3=some r):PCall prog 162 [(i64 p1),(i64 p2),(i64 p3)] (bo r):=by
 refine C3 (fk func162 ntmps162 m0 (by with_unfolding_all rfl)) (nl W) ?_
 unfold Ci at h
 refine B4 (s0:=⟨T [(0,(.d _)),(1,(.d _)),(2,(.d _))],G []⟩) (G9 W W) ?_
 refine B1<|sv W<|A2<|B1<|sv W<|sv W<|sv W<|sv W<|gt W (fun _=>W)<|gt W (fun _=>W)<|gt W (fun w3=>(S9 (A5 w3) (A5 w3) W))<|sa W W W<|sv W<|A2<|B2 ?_
 cases h
 exact A7 (.inr W) (B6 (B3 W) C1) (.refl _)
def Nw (p1:Spot):Option Bool:=
  some ((((decide (p1.X≥(-16777216)))&& (decide (p1.X≤16777216)))&& (decide (p1.Y≥(-16777216))))&& (decide (p1.Y≤16777216)))
theorem HS(p1 r)(h:Nw p1=some r):PCall prog 234 [(.agg [(i64 p1.X),(i64 p1.Y)])] (bo r):=by
 refine C3 (fk func234 ntmps234 m0 (by with_unfolding_all rfl)) (nl W) ?_
 unfold Nw at h
 refine B4 (s0:=⟨T [(0,(.d _))],G []⟩) (G9 W W) ?_
 refine B1<|sm W<|sv W<|A2<|B1<|sq W<|sl W G_hit W<|sv W<|sv W<|gp W (O5 W) (fun _=>W) (gt W (vl W G_hit W)<|gt W (vb W W W)<|sa W W W<|sv W<|gp W (O5 W) (fun _=>W) (gt W (vl W G_hit W)<|gt W (vb W W W)<|sa W W W<|sv W<|gp W (O5 W) (fun _=>W) (gt W (vl W G_hit W)<|gt W (vb W W W)<|sa W W W<|sv W<|A2<|B2 ?_)))
 cases h
 exact A7 (.inr W) (B6 (B3 W) C1) (.refl _)
def Ir (p1:Spot)(p2:Spot):Option Spot:=
  some (Spot.mk (D2 (p1.X - p2.X)) (D2 (p1.Y - p2.Y)))
theorem Pu(p1 p2 r)(h:Ir p1 p2=some r):PCall prog 136 [(.agg [(i64 p1.X),(i64 p1.Y)]),(.agg [(i64 p2.X),(i64 p2.Y)])] (.agg [(i64 r.X),(i64 r.Y)]):=by
 refine C3 (fk func136 ntmps136 m0 (by with_unfolding_all rfl)) (nl W) ?_
 unfold Ir at h
 refine B4 (s0:=⟨T [(0,(.d _)),(1,(.d _))],G []⟩) (G9 W W) ?_
 refine B1<|sm W<|sn W W<|sm W<|A2<|B1<|sq W<|sl W (gq W) W (sq W<|sl W (gq W) W (sv W<|sq W<|sl W (gq W) W (sq W<|sl W (gq W) W (sv W<|sv W<|V5 W G_hit [(di<|D2 (p1.X - p2.X)),(di<|D2 (p1.Y - p2.Y))] W (A2<|B2 ?_)))))
 cases h
 exact A7 (.inr W) (B6 (M1 W G_hit (nl W) W) C1) (.refl _)
def Lc (p1:Spot)(p2:Spot):Option Int:=
  some (D2 ((D2 (p1.X*p2.X))+ (D2 (p1.Y*p2.Y))))
theorem Pc(p1 p2 r)(h:Lc p1 p2=some r):PCall prog 203 [(.agg [(i64 p1.X),(i64 p1.Y)]),(.agg [(i64 p2.X),(i64 p2.Y)])] (i64 r):=by
 refine C3 (fk func203 ntmps203 m0 (by with_unfolding_all rfl)) (nl W) ?_
 unfold Lc at h
 refine B4 (s0:=⟨T [(0,(.d _)),(1,(.d _))],G []⟩) (G9 W W) ?_
 refine B1<|sm W<|sn W W<|sv W<|A2<|B1<|sq W<|sl W (gq W) W (sq W<|sl W G_hit W<|sv W<|sq W<|sl W (gq W) W (sq W<|sl W G_hit W<|sv W<|sv W<|sv W<|A2<|B2 ?_))
 cases h
 exact A7 (.inr W) (B6 (B3 W) C1) (.refl _)
def Kg (p1:Int)(x1:(Int×Int)):Option (Stp (Int×Int) Int):=
  cond (decide (x1.2>0)) (cond (decide ((D2 ((D2 (x1.1+x1.2))* (D2 (x1.1+x1.2))))≤p1)) (some (.go ((D2 (x1.1+x1.2)),(D2 (x1.2.tdiv 2))))) (some (.go (x1.1,(D2 (x1.2.tdiv 2)))))) (some (.out x1.1))
def Is [Lp](p1:Int):Option Int:=
  (loop (Kg p1) (0,67108864)).bind fun y1=>some y1
theorem Yt(p1 r)(h:Is p1=some r):PCall prog 202 [(i64 p1)] (i64 r):=by
 refine C3 (fk func202 ntmps202 m0 (by with_unfolding_all rfl)) (nl W) ?_
 unfold Is at h
 refine B4 (s0:=⟨T [(0,(.d _))],G []⟩) (G9 W W) ?_
 refine B1<|sv W<|A2<|B1<|sv W<|A2<|A6<|B1<|sv W<|A2<|bs h fun y1 hy1 h=>E7 (fun s=> ∃g1:Unit,Sb ⟨T [(3,(di y1))],G []⟩ s) ?_ ?_
 refine A8<|G6 (Kg p1) (fun (x1:(Int×Int)) (g2:Unit)=>⟨T [(0,(di p1)),(3,(di x1.1)),(4,(di x1.2))],G []⟩) (0,67108864) () _ hy1 (G9 W W) ?_
 intro x1 g2 z1 hz1 ez1
 unfold Kg at hz1
 refine A6<|B1<|sv W<|sv W<|A2<|cc W hz1 (fun c1 hz1=> ?_)<|fun c1 hz1=> ?_
 refine A9<|A6<|A8<|B1<|sv W<|sv W<|sv W<|sv W<|sv W<|sv W<|sv W<|sv W<|sv W<|A2<|cc W hz1 (fun c2 hz1=> ?_)<|fun c2 hz1=> ?_
 refine C6<|sv W<|sv W<|sv W<|sv W<|A2<|F9<|C6<|sv W<|sv W<|sv W<|A2<|G5 ?_
 cases hz1
 exact ⟨W,(),(G9 W W)⟩
 refine A9<|F9<|C6<|sv W<|sv W<|sv W<|A2<|G5 ?_
 cases hz1
 exact ⟨W,(),(G9 W W)⟩
 refine D5 W ?_
 cases hz1
 obtain rfl:=ez1 _ rfl
 refine ⟨nofun,D4 W<|X2 ?_⟩
 exact ⟨(),(G9 W W)⟩
 rintro _ ⟨g1,q1⟩
 refine B4 q1<|B1<|sv W<|sv W<|A2<|B2 ?_
 cases h
 exact A7 (.inr W) (B6 (B3 W) C1) (.refl _)
def Dh [Lp](p1:Curve)(x2:Int):Option (Stp Int (Sum Unit Int)):=
  cond (decide ((D2 (x2+1))< (p1.Pts.length:Int))) ((B8 p1.Pts (D2 (x2+1))).bind fun v3=>(B8 p1.Pts x2).bind fun v4=>(Ir v3 v4).bind fun v5=>(Lc v5 v5).bind fun v6=>(Is v6).bind fun v7=>(Lc v5 v5).bind fun v8=>cond ((D2 (v7*v7)) !=v8) (some (.out (.inr 3))) (cond ((decide (v7<1000))||(decide (v7>1048576))) (some (.out (.inr 2))) (((cond (decide (x2>0)) (B8 p1.Pts x2) (some default))).bind fun v9=>((cond (decide (x2>0)) (B8 p1.Pts (D2 (x2 - 1))) (some default))).bind fun v10=>((cond (decide (x2>0)) (Ir v9 v10) (some default))).bind fun v11=>((cond (decide (x2>0)) (Lc v5 v11) (some default))).bind fun v12=>cond ((decide (x2>0))&& (decide (v12≤0))) (some (.out (.inr 12))) (some (.go (D2 (x2+1))))))) (some (.out (.inl ())))
def Di (p1:Curve)(x1:Int):Option (Stp Int (Sum Unit Int)):=
  cond (decide (x1< (p1.Pts.length:Int))) ((B8 p1.Pts x1).bind fun v1=>(Nw v1).bind fun v2=>cond (!v2) (some (.out (.inr 2))) (some (.go (D2 (x1+1))))) (some (.out (.inl ())))
def Ld [Lp](p1:Curve):Option Int:=
  cond (decide ((p1.Pts.length:Int)<2)) (some 6) (cond (decide ((p1.Pts.length:Int)>16)) (some 5) (thenS (loop (Di p1) 0) (fun _=>thenS (loop (Dh p1) 0) (fun _=>some 0) (fun r=>some r)) (fun r=>some r)))
theorem Wj(p1 r)(h:Ld p1=some r):PCall prog 201 [(.agg [(.list (List.map Bs p1.Pts))])] (i64 r):=by
 refine C3 (fk func201 ntmps201 m0 (by with_unfolding_all rfl)) (nl W) ?_
 unfold Ld at h
 refine B4 (s0:=⟨T [(0,(.d _))],G []⟩) (G9 W W) ?_
 refine lr<|fun u1 _=>sm W<|sv W<|A2<|A6<|B1<|sq W<|sl W G_hit W<|sd W (E8 W)<|sv W<|A2<|cc W h (fun c1 h=> ?_)<|fun c1 h=> ?_
 refine B1<|sv W<|A2<|B2 ?_
 cases h
 exact A7 (.inr W) (B6 (B3 W) C1) (.refl _)
 refine A9<|A6<|B1<|sq W<|sl W G_hit W<|sd W (E8 W)<|sv W<|A2<|cc W h (fun c2 h=> ?_)<|fun c2 h=> ?_
 refine B1<|sv W<|A2<|B2 ?_
 cases h
 exact A7 (.inr W) (B6 (B3 W) C1) (.refl _)
 refine A9<|A6<|B1<|sv W<|A2<|js h fun z1 hz1 h=>E7 (fun s=> ∃(y1:Unit) (g1:Unit),z1= .inl y1∧Sb ⟨T [(1,(.ptr (1,u1) 0))],G [((1,u1),some<|.box 61 [(dl Bs p1.Pts)])]⟩ s) ?_ ?_
 refine A8<|G6 (Di p1) (fun (x1:Int) (g2:Unit)=>⟨T [(1,(.ptr (1,u1) 0)),(3,(di x1))],G [((1,u1),some<|.box 61 [(dl Bs p1.Pts)])]⟩) 0 () _ hz1 (G9 W W) ?_
 intro x1 g2 z2 hz2 ez2
 unfold Di at hz2
 refine A6<|B1<|sv W<|sq W<|sl W G_hit W<|sd W (E8 W)<|sv W<|A2<|cc W hz2 (fun c3 hz2=> ?_)<|fun c3 hz2=> ?_
 refine A9<|A6<|A8<|B1<|sq W<|sl W G_hit W<|sv W<|bs hz2 fun _ hv1 hz2=>sd W (E2 W W hv1 W)<|sd W (E4 W hv1 W W)<|bs hz2 fun v2 hv2 hz2=>B0 W W A3 (HS _ _ hv2) (.inl W) (C0 (.d (bo (!v2))) W W (A2<|cc W hz2 (fun c4 hz2=> ?_)<|fun c4 hz2=> ?_))
 refine B1<|sv W<|A2<|B2 ?_
 cases hz2
 obtain rfl:=ez2 _ rfl
 refine ⟨nofun,H4 ?_⟩
 rw [wE]at h
 cases h
 exact A7 (.inr W) (B6 (B3 W) C1) (.refl _)
 refine A9<|F9<|C6<|sv W<|sv W<|sv W<|A2<|G5 ?_
 cases hz2
 exact ⟨W,(),(G9 W W)⟩
 refine D5 W ?_
 cases hz2
 obtain rfl:=ez2 _ rfl
 refine ⟨nofun,D4 W<|X2 ?_⟩
 exact ⟨_,(),W,(G9 W W)⟩
 rintro _ ⟨y1,g1,rfl,q1⟩
 rw [wD]at h
 refine B4 q1<|A6<|B1<|sv W<|A2<|js h fun z3 hz3 h=>E7 (fun s=> ∃(y2:Unit) (g3:Unit),z3= .inl y2∧Sb ⟨T [],G []⟩ s) ?_ ?_
 refine A8<|G6 (Dh p1) (fun (x2:Int) (g4:Unit)=>⟨T [(1,(.ptr (1,u1) 0)),(4,(di x2))],G [((1,u1),some<|.box 61 [(dl Bs p1.Pts)])]⟩) 0 () _ hz3 (G9 W W) ?_
 intro x2 g4 z4 hz4 ez4
 unfold Dh at hz4
 refine A6<|B1<|sv W<|sv W<|sq W<|sl W G_hit W<|sd W (E8 W)<|sv W<|A2<|cc W hz4 (fun c5 hz4=> ?_)<|fun c5 hz4=> ?_
 refine A9<|A6<|A8<|A6<|J0 W<|sq W<|sl W G_hit W<|sv W<|sv W<|bs hz4 fun _ hv3 hz4=>sd W (E2 W W hv3 W)<|sd W (E4 W hv3 W W)<|sq W<|sl W G_hit W<|sv W<|bs hz4 fun _ hv4 hz4=>sd W (E2 W W hv4 W)<|sd W (E4 W hv4 W W)<|bs hz4 fun v5 hv5 hz4=>B0 W W A3 (Pu _ _ _ hv5) (.inl W) (sm W<|V5 W G_hit [(di v5.X),(di v5.Y)] W (A2<|B1<|sd W (B7 W G_hit W W)<|sd W (B7 W G_hit W W)<|bs hz4 fun _ hv6 hz4=>B0 W W A3 (Pc _ _ _ hv6) (.inl W) (bs hz4 fun _ hv7 hz4=>B0 W W A3 (Yt _ _ hv7) (.inl W) (sv W<|A2<|A6<|B1<|sv W<|sv W<|sv W<|sd W (B7 W G_hit W W)<|sd W (B7 W G_hit W W)<|bs hz4 fun _ hv8 hz4=>B0 W W A3 (Pc _ _ _ hv8) (.inl W) (sv W<|A2<|cc W hz4 (fun c6 hz4=> ?_)<|fun c6 hz4=> ?_)))))
 refine B1<|sv W<|A2<|B2 ?_
 cases hz4
 obtain rfl:=ez4 _ rfl
 refine ⟨nofun,H4 ?_⟩
 rw [wE]at h
 cases h
 exact A7 (.inr W) (B6 (B3 W) C1) (.refl _)
 refine A9<|A6<|B1<|sv W<|sv W<|sv W<|gf W (fun _=>W)<|gf W (vb W W W)<|sd W (T5 W W<|fun hc=>A5<|M7 hc)<|A2<|cc W hz4 (fun c7 hz4=> ?_)<|fun c7 hz4=> ?_
 refine B1<|sv W<|A2<|B2 ?_
 cases hz4
 obtain rfl:=ez4 _ rfl
 refine ⟨nofun,H4 ?_⟩
 rw [wE]at h
 cases h
 exact A7 (.inr W) (B6 (B3 W) C1) (.refl _)
 refine A9<|A6<|J0 W<|sv W<|sv W<|sv W<|gt W (fun _=>(B7 W G_hit W W))<|gp W (O5 W) (fun _=>W) (gt W (vl W (gq W) W)<|gt W (fun _=>W)<|bs hz4 fun v9 hv9 hz4=>gt W (fun w7=>(E2 (A5 w7) (A5 w7) (D3 w7 hv9) W))<|gt W (fun w8=>(E4 (A5 w8) (D3 w8 hv9) W W))<|gp W (O5 W) (fun _=>W) (gt W (vl W (gq W) W)<|gt W (fun _=>W)<|gt W (vb W W W)<|bs hz4 fun v10 hv10 hz4=>gt W (fun w13=>(E2 (A5 w13) (A5 w13) (D3 w13 hv10) W))<|gt W (fun w14=>(E4 (A5 w14) (D3 w14 hv10) W W))<|bs hz4 fun v11 hv11 hz4=> ?_))
 refine P3 _ (.agg [(i64 v11.X),(i64 v11.Y)]) (O5 W) (fun w15=>⟨_,[(.d (.agg [(i64 v9.X),(i64 v9.Y)])),(.d (.agg [(i64 v10.X),(i64 v10.Y)]))],_,_,(by simp only [A5 w15];rfl),W,A3,Pu _ _ _<|D3 w15 hv11,(.inl W)⟩) ?_
 refine bs hz4 fun v12 hv12 hz4=> ?_
 refine P3 _ (i64 v12) (O5 W) (fun w16=>⟨_,[(.d (.agg [(i64 v5.X),(i64 v5.Y)])),(.d (.agg [(i64 v11.X),(i64 v11.Y)]))],_,_,(by simp only [A5 w16];rfl),W,A3,Pc _ _ _<|D3 w16 hv12,(.inl W)⟩) ?_
 refine gt W (vb W W W)<|sa W W W<|A2<|cc W hz4 (fun c8 hz4=> ?_)<|fun c8 hz4=> ?_
 refine B1<|sv W<|A2<|B2 ?_
 cases hz4
 obtain rfl:=ez4 _ rfl
 refine ⟨nofun,H4 ?_⟩
 rw [wE]at h
 cases h
 exact A7 (.inr W) (B6 (B3 W) C1) (.refl _)
 refine A9<|F9<|C6<|sv W<|sv W<|sv W<|A2<|G5 ?_
 cases hz4
 exact ⟨W,(),(G9 W W)⟩
 refine D5 W ?_
 cases hz4
 obtain rfl:=ez4 _ rfl
 refine ⟨nofun,D4 W<|X2 ?_⟩
 exact ⟨_,(),W,(G9 W W)⟩
 rintro _ ⟨y2,g3,rfl,q2⟩
 rw [wD]at h
 refine B4 q2<|B1<|sv W<|A2<|B2 ?_
 cases h
 exact A7 (.inr W) (B6 (B3 W) C1) (.refl _)
def Ao (p1:(List Int))(p2:Int)(p3:Int)(x1:Int):Option (Stp Int (Sum Unit Bool)):=
  cond (decide (x1< (p1.length:Int))) ((B8 p1 x1).bind fun v1=>((cond (!(decide (v1<p2))) (B8 p1 x1) (some default))).bind fun v2=>((cond ((!((decide (v1<p2))||(decide (v2≥p3))))&& (decide (x1>0))) (B8 p1 x1) (some default))).bind fun v3=>((cond ((!((decide (v1<p2))||(decide (v2≥p3))))&& (decide (x1>0))) (B8 p1 (D2 (x1 - 1))) (some default))).bind fun v4=>cond (((decide (v1<p2))||(decide (v2≥p3)))||((decide (x1>0))&& (decide (v3≤v4)))) (some (.out (.inr false))) (some (.go (D2 (x1+1))))) (some (.out (.inl ())))
def Fg [Lp](p1:(List Int))(p2:Int)(p3:Int):Option Bool:=
  thenS (loop (Ao p1 p2 p3) 0) (fun _=>some true) (fun r=>some r)
theorem Nf(p1 p2 p3 r)(h:Fg p1 p2 p3=some r):PCall prog 217 [(.list (List.map A4 p1)),(i64 p2),(i64 p3)] (bo r):=by
 refine C3 (fk func217 ntmps217 m0 (by with_unfolding_all rfl)) (nl W) ?_
 unfold Fg at h
 refine B4 (s0:=⟨T [(0,(.d _)),(1,(.d _)),(2,(.d _))],G []⟩) (G9 W W) ?_
 refine B1<|sv W<|A2<|A6<|B1<|sv W<|A2<|js h fun z1 hz1 h=>E7 (fun s=> ∃(y1:Unit) (g1:Unit),z1= .inl y1∧Sb ⟨T [],G []⟩ s) ?_ ?_
 refine A8<|G6 (Ao p1 p2 p3) (fun (x1:Int) (g2:Unit)=>⟨T [(0,(dl A4 p1)),(1,(di p2)),(2,(di p3)),(7,(di x1))],G []⟩) 0 () _ hz1 (G9 W W) ?_
 intro x1 g2 z2 hz2 ez2
 unfold Ao at hz2
 refine A6<|B1<|sv W<|sv W<|sd W (E8 W)<|sv W<|A2<|cc W hz2 (fun c1 hz2=> ?_)<|fun c1 hz2=> ?_
 refine A9<|A6<|A8<|A6<|J0 W<|sv W<|sv W<|bs hz2 fun _ hv1 hz2=>sd W (E2 W W hv1 W)<|sd W (H5 W hv1 W)<|sv W<|sv W<|sv W<|gf W (fun _=>W)<|gf W (fun _=>W)<|bs hz2 fun _ hv2 hz2=>gf W (fun w3=>(E2 (A5 w3) (A5 w3) (D3 w3 hv2) W))<|gf W (fun w4=>(H5 (A5 w4) (D3 w4 hv2) W))<|gf W (fun _=>W)<|gf W (fun w6=>(S9 (A5 w6) (A5 w6) W))<|sd W (T5 W W<|fun hc=>A5<|M7 hc)<|sv W<|gf W (fun _=>W)<|gf W (vb W W W)<|gf W (fun w9=>(jN<|A5 w9))<|gv W (Js W) (fun _=>W) (gv W (Js W) (fun _=>W) (bs hz2 fun _ hv3 hz2=>gv W (Js W) (fun w12=>(E2 (A5 w12) (A5 w12) (D3 w12 hv3) W)) (gv W (Js W) (fun w13=>(H5 (A5 w13) (D3 w13 hv3) W)) (gv W (Js W) (fun _=>W) (gv W (Js W) (fun _=>W) (gv W (Js W) (vb W W W) (bs hz2 fun _ hv4 hz2=>gv W (Js W) (fun w17=>(E2 (A5 w17) (A5 w17) (D3 w17 hv4) W)) (gv W (Js W) (fun w18=>(H5 (A5 w18) (D3 w18 hv4) W)) (gv W (Js W) (fun w19=>(S9 (A5 w19) (A5 w19) W)) (gf W (fun w20=>(UW (A5 w20) (fun hc=>A5<|aS w20 hc) W))<|sd W (T5 W W<|fun hc=>A5<|M7 hc)<|A2<|cc W hz2 (fun c2 hz2=> ?_)<|fun c2 hz2=> ?_))))))))))
 refine B1<|sv W<|A2<|B2 ?_
 cases hz2
 obtain rfl:=ez2 _ rfl
 refine ⟨nofun,H4 ?_⟩
 rw [wE]at h
 cases h
 exact A7 (.inr W) (B6 (B3 W) C1) (.refl _)
 refine A9<|F9<|C6<|sv W<|sv W<|sv W<|A2<|G5 ?_
 cases hz2
 exact ⟨W,(),(G9 W W)⟩
 refine D5 W ?_
 cases hz2
 obtain rfl:=ez2 _ rfl
 refine ⟨nofun,D4 W<|X2 ?_⟩
 exact ⟨_,(),W,(G9 W W)⟩
 rintro _ ⟨y1,g1,rfl,q1⟩
 rw [wD]at h
 refine B4 q1<|B1<|sv W<|A2<|B2 ?_
 cases h
 exact A7 (.inr W) (B6 (B3 W) C1) (.refl _)
def Hr [Lp](p1:Map)(p2:Int):Option Int:=
  (B8 p1.Lanes p2).bind fun v1=>cond ((decide (v1.Kind<1))||(decide (v1.Kind>3))) (some 4) ((Ld v1.Curve_).bind fun v2=>cond (v2 !=0) (some v2) ((Cg v1.Kind).bind fun v3=>(Ci v1.Half 200 4000).bind fun v4=>((cond (!(!v4)) (Ci v1.Limit 1 v3.1) (some default))).bind fun v5=>cond ((!v4)||(!v5)) (some 2) (cond (decide ((v1.Next.length:Int)>3)) (some 8) ((Fg v1.Next (D2 (p2+1)) (p1.Lanes.length:Int)).bind fun v6=>cond (!v6) (some 11) (some 0)))))
theorem AA(p1 p2 r)(h:Hr p1 p2=some r):PCall prog 163 [(.agg (V1 p1)),(i64 p2)] (i64 r):=by
 refine C3 (fk func163 ntmps163 m0 (by with_unfolding_all rfl)) (nl W) ?_
 unfold Hr at h
 refine B4 (s0:=⟨T [(0,(.d _)),(1,(.d _))],G []⟩) (G9 W W) ?_
 refine B1<|sm W<|sv W<|A2<|B1<|sq W<|sl W G_hit W<|sv W<|bs h fun v1 hv1 h=>sd W (E2 W W hv1 W)<|sd W (E4 W hv1 W W)<|sm W<|V5 W G_hit (BX v1) W (A2<|A6<|B1<|sq W<|sl W G_hit W<|sv W<|sv W<|gp W (N5 W) (fun _=>W) (gf W (vl W G_hit W)<|gf W (vb W W W)<|sd W (T5 W W<|fun hc=>A5<|M7 hc)<|A2<|cc W h (fun c1 h=> ?_)<|fun c1 h=> ?_))
 refine B1<|sv W<|A2<|B2 ?_
 cases h
 exact A7 (.inr W) (B6 (B3 W) C1) (.refl _)
 refine A9<|B1<|sq W<|sd W (B7 W G_hit W W)<|bs h fun _ hv2 h=>B0 W W A3 (Wj _ _ hv2) (.inl W) (sv W<|A2<|A6<|B1<|sv W<|sv W<|A2<|cc W h (fun c2 h=> ?_)<|fun c2 h=> ?_)
 refine B1<|sv W<|sv W<|A2<|B2 ?_
 cases h
 exact A7 (.inr W) (B6 (B3 W) C1) (.refl _)
 refine A9<|B1<|sq W<|sl W G_hit W<|bs h fun v3 hv3 h=>B0 W W A3 (Oe _ _ hv3) (.inl W) (sv W<|sv W<|sv W<|sv W<|sv W<|sv W<|sv W<|A2<|A6<|B1<|sq W<|sl W G_hit W<|bs h fun v4 hv4 h=>B0 W W A3 (Ec _ _ _ _ hv4) (.inl W) (C0 (.d (bo (!v4))) W W (sv W<|gp W (N5 W) (fun _=>W) (gf W (vl W G_hit W)<|gf W (fun _=>W)<|bs h fun v5 hv5 h=> ?_))))
 refine P3 _ (bo v5) (N5 W) (fun w7=>⟨_,[(di v1.Limit),(di 1),(di v3.1)],_,_,(by simp only [A5 w7];rfl),W,A3,Ec _ _ _ _<|D3 w7 hv5,(.inl W)⟩) ?_
 refine U8 _ (.d (bo (!v5))) W (N5 W) (fun w8=>(by simp only [A5 w8];rfl)) ?_
 refine sd W (T5 W W<|fun hc=>A5<|M7 hc)<|A2<|cc W h (fun c3 h=> ?_)<|fun c3 h=> ?_
 refine B1<|sv W<|A2<|B2 ?_
 cases h
 exact A7 (.inr W) (B6 (B3 W) C1) (.refl _)
 refine A9<|A6<|B1<|sq W<|sl W G_hit W<|sd W (E8 W)<|sv W<|A2<|cc W h (fun c4 h=> ?_)<|fun c4 h=> ?_
 refine B1<|sv W<|A2<|B2 ?_
 cases h
 exact A7 (.inr W) (B6 (B3 W) C1) (.refl _)
 refine A9<|A6<|B1<|sq W<|sl W G_hit W<|sv W<|sv W<|sq W<|sl W (gq W) W (sd W (E8 W)<|bs h fun v6 hv6 h=>B0 W W A3 (Nf _ _ _ _ hv6) (.inl W) (C0 (.d (bo (!v6))) W W (A2<|cc W h (fun c5 h=> ?_)<|fun c5 h=> ?_)))
 refine B1<|sv W<|A2<|B2 ?_
 cases h
 exact A7 (.inr W) (B6 (B3 W) C1) (.refl _)
 refine A9<|B1<|sv W<|A2<|B2 ?_
 cases h
 exact A7 (.inr W) (B6 (B3 W) C1) (.refl _)
def Ap (p1:Map)(v1:Lane)(x2:Int):Option (Stp Int (Sum Unit Int)):=
  cond (decide (x2< (v1.Next.length:Int))) ((B8 v1.Next x2).bind fun v2=>(B8 p1.Lanes v2).bind fun v3=>cond (v3.Kind !=v1.Kind) (some (.out (.inr 4))) ((B8 v3.Curve_.Pts 0).bind fun v4=>(B8 v1.Curve_.Pts (D2 ((v1.Curve_.Pts.length:Int) - 1))).bind fun v5=>cond (!(v4.X==v5.X&& (v4.Y==v5.Y&&true))) (some (.out (.inr 3))) (some (.go (D2 (x2+1)))))) (some (.out (.inl ())))
def Aq [Lp](p1:Map)(x1:Int):Option (Stp Int (Sum Unit Int)):=
  cond (decide (x1< (p1.Lanes.length:Int))) ((B8 p1.Lanes x1).bind fun v1=>thenS (loop (Ap p1 v1) 0) (fun _=>some (.go (D2 (x1+1)))) (fun r=>some (.out (.inr r)))) (some (.out (.inl ())))
def Ht [Lp](p1:Map):Option Int:=
  thenS (loop (Aq p1) 0) (fun _=>some 0) (fun r=>some r)
theorem AB(p1 r)(h:Ht p1=some r):PCall prog 164 [(.agg (V1 p1))] (i64 r):=by
 refine C3 (fk func164 ntmps164 m0 (by with_unfolding_all rfl)) (nl W) ?_
 unfold Ht at h
 refine B4 (s0:=⟨T [(0,(.d _))],G []⟩) (G9 W W) ?_
 refine lr<|fun u1 _=>sm W<|sv W<|A2<|A6<|B1<|sv W<|A2<|js h fun z1 hz1 h=>E7 (fun s=> ∃(y1:Unit) (g1:Unit),z1= .inl y1∧Sb ⟨T [],G []⟩ s) ?_ ?_
 refine A8<|G6 (Aq p1) (fun (x1:Int) (g2:Unit)=>⟨T [(1,(.ptr (1,u1) 0)),(3,(di x1))],G [((1,u1),some<|.box 33 (N4 p1))]⟩) 0 () _ hz1 (G9 W W) ?_
 intro x1 g2 z2 hz2 ez2
 unfold Aq at hz2
 refine A6<|B1<|sv W<|sq W<|sl W G_hit W<|sd W (E8 W)<|sv W<|A2<|cc W hz2 (fun c1 hz2=> ?_)<|fun c1 hz2=> ?_
 refine A9<|A6<|A8<|lr<|fun u4 _=>sq W<|sl W G_hit W<|sv W<|bs hz2 fun v1 hv1 hz2=>sd W (E2 W W hv1 W)<|sd W (E4 W hv1 W W)<|sm W<|V5 W G_hit (BX v1) W (A2<|B1<|sv W<|A2<|js hz2 fun z3 hz3 hz2=>E7 (fun s=> ∃(y2:Unit) (g3:Unit),z3= .inl y2∧Sb ⟨T [(1,(.ptr (1,u1) 0)),(3,(di x1))],G [((1,u1),some<|.box 33 (N4 p1))]⟩ s) ?_ ?_)
 refine A8<|G6 (Ap p1 v1) (fun (x2:Int) (g4:Unit)=>⟨T [(1,(.ptr (1,u1) 0)),(3,(di x1)),(4,(.ptr (4,u4) 0)),(5,(di x2))],G [((1,u1),some<|.box 33 (N4 p1)),((4,u4),some<|.box 63 (BX v1))]⟩) 0 () _ hz3 (G9 W W) ?_
 intro x2 g4 z4 hz4 ez4
 unfold Ap at hz4
 refine A6<|B1<|sv W<|sq W<|sl W (gq W) W (sd W (E8 W)<|sv W<|A2<|cc W hz4 (fun c2 hz4=> ?_)<|fun c2 hz4=> ?_)
 refine A9<|A6<|A8<|A6<|J0 W<|sq W<|sl W G_hit W<|sq W<|sl W (gq W) W (sv W<|bs hz4 fun _ hv2 hz4=>sd W (E2 W W hv2 W)<|sd W (H5 W hv2 W)<|bs hz4 fun v3 hv3 hz4=>sd W (E2 W W hv3 W)<|sd W (E4 W hv3 W W)<|sm W<|V5 W G_hit (BX v3) W (A2<|A6<|B1<|sq W<|sl W G_hit W<|sq W<|sl W (gq W) W (sv W<|A2<|cc W hz4 (fun c3 hz4=> ?_)<|fun c3 hz4=> ?_)))
 refine B1<|sv W<|A2<|B2 ?_
 cases hz4
 obtain rfl:=ez4 _ rfl
 refine ⟨nofun,H4 ?_⟩
 rw [wE]at hz2
 cases hz2
 obtain rfl:=ez2 _ rfl
 refine ⟨nofun,H4 ?_⟩
 rw [wE]at h
 cases h
 exact A7 (.inr W) (B6 (B3 W) C1) (.refl _)
 refine A9<|A6<|J0 W<|sq W<|sq W<|sl W G_hit W<|bs hz4 fun v4 hv4 hz4=>sd W (E2 W W hv4 W)<|sd W (E4 W hv4 W W)<|sq W<|sp W W<|sl W (gq W) W (sq W<|sp W W<|sl W (gq W) W (sd W (E8 W)<|sv W<|bs hz4 fun v5 hv5 hz4=>sd W (E2 W W hv5 W)<|sd W (E4 W hv5 W W)<|C0 (.d (bo (!(v4.X==v5.X&& (v4.Y==v5.Y&&true))))) W W (A2<|cc W hz4 (fun c4 hz4=> ?_)<|fun c4 hz4=> ?_)))
 refine B1<|sv W<|A2<|B2 ?_
 cases hz4
 obtain rfl:=ez4 _ rfl
 refine ⟨nofun,H4 ?_⟩
 rw [wE]at hz2
 cases hz2
 obtain rfl:=ez2 _ rfl
 refine ⟨nofun,H4 ?_⟩
 rw [wE]at h
 cases h
 exact A7 (.inr W) (B6 (B3 W) C1) (.refl _)
 refine A9<|F9<|C6<|sv W<|sv W<|sv W<|A2<|G5 ?_
 cases hz4
 exact ⟨W,(),(G9 W W)⟩
 refine D5 W ?_
 cases hz4
 obtain rfl:=ez4 _ rfl
 refine ⟨nofun,D4 W<|X2 ?_⟩
 exact ⟨_,(),W,(G9 W W)⟩
 rintro _ ⟨y2,g3,rfl,q1⟩
 rw [wD]at hz2
 refine F9<|B4 q1<|C6<|sv W<|sv W<|sv W<|A2<|G5 ?_
 cases hz2
 exact ⟨W,(),(G9 W W)⟩
 refine D5 W ?_
 cases hz2
 obtain rfl:=ez2 _ rfl
 refine ⟨nofun,D4 W<|X2 ?_⟩
 exact ⟨_,(),W,(G9 W W)⟩
 rintro _ ⟨y1,g1,rfl,q2⟩
 rw [wD]at h
 refine B4 q2<|B1<|sv W<|A2<|B2 ?_
 cases h
 exact A7 (.inr W) (B6 (B3 W) C1) (.refl _)
def V2 [Lp](p1:Map)(p2:Signal)(x2:Int):Option (Stp Int (Sum Unit Int)):=
  cond (decide (x2< (p2.Phases.length:Int))) ((B8 p2.Phases x2).bind fun v4=>(Fg v4.Green 0 (p1.Lanes.length:Int)).bind fun v5=>cond (!v5) (some (.out (.inr 11))) (some (.go (D2 (x2+1))))) (some (.out (.inl ())))
def V3 (p2:Signal)(x1:(Bool×Int)):Option (Stp (Bool×Int) Bool):=
  cond (decide (x1.2< (p2.Phases.length:Int))) (((cond x1.1 (B8 p2.Phases x1.2) (some default))).bind fun v2=>((cond x1.1 (Ci v2.Ticks 1 10000) (some default))).bind fun v3=>some (.go ((x1.1&&v3),(D2 (x1.2+1))))) (some (.out x1.1))
def Eo [Lp](p1:Map)(p2:Signal):Option Int:=
  cond ((p2.Phases.length:Int)==0) (some 6) (cond (decide ((p2.Phases.length:Int)>6)) (some 8) ((Ci p2.Offset 0 1099511627776).bind fun v1=>(loop (V3 p2) (v1,0)).bind fun y1=>cond (!y1) (some 2) (thenS (loop (V2 p1 p2) 0) (fun _=>some 0) (fun r=>some r))))
theorem Wk(p1 p2 r)(h:Eo p1 p2=some r):PCall prog 165 [(.agg (V1 p1)),(.agg [(i64 p2.Offset),(.list (List.map Eb p2.Phases))])] (i64 r):=by
 refine C3 (fk func165 ntmps165 m0 (by with_unfolding_all rfl)) (nl W) ?_
 unfold Eo at h
 refine B4 (s0:=⟨T [(0,(.d _)),(1,(.d _))],G []⟩) (G9 W W) ?_
 refine lr<|fun u1 _=>sm W<|sm W<|sv W<|A2<|A6<|B1<|sq W<|sl W G_hit W<|sd W (E8 W)<|sv W<|A2<|cc W h (fun c1 h=> ?_)<|fun c1 h=> ?_
 refine B1<|sv W<|A2<|B2 ?_
 cases h
 exact A7 (.inr W) (B6 (B3 W) C1) (.refl _)
 refine A9<|A6<|B1<|sq W<|sl W G_hit W<|sd W (E8 W)<|sv W<|A2<|cc W h (fun c2 h=> ?_)<|fun c2 h=> ?_
 refine B1<|sv W<|A2<|B2 ?_
 cases h
 exact A7 (.inr W) (B6 (B3 W) C1) (.refl _)
 refine A9<|B1<|sq W<|sl W G_hit W<|bs h fun v1 hv1 h=>B0 W W A3 (Ec _ _ _ _ hv1) (.inl W) (sv W<|A2<|A6<|B1<|sv W<|A2<|bs h fun y1 hy1 h=>E7 (fun s=> ∃g1:Unit,Sb ⟨T [(2,(.ptr (2,u1) 0)),(3,(.ptr (3,u1) 0)),(5,(.d (bo y1)))],G [((2,u1),some<|.box 33 (N4 p1)),((3,u1),some<|.box 120 [(di p2.Offset),(dl Eb p2.Phases)])]⟩ s) ?_ ?_)
 refine A8<|G6 (V3 p2) (fun (x1:(Bool×Int)) (g2:Unit)=>⟨T [(2,(.ptr (2,u1) 0)),(3,(.ptr (3,u1) 0)),(5,(.d (bo x1.1))),(6,(di x1.2))],G [((2,u1),some<|.box 33 (N4 p1)),((3,u1),some<|.box 120 [(di p2.Offset),(dl Eb p2.Phases)])]⟩) (v1,0) () _ hy1 (G9 W W) ?_
 intro x1 g2 z1 hz1 ez1
 unfold V3 at hz1
 refine A6<|B1<|sv W<|sq W<|sl W (gq W) W (sd W (E8 W)<|sv W<|A2<|cc W hz1 (fun c3 hz1=> ?_)<|fun c3 hz1=> ?_)
 refine A9<|A6<|A8<|C6<|sv W<|sv W<|gp W (O5 W) (fun _=>W) (gt W (vl W (gq W) W)<|gt W (fun _=>W)<|bs hz1 fun v2 hv2 hz1=>gt W (fun w4=>(E2 (A5 w4) (A5 w4) (D3 w4 hv2) W)) ?_)
 refine gt W (fun w5=>(by simp only [A5 w5];rfl)) ?_
 refine gt W (fun w6=>(H5 (A5 w6) (D3 w6 hv2) W))<|bs hz1 fun v3 hv3 hz1=> ?_
 refine P3 x1.1 (bo v3) (O5 W) (fun w7=>⟨_,[(di v2.Ticks),(di 1),(di 10000)],_,_,(by simp only [A5 w7];rfl),W,A3,Ec _ _ _ _<|D3 w7 hv3,(.inl W)⟩) ?_
 refine sa W W W<|sv W<|A2<|F9<|C6<|sv W<|sv W<|sv W<|A2<|G5 ?_
 cases hz1
 exact ⟨W,(),(G9 W W)⟩
 refine D5 W ?_
 cases hz1
 obtain rfl:=ez1 _ rfl
 refine ⟨nofun,D4 W<|X2 ?_⟩
 exact ⟨(),(G9 W W)⟩
 rintro _ ⟨g1,q1⟩
 refine B4 q1<|A6<|B1<|sv W<|C0 (.d (bo (!y1))) W W (A2<|cc W h (fun c4 h=> ?_)<|fun c4 h=> ?_)
 refine B1<|sv W<|A2<|B2 ?_
 cases h
 exact A7 (.inr W) (B6 (B3 W) C1) (.refl _)
 refine A9<|A6<|B1<|sv W<|A2<|js h fun z2 hz2 h=>E7 (fun s=> ∃(y2:Unit) (g3:Unit),z2= .inl y2∧Sb ⟨T [],G []⟩ s) ?_ ?_
 refine A8<|G6 (V2 p1 p2) (fun (x2:Int) (g4:Unit)=>⟨T [(2,(.ptr (2,u1) 0)),(3,(.ptr (3,u1) 0)),(7,(di x2))],G [((2,u1),some<|.box 33 (N4 p1)),((3,u1),some<|.box 120 [(di p2.Offset),(dl Eb p2.Phases)])]⟩) 0 () _ hz2 (G9 W W) ?_
 intro x2 g4 z3 hz3 ez3
 unfold V2 at hz3
 refine A6<|B1<|sv W<|sq W<|sl W (gq W) W (sd W (E8 W)<|sv W<|A2<|cc W hz3 (fun c5 hz3=> ?_)<|fun c5 hz3=> ?_)
 refine A9<|A6<|A8<|A6<|J0 W<|sq W<|sl W (gq W) W (sv W<|bs hz3 fun _ hv4 hz3=>sd W (E2 W W hv4 W)<|sv W<|sd W (H5 W hv4 W)<|sq W<|sl W G_hit W<|sd W (E8 W)<|bs hz3 fun v5 hv5 hz3=>B0 W W A3 (Nf _ _ _ _ hv5) (.inl W) (C0 (.d (bo (!v5))) W W (A2<|cc W hz3 (fun c6 hz3=> ?_)<|fun c6 hz3=> ?_)))
 refine B1<|sv W<|A2<|B2 ?_
 cases hz3
 obtain rfl:=ez3 _ rfl
 refine ⟨nofun,H4 ?_⟩
 rw [wE]at h
 cases h
 exact A7 (.inr W) (B6 (B3 W) C1) (.refl _)
 refine A9<|F9<|C6<|sv W<|sv W<|sv W<|A2<|G5 ?_
 cases hz3
 exact ⟨W,(),(G9 W W)⟩
 refine D5 W ?_
 cases hz3
 obtain rfl:=ez3 _ rfl
 refine ⟨nofun,D4 W<|X2 ?_⟩
 exact ⟨_,(),W,(G9 W W)⟩
 rintro _ ⟨y2,g3,rfl,q2⟩
 rw [wD]at h
 refine B4 q2<|B1<|sv W<|A2<|B2 ?_
 cases h
 exact A7 (.inr W) (B6 (B3 W) C1) (.refl _)
def Bw [Lp](p1:Curve)(x1:((List Int)×Int)):Option (Stp ((List Int)×Int) (List Int)):=
  cond (decide ((D2 (x1.2+1))< (p1.Pts.length:Int))) ((B8 p1.Pts (D2 (x1.2+1))).bind fun v2=>(B8 p1.Pts x1.2).bind fun v3=>(Ir v2 v3).bind fun v4=>(Lc v4 v4).bind fun v5=>(Is v5).bind fun v6=>(Bj x1.1 [v6]).bind fun v7=>some (.go (v7,(D2 (x1.2+1))))) (some (.out x1.1))
def Ly [Lp](p1:Curve):Option (List Int):=
  (Ld p1).bind fun v1=>cond (v1 !=0) (some []) ((loop (Bw p1) ([],0)).bind fun y1=>some y1)
theorem FE(p1 r)(h:Ly p1=some r):PCall prog 134 [(.agg [(.list (List.map Bs p1.Pts))])] (.list (List.map A4 r)):=by
 refine C3 (fk func134 ntmps134 (fun r=>if r==8 then [1005]else []) (by with_unfolding_all rfl)) (nl W) ?_
 unfold Ly at h
 refine B4 (s0:=⟨T [(0,(.d _))],G []⟩) (G9 W W) ?_
 refine lr<|fun u1 _=>sm W<|sv W<|A2<|A6<|B1<|sd W (B7 W G_hit W W)<|bs h fun _ hv1 h=>B0 W W A3 (Wj _ _ hv1) (.inl W) (sv W<|A2<|cc W h (fun c1 h=> ?_)<|fun c1 h=> ?_)
 refine B1<|sv W<|A2<|B2 ?_
 cases h
 exact A7 (.inr W) (B6 (B3 W) C1) DLe.nil
 refine A9<|B1<|sv W<|A2<|A6<|B1<|sv W<|A2<|bs h fun y1 hy1 h=>E7 (fun s=> ∃g1:Nat,Sb ⟨T [(3,(oS y1 (35,g1)))],G [((35,g1),oB 2 1 A4 y1)]⟩ s) ?_ ?_
 refine A8<|G6 (Bw p1) (fun (x1:((List Int)×Int)) (g2:Nat)=>⟨T [(1,(.ptr (1,u1) 0)),(3,(oS x1.1 (35,g2))),(4,(di x1.2))],G [((1,u1),some<|.box 61 [(dl Bs p1.Pts)]),((35,g2),oB 2 1 A4 x1.1)]⟩) ([],0) 0 _ hy1 (F6 (Dv W)<|B5 G_hit (.of W)<|T8 trivial) ?_
 intro x1 g2 z1 hz1 ez1
 unfold Bw at hz1
 refine A6<|B1<|sv W<|sv W<|sq W<|sl W G_hit W<|sd W (E8 W)<|sv W<|A2<|cc W hz1 (fun c2 hz1=> ?_)<|fun c2 hz1=> ?_
 refine A9<|A6<|A8<|A6<|J0 W<|sq W<|sl W G_hit W<|sv W<|sv W<|bs hz1 fun _ hv2 hz1=>sd W (E2 W W hv2 W)<|sd W (E4 W hv2 W W)<|sq W<|sl W G_hit W<|sv W<|bs hz1 fun _ hv3 hz1=>sd W (E2 W W hv3 W)<|sd W (E4 W hv3 W W)<|bs hz1 fun v4 hv4 hz1=>B0 W W A3 (Pu _ _ _ hv4) (.inl W) (sm W<|V5 W G_hit [(di v4.X),(di v4.Y)] W (A2<|Cd fun u8 _=>C0 (oS x1.1 (35,g2)) W W (sd W (B7 W G_hit W W)<|sd W (B7 W G_hit W W)<|bs hz1 fun _ hv5 hz1=>B0 W W A3 (Pc _ _ _ hv5) (.inl W) (bs hz1 fun v6 hv6 hz1=>B0 W W A3 (Yt _ _ hv6) (.inl W) (C0 (dl A4 [v6]) W W (bs hz1 fun _ hv7 hz1=>U7 A4 (35,g2) x1.1 v6 [] _ (P0<|fun _=>W) W (gq W) hv7 (ss W<|A2<|F9<|C6<|sv W<|sv W<|sv W<|A2<|G5 ?_)))))))
 cases hz1
 exact ⟨W,u8,(F6 ⟨.of W,(.of (X1<|Aj hv7).symm), .of W,trivial⟩<|sg W<|O8 G_hit trivial)⟩
 refine D5 W ?_
 cases hz1
 obtain rfl:=ez1 _ rfl
 refine ⟨nofun,D4 W<|X2 ?_⟩
 exact ⟨g2,(F6 ⟨.of W,trivial⟩<|C2 (gq W) trivial)⟩
 rintro _ ⟨g1,q1⟩
 refine B4 q1<|B1<|C0 (oS y1 (35,g1)) W W (C0 (oS y1 (35,g1)) W W (A2<|B2 ?_))
 cases h
 exact A7 (.inr W) (B6 (B3 W)<|X4 G_hit) X3
def Ad (v1:(List Int))(x1:(Int×Int)):Option (Stp (Int×Int) Int):=
  cond (decide (x1.2< (v1.length:Int))) ((B8 v1 x1.2).bind fun v2=>some (.go ((D2 (x1.1+v2)),(D2 (x1.2+1))))) (some (.out x1.1))
def Ep [Lp](p1:Curve):Option Int:=
  (Ly p1).bind fun v1=>(loop (Ad v1) (0,0)).bind fun y1=>some y1
theorem Of(p1 r)(h:Ep p1=some r):PCall prog 204 [(.agg [(.list (List.map Bs p1.Pts))])] (i64 r):=by
 refine C3 (fk func204 ntmps204 m0 (by with_unfolding_all rfl)) (nl W) ?_
 unfold Ep at h
 refine B4 (s0:=⟨T [(0,(.d _))],G []⟩) (G9 W W) ?_
 refine B1<|sm W<|sv W<|A2<|B1<|sv W<|A2<|B1<|sd W (B7 W G_hit W W)<|bs h fun v1 hv1 h=>B0 W W A3 (FE _ _ hv1) (.inl W) (sv W<|A2<|A6<|B1<|sv W<|A2<|bs h fun y1 hy1 h=>E7 (fun s=> ∃g1:Unit,Sb ⟨T [(3,(di y1))],G []⟩ s) ?_ ?_)
 refine A8<|G6 (Ad v1) (fun (x1:(Int×Int)) (g2:Unit)=>⟨T [(3,(di x1.1)),(4,(dl A4 v1)),(5,(di x1.2))],G []⟩) (0,0) () _ hy1 (G9 W W) ?_
 intro x1 g2 z1 hz1 ez1
 unfold Ad at hz1
 refine A6<|B1<|sv W<|sv W<|sd W (E8 W)<|sv W<|A2<|cc W hz1 (fun c1 hz1=> ?_)<|fun c1 hz1=> ?_
 refine A9<|A6<|A8<|C6<|sv W<|sv W<|sv W<|bs hz1 fun _ hv2 hz1=>sd W (E2 W W hv2 W)<|sd W (H5 W hv2 W)<|sv W<|sv W<|A2<|F9<|C6<|sv W<|sv W<|sv W<|A2<|G5 ?_
 cases hz1
 exact ⟨W,(),(G9 W W)⟩
 refine D5 W ?_
 cases hz1
 obtain rfl:=ez1 _ rfl
 refine ⟨nofun,D4 W<|X2 ?_⟩
 exact ⟨(),(G9 W W)⟩
 rintro _ ⟨g1,q1⟩
 refine B4 q1<|B1<|sv W<|sv W<|A2<|B2 ?_
 cases h
 exact A7 (.inr W) (B6 (B3 W) C1) (.refl _)
def Ar [Lp](p1:Map)(p2:Zone)(x2:Int):Option (Stp Int (Sum Unit Int)):=
  cond (decide (x2< (p2.Parts.length:Int))) ((B8 p2.Parts x2).bind fun v4=>((cond (!((decide (v4.From<0))||(decide (v4.From≥v4.To)))) (B8 p1.Lanes v4.Lane_) (some default))).bind fun v5=>((cond (!((decide (v4.From<0))||(decide (v4.From≥v4.To)))) (Ep v5.Curve_) (some default))).bind fun v6=>cond (((((decide (v4.From<0))||(decide (v4.From≥v4.To)))||(decide (v4.To>v6)))||(decide (v4.Rank<0)))||(decide (v4.Rank>100))) (some (.out (.inr 2))) (some (.go (D2 (x2+1))))) (some (.out (.inl ())))
def Ha (p2:Zone)(x1:((List Int)×Int)):Option (Stp ((List Int)×Int) (List Int)):=
  cond (decide (x1.2< (p2.Parts.length:Int))) ((B8 p2.Parts x1.2).bind fun v1=>(Bj x1.1 [v1.Lane_]).bind fun v2=>some (.go (v2,(D2 (x1.2+1))))) (some (.out x1.1))
def Hu [Lp](p1:Map)(p2:Zone):Option Int:=
  cond (decide ((p2.Parts.length:Int)<2)) (some 6) (cond (decide ((p2.Parts.length:Int)>6)) (some 8) (cond ((decide (p2.Signal_<0))||(decide (p2.Signal_>(p1.Signals.length:Int)))) (some 2) ((loop (Ha p2) ([],0)).bind fun y1=>(Fg y1 0 (p1.Lanes.length:Int)).bind fun v3=>cond (!v3) (some 11) (thenS (loop (Ar p1 p2) 0) (fun _=>some 0) (fun r=>some r)))))
theorem AD(p1 p2 r)(h:Hu p1 p2=some r):PCall prog 166 [(.agg (V1 p1)),(.agg [(.list (List.map Df p2.Parts)),(i64 p2.Signal_)])] (i64 r):=by
 refine C3 (fk func166 ntmps166 (fun r=>if r==11 then [1007]else []) (by with_unfolding_all rfl)) (nl W) ?_
 unfold Hu at h
 refine B4 (s0:=⟨T [(0,(.d _)),(1,(.d _))],G []⟩) (G9 W W) ?_
 refine lr<|fun u1 _=>sm W<|sm W<|sv W<|A2<|A6<|B1<|sq W<|sl W G_hit W<|sd W (E8 W)<|sv W<|A2<|cc W h (fun c1 h=> ?_)<|fun c1 h=> ?_
 refine B1<|sv W<|A2<|B2 ?_
 cases h
 exact A7 (.inr W) (B6 (B3 W) C1) (.refl _)
 refine A9<|A6<|B1<|sq W<|sl W G_hit W<|sd W (E8 W)<|sv W<|A2<|cc W h (fun c2 h=> ?_)<|fun c2 h=> ?_
 refine B1<|sv W<|A2<|B2 ?_
 cases h
 exact A7 (.inr W) (B6 (B3 W) C1) (.refl _)
 refine A9<|A6<|B1<|sq W<|sl W G_hit W<|sv W<|sv W<|gp W (N5 W) (fun _=>W) (gf W (vl W G_hit W)<|gp W (N5 W) (fun _=>W) (gf W (vl W (gq W) W)<|gf W (fun w5=>(E8<|A5 w5))<|gf W (fun w6=>(S9 (A5 w6) (A5 w6) W))<|sd W (T5 W W<|fun hc=>A5<|M7 hc)<|A2<|cc W h (fun c3 h=> ?_)<|fun c3 h=> ?_))
 refine B1<|sv W<|A2<|B2 ?_
 cases h
 exact A7 (.inr W) (B6 (B3 W) C1) (.refl _)
 refine A9<|B1<|sv W<|A2<|A6<|B1<|sv W<|A2<|bs h fun y1 hy1 h=>E7 (fun s=> ∃g1:Nat,Sb ⟨T [(2,(.ptr (2,u1) 0)),(3,(.ptr (3,u1) 0)),(5,(oS y1 (43,g1)))],G [((2,u1),some<|.box 33 (N4 p1)),((3,u1),some<|.box 117 [(dl Df p2.Parts),(di p2.Signal_)]),((43,g1),oB 3 1 A4 y1)]⟩ s) ?_ ?_
 refine A8<|G6 (Ha p2) (fun (x1:((List Int)×Int)) (g2:Nat)=>⟨T [(2,(.ptr (2,u1) 0)),(3,(.ptr (3,u1) 0)),(5,(oS x1.1 (43,g2))),(6,(di x1.2))],G [((2,u1),some<|.box 33 (N4 p1)),((3,u1),some<|.box 117 [(dl Df p2.Parts),(di p2.Signal_)]),((43,g2),oB 3 1 A4 x1.1)]⟩) ([],0) 0 _ hy1 (F6 (Dv W)<|sg W<|B5 G_hit (.of W)<|T8 trivial) ?_
 intro x1 g2 z1 hz1 ez1
 unfold Ha at hz1
 refine A6<|B1<|sv W<|sq W<|sl W (gq W) W (sd W (E8 W)<|sv W<|A2<|cc W hz1 (fun c4 hz1=> ?_)<|fun c4 hz1=> ?_)
 refine A9<|A6<|A8<|Cd fun u11 _=>C0 (oS x1.1 (43,g2)) W W (sq W<|sl W (gq W) W (sv W<|bs hz1 fun v1 hv1 hz1=>sd W (E2 W W hv1 W)<|sv W<|sd W (H5 W hv1 W)<|C0 (dl A4 [v1.Lane_]) W W (bs hz1 fun _ hv2 hz1=>U7 A4 (43,g2) x1.1 v1.Lane_ [] _ (P0<|fun _=>W) W (gq W) hv2 (ss W<|A2<|F9<|C6<|sv W<|sv W<|sv W<|A2<|G5 ?_))))
 cases hz1
 exact ⟨W,u11,(F6 ⟨.of W, .of W,(.of (X1<|Aj hv2).symm), .of W,trivial⟩<|sg W<|sg W<|O8 G_hit trivial)⟩
 refine D5 W ?_
 cases hz1
 obtain rfl:=ez1 _ rfl
 refine ⟨nofun,D4 W<|X2 ?_⟩
 exact ⟨g2,(F6 (Dv W)<|B5 G_hit (.of W)<|sg W<|C2 (gq W) trivial)⟩
 rintro _ ⟨g1,q1⟩
 refine B4 q1<|A6<|B1<|C0 (oS y1 (43,g1)) W W (sq W<|sl W G_hit W<|sd W (E8 W)<|bs h fun v3 hv3 h=>B0 W (E3 (X4<|gq W)<|rD<|rD G2) (.cons X3 (.cons (.refl _) A3)) (Nf _ _ _ _ hv3) (.inr W) (C0 (.d (bo (!v3))) W W (A2<|cc W h (fun c5 h=> ?_)<|fun c5 h=> ?_)))
 refine B1<|sv W<|A2<|B2 ?_
 cases h
 exact A7 (.inr W) (B6 (B3 W) C1) (.refl _)
 refine A9<|A6<|B1<|sv W<|A2<|js h fun z2 hz2 h=>E7 (fun s=> ∃(y2:Unit) (g3:Unit),z2= .inl y2∧Sb ⟨T [],G []⟩ s) ?_ ?_
 refine A8<|G6 (Ar p1 p2) (fun (x2:Int) (g4:Unit)=>⟨T [(2,(.ptr (2,u1) 0)),(3,(.ptr (3,u1) 0)),(7,(di x2))],G [((2,u1),some<|.box 33 (N4 p1)),((3,u1),some<|.box 117 [(dl Df p2.Parts),(di p2.Signal_)])]⟩) 0 () _ hz2 (G9 W W) ?_
 intro x2 g4 z3 hz3 ez3
 unfold Ar at hz3
 refine A6<|B1<|sv W<|sq W<|sl W (gq W) W (sd W (E8 W)<|sv W<|A2<|cc W hz3 (fun c6 hz3=> ?_)<|fun c6 hz3=> ?_)
 refine A9<|A6<|A8<|B1<|sq W<|sl W (gq W) W (sv W<|bs hz3 fun v4 hv4 hz3=>sd W (E2 W W hv4 W)<|sd W (E4 W hv4 W W)<|sm W<|V5 W G_hit (HR v4) W (A2<|A6<|J0 W<|sq W<|sl W G_hit W<|sv W<|sv W<|gp W (N5 W) (fun _=>W) (gf W (vl W G_hit W)<|gp W (N5 W) (fun _=>W) (gf W (vl W G_hit W)<|gf W (fun w11=>(S9 (A5 w11) (A5 w11) W))<|sd W (T5 W W<|fun hc=>A5<|M7 hc)<|sv W<|gp W (N5 W) (fun _=>W) (gf W (vl W G_hit W)<|gp W (N5 W) (fun _=>W) (gf W (vl W (gq W) W)<|gp W (N5 W) (fun _=>W) (gf W (vl W G_hit W)<|bs hz3 fun v5 hv5 hz3=>gf W (fun w18=>(E2 (A5 w18) (A5 w18) (D3 w18 hv5) W)) ?_)))))))
 refine gf W (fun w19=>(by simp only [A5 w19];rfl)) ?_
 refine gf W (fun w20=>(E4 (A5 w20) (D3 w20 hv5) W W))<|bs hz3 fun v6 hv6 hz3=> ?_
 refine P3 _ (i64 v6) (N5 W) (fun w21=>⟨_,[(.d (.agg [(.list (List.map Bs v5.Curve_.Pts))]))],_,_,(by simp only [A5 w21];rfl),W,A3,Of _ _<|D3 w21 hv6,(.inl W)⟩) ?_
 refine gf W (fun w22=>(S9 (A5 w22) (A5 w22) W))<|sd W (T5 W W<|fun hc=>A5<|M7 hc)<|sv W<|gp W (N5 W) (fun _=>W) (gf W (vl W G_hit W)<|gf W (vb W W W)<|sd W (T5 W W<|fun hc=>A5<|M7 hc)<|sv W<|gp W (N5 W) (fun _=>W) (gf W (vl W G_hit W)<|gf W (vb W W W)<|sd W (T5 W W<|fun hc=>A5<|M7 hc)<|A2<|cc W hz3 (fun c7 hz3=> ?_)<|fun c7 hz3=> ?_))
 refine B1<|sv W<|A2<|B2 ?_
 cases hz3
 obtain rfl:=ez3 _ rfl
 refine ⟨nofun,H4 ?_⟩
 rw [wE]at h
 cases h
 exact A7 (.inr W) (B6 (B3 W) C1) (.refl _)
 refine A9<|F9<|C6<|sv W<|sv W<|sv W<|A2<|G5 ?_
 cases hz3
 exact ⟨W,(),(G9 W W)⟩
 refine D5 W ?_
 cases hz3
 obtain rfl:=ez3 _ rfl
 refine ⟨nofun,D4 W<|X2 ?_⟩
 exact ⟨_,(),W,(G9 W W)⟩
 rintro _ ⟨y2,g3,rfl,q2⟩
 rw [wD]at h
 refine B4 q2<|B1<|sv W<|A2<|B2 ?_
 cases h
 exact A7 (.inr W) (B6 (B3 W) C1) (.refl _)
def Hv [Lp](p1:Map)(p2:Work):Option Int:=
  cond ((decide (p2.Lane_<0))||(decide (p2.Lane_≥(p1.Lanes.length:Int)))) (some 7) ((B8 p1.Lanes p2.Lane_).bind fun v1=>(Cg v1.Kind).bind fun v2=>((cond (!((decide (p2.From<0))||(decide (p2.From>p2.To)))) (Ep v1.Curve_) (some default))).bind fun v3=>((cond (!((((((decide (p2.From<0))||(decide (p2.From>p2.To)))||(decide (p2.To>v3)))||(decide (p2.Begin<0)))||(decide (p2.Begin≥p2.End)))||(decide (p2.End>1099511627776)))) (Ci p2.Limit 0 v2.1) (some default))).bind fun v4=>cond (((((((decide (p2.From<0))||(decide (p2.From>p2.To)))||(decide (p2.To>v3)))||(decide (p2.Begin<0)))||(decide (p2.Begin≥p2.End)))||(decide (p2.End>1099511627776)))||(!v4)) (some 2) (some 0))
theorem AE(p1 p2 r)(h:Hv p1 p2=some r):PCall prog 167 [(.agg (V1 p1)),(.agg (Sl p2))] (i64 r):=by
 refine C3 (fk func167 ntmps167 m0 (by with_unfolding_all rfl)) (nl W) ?_
 unfold Hv at h
 refine B4 (s0:=⟨T [(0,(.d _)),(1,(.d _))],G []⟩) (G9 W W) ?_
 refine B1<|sm W<|sn W W<|sv W<|A2<|A6<|B1<|sq W<|sl W G_hit W<|sv W<|sv W<|gp W (N5 W) (fun _=>W) (gf W (vl W G_hit W)<|gp W (N5 W) (fun _=>W) (gf W (vl W (gq W) W)<|gf W (fun w5=>(E8<|A5 w5))<|gf W (fun w6=>(S9 (A5 w6) (A5 w6) W))<|sd W (T5 W W<|fun hc=>A5<|M7 hc)<|A2<|cc W h (fun c1 h=> ?_)<|fun c1 h=> ?_))
 refine B1<|sv W<|A2<|B2 ?_
 cases h
 exact A7 (.inr W) (B6 (B3 W) C1) (.refl _)
 refine A9<|B1<|sq W<|sl W (gq W) W (sq W<|sl W G_hit W<|bs h fun v1 hv1 h=>sd W (E2 W W hv1 W)<|sd W (E4 W hv1 W W)<|sm W<|V5 W G_hit (BX v1) W (A2<|B1<|sq W<|sl W G_hit W<|bs h fun v2 hv2 h=>B0 W W A3 (Oe _ _ hv2) (.inl W) (sv W<|sv W<|sv W<|sv W<|sv W<|sv W<|sv W<|A2<|A6<|A6<|J0 W<|sq W<|sl W (gq W) W (sv W<|sv W<|gp W (N5 W) (fun _=>W) (gf W (vl W (gq W) W)<|gp W (N5 W) (fun _=>W) (gf W (vl W (gq W) W)<|gf W (fun w11=>(S9 (A5 w11) (A5 w11) W))<|sd W (T5 W W<|fun hc=>A5<|M7 hc)<|sv W<|gp W (N5 W) (fun _=>W) (gf W (vl W (gq W) W)<|gp W (N5 W) (fun _=>W) (gf W (fun w15=>(B7 (A5 w15) G_hit W W))<|bs h fun v3 hv3 h=> ?_))))))))
 refine P3 _ (i64 v3) (N5 W) (fun w16=>⟨_,[(.d (.agg [(.list (List.map Bs v1.Curve_.Pts))]))],_,_,(by simp only [A5 w16];rfl),W,A3,Of _ _<|D3 w16 hv3,(.inl W)⟩) ?_
 refine gf W (fun w17=>(S9 (A5 w17) (A5 w17) W))<|sd W (T5 W W<|fun hc=>A5<|M7 hc)<|sv W<|gp W (N5 W) (fun _=>W) (gf W (vl W (gq W) W)<|gf W (vb W W W)<|sd W (T5 W W<|fun hc=>A5<|M7 hc)<|sv W<|gp W (N5 W) (fun _=>W) (gf W (vl W (gq W) W)<|gp W (N5 W) (fun _=>W) (gf W (vl W (gq W) W)<|gf W (fun w25=>(S9 (A5 w25) (A5 w25) W))<|sd W (T5 W W<|fun hc=>A5<|M7 hc)<|sv W<|gp W (N5 W) (fun _=>W) (gf W (vl W (gq W) W)<|gf W (vb W W W)<|sd W (T5 W W<|fun hc=>A5<|M7 hc)<|sv W<|gp W (N5 W) (fun _=>W) (gf W (vl W (gq W) W)<|gf W (fun _=>W)<|bs h fun v4 hv4 h=> ?_)))))
 refine P3 _ (bo v4) (N5 W) (fun w32=>⟨_,[(di p2.Limit),(di 0),(di v2.1)],_,_,(by simp only [A5 w32];rfl),W,A3,Ec _ _ _ _<|D3 w32 hv4,(.inl W)⟩) ?_
 refine U8 _ (.d (bo (!v4))) W (N5 W) (fun w33=>(by simp only [A5 w33];rfl)) ?_
 refine sd W (T5 W W<|fun hc=>A5<|M7 hc)<|A2<|cc W h (fun c2 h=> ?_)<|fun c2 h=> ?_
 refine B1<|sv W<|A2<|B2 ?_
 cases h
 exact A7 (.inr W) (B6 (B3 W) C1) (.refl _)
 refine A9<|B1<|sv W<|A2<|B2 ?_
 cases h
 exact A7 (.inr W) (B6 (B3 W) C1) (.refl _)
def Gf [Lp](p1:Map)(x4:(Int×Int)):Option (Stp (Int×Int) Int):=
  cond ((decide (x4.2< (p1.Works.length:Int)))&& (x4.1==0)) ((B8 p1.Works x4.2).bind fun v8=>(Hv p1 v8).bind fun v9=>some (.go (v9,(D2 (x4.2+1))))) (some (.out x4.1))
def Gg [Lp](p1:Map)(x3:(Int×Int)):Option (Stp (Int×Int) Int):=
  cond ((decide (x3.2< (p1.Zones.length:Int)))&& (x3.1==0)) ((B8 p1.Zones x3.2).bind fun v6=>(Hu p1 v6).bind fun v7=>some (.go (v7,(D2 (x3.2+1))))) (some (.out x3.1))
def Gh [Lp](p1:Map)(x2:(Int×Int)):Option (Stp (Int×Int) Int):=
  cond ((decide (x2.2< (p1.Signals.length:Int)))&& (x2.1==0)) ((B8 p1.Signals x2.2).bind fun v4=>(Eo p1 v4).bind fun v5=>some (.go (v5,(D2 (x2.2+1))))) (some (.out x2.1))
def Dj [Lp](p1:Map)(x1:Int):Option (Stp Int (Sum Unit Int)):=
  cond (decide (x1< (p1.Lanes.length:Int))) ((Hr p1 x1).bind fun v2=>cond (v2 !=0) (some (.out (.inr v2))) (some (.go (D2 (x1+1))))) (some (.out (.inl ())))
def Iu [Lp](p1:Map):Option Int:=
  (Ci p1.Version 0 1099511627776).bind fun v1=>cond (!v1) (some 2) (cond ((p1.Lanes.length:Int)==0) (some 6) (cond ((((decide ((p1.Lanes.length:Int)>12))||(decide ((p1.Zones.length:Int)>12)))||(decide ((p1.Signals.length:Int)>4)))||(decide ((p1.Works.length:Int)>8))) (some 8) (thenS (loop (Dj p1) 0) (fun _=>(Ht p1).bind fun v3=>(loop (Gh p1) (v3,0)).bind fun y2=>(loop (Gg p1) (y2,0)).bind fun y3=>(loop (Gf p1) (y3,0)).bind fun y4=>some y4) (fun r=>some r))))
theorem HT(p1 r)(h:Iu p1=some r):PCall prog 76 [(.agg (V1 p1))] (i64 r):=by
 refine C3 (fk func76 ntmps76 m0 (by with_unfolding_all rfl)) (nl W) ?_
 unfold Iu at h
 refine B4 (s0:=⟨T [(0,(.d _))],G []⟩) (G9 W W) ?_
 refine lr<|fun u1 _=>sm W<|sv W<|A2<|A6<|B1<|sq W<|sl W G_hit W<|bs h fun v1 hv1 h=>B0 W W A3 (Ec _ _ _ _ hv1) (.inl W) (C0 (.d (bo (!v1))) W W (A2<|cc W h (fun c1 h=> ?_)<|fun c1 h=> ?_))
 refine B1<|sv W<|A2<|B2 ?_
 cases h
 exact A7 (.inr W) (B6 (B3 W) C1) (.refl _)
 refine A9<|A6<|B1<|sq W<|sl W G_hit W<|sd W (E8 W)<|sv W<|A2<|cc W h (fun c2 h=> ?_)<|fun c2 h=> ?_
 refine B1<|sv W<|A2<|B2 ?_
 cases h
 exact A7 (.inr W) (B6 (B3 W) C1) (.refl _)
 refine A9<|A6<|B1<|sq W<|sl W G_hit W<|sd W (E8 W)<|sv W<|sv W<|gp W (N5 W) (fun _=>W) (gf W (vl W G_hit W)<|gf W (fun w3=>(E8<|A5 w3))<|gf W (vb W W W)<|sd W (T5 W W<|fun hc=>A5<|M7 hc)<|sv W<|gp W (N5 W) (fun _=>W) (gf W (vl W G_hit W)<|gf W (fun w7=>(E8<|A5 w7))<|gf W (vb W W W)<|sd W (T5 W W<|fun hc=>A5<|M7 hc)<|sv W<|gp W (N5 W) (fun _=>W) (gf W (vl W G_hit W)<|gf W (fun w11=>(E8<|A5 w11))<|gf W (vb W W W)<|sd W (T5 W W<|fun hc=>A5<|M7 hc)<|A2<|cc W h (fun c3 h=> ?_)<|fun c3 h=> ?_)))
 refine B1<|sv W<|A2<|B2 ?_
 cases h
 exact A7 (.inr W) (B6 (B3 W) C1) (.refl _)
 refine A9<|A6<|B1<|sv W<|A2<|js h fun z1 hz1 h=>E7 (fun s=> ∃(y1:Unit) (g1:Unit),z1= .inl y1∧Sb ⟨T [(1,(.ptr (1,u1) 0))],G [((1,u1),some<|.box 33 (N4 p1))]⟩ s) ?_ ?_
 refine A8<|G6 (Dj p1) (fun (x1:Int) (g2:Unit)=>⟨T [(1,(.ptr (1,u1) 0)),(3,(di x1))],G [((1,u1),some<|.box 33 (N4 p1))]⟩) 0 () _ hz1 (G9 W W) ?_
 intro x1 g2 z2 hz2 ez2
 unfold Dj at hz2
 refine A6<|B1<|sv W<|sq W<|sl W G_hit W<|sd W (E8 W)<|sv W<|A2<|cc W hz2 (fun c4 hz2=> ?_)<|fun c4 hz2=> ?_
 refine A9<|A6<|A8<|B1<|sd W (B7 W G_hit W W)<|sv W<|bs hz2 fun _ hv2 hz2=>B0 W W A3 (AA _ _ _ hv2) (.inl W) (sv W<|A2<|B1<|sv W<|sv W<|A2<|cc W hz2 (fun c5 hz2=> ?_)<|fun c5 hz2=> ?_)
 refine B1<|sv W<|sv W<|A2<|B2 ?_
 cases hz2
 obtain rfl:=ez2 _ rfl
 refine ⟨nofun,H4 ?_⟩
 rw [wE]at h
 cases h
 exact A7 (.inr W) (B6 (B3 W) C1) (.refl _)
 refine A9<|F9<|C6<|sv W<|sv W<|sv W<|A2<|G5 ?_
 cases hz2
 exact ⟨W,(),(G9 W W)⟩
 refine D5 W ?_
 cases hz2
 obtain rfl:=ez2 _ rfl
 refine ⟨nofun,D4 W<|X2 ?_⟩
 exact ⟨_,(),W,(G9 W W)⟩
 rintro _ ⟨y1,g1,rfl,q1⟩
 rw [wD]at h
 refine B4 q1<|B1<|sd W (B7 W G_hit W W)<|bs h fun v3 hv3 h=>B0 W W A3 (AB _ _ hv3) (.inl W) (sv W<|A2<|A6<|B1<|sv W<|A2<|bs h fun y2 hy2 h=>E7 (fun s=> ∃g3:Unit,Sb ⟨T [(1,(.ptr (1,u1) 0)),(5,(di y2))],G [((1,u1),some<|.box 33 (N4 p1))]⟩ s) ?_ ?_)
 refine A8<|G6 (Gh p1) (fun (x2:(Int×Int)) (g4:Unit)=>⟨T [(1,(.ptr (1,u1) 0)),(5,(di x2.1)),(6,(di x2.2))],G [((1,u1),some<|.box 33 (N4 p1))]⟩) (v3,0) () _ hy2 (G9 W W) ?_
 intro x2 g4 z3 hz3 ez3
 unfold Gh at hz3
 refine A6<|B1<|sv W<|sq W<|sl W G_hit W<|sd W (E8 W)<|sv W<|sv W<|gt W (fun _=>W)<|gt W (vb W W W)<|sa W W W<|A2<|cc W hz3 (fun c6 hz3=> ?_)<|fun c6 hz3=> ?_
 refine A9<|A6<|A8<|J0 W<|sd W (B7 W G_hit W W)<|sq W<|sl W G_hit W<|sv W<|bs hz3 fun _ hv4 hz3=>sd W (E2 W W hv4 W)<|sd W (E4 W hv4 W W)<|bs hz3 fun _ hv5 hz3=>B0 W W A3 (Wk _ _ _ hv5) (.inl W) (sv W<|A2<|F9<|C6<|sv W<|sv W<|sv W<|A2<|G5 ?_)
 cases hz3
 exact ⟨W,(),(G9 W W)⟩
 refine D5 W ?_
 cases hz3
 obtain rfl:=ez3 _ rfl
 refine ⟨nofun,D4 W<|X2 ?_⟩
 exact ⟨(),(G9 W W)⟩
 rintro _ ⟨g3,q2⟩
 refine B4 q2<|A6<|B1<|sv W<|A2<|bs h fun y3 hy3 h=>E7 (fun s=> ∃g5:Unit,Sb ⟨T [(1,(.ptr (1,u1) 0)),(5,(di y3))],G [((1,u1),some<|.box 33 (N4 p1))]⟩ s) ?_ ?_
 refine A8<|G6 (Gg p1) (fun (x3:(Int×Int)) (g6:Unit)=>⟨T [(1,(.ptr (1,u1) 0)),(5,(di x3.1)),(7,(di x3.2))],G [((1,u1),some<|.box 33 (N4 p1))]⟩) (y2,0) () _ hy3 (G9 W W) ?_
 intro x3 g6 z4 hz4 ez4
 unfold Gg at hz4
 refine A6<|B1<|sv W<|sq W<|sl W G_hit W<|sd W (E8 W)<|sv W<|sv W<|gt W (fun _=>W)<|gt W (vb W W W)<|sa W W W<|A2<|cc W hz4 (fun c7 hz4=> ?_)<|fun c7 hz4=> ?_
 refine A9<|A6<|A8<|J0 W<|sd W (B7 W G_hit W W)<|sq W<|sl W G_hit W<|sv W<|bs hz4 fun _ hv6 hz4=>sd W (E2 W W hv6 W)<|sd W (E4 W hv6 W W)<|bs hz4 fun _ hv7 hz4=>B0 W W A3 (AD _ _ _ hv7) (.inl W) (sv W<|A2<|F9<|C6<|sv W<|sv W<|sv W<|A2<|G5 ?_)
 cases hz4
 exact ⟨W,(),(G9 W W)⟩
 refine D5 W ?_
 cases hz4
 obtain rfl:=ez4 _ rfl
 refine ⟨nofun,D4 W<|X2 ?_⟩
 exact ⟨(),(G9 W W)⟩
 rintro _ ⟨g5,q3⟩
 refine B4 q3<|A6<|B1<|sv W<|A2<|bs h fun y4 hy4 h=>E7 (fun s=> ∃g7:Unit,Sb ⟨T [(5,(di y4))],G []⟩ s) ?_ ?_
 refine A8<|G6 (Gf p1) (fun (x4:(Int×Int)) (g8:Unit)=>⟨T [(1,(.ptr (1,u1) 0)),(5,(di x4.1)),(8,(di x4.2))],G [((1,u1),some<|.box 33 (N4 p1))]⟩) (y3,0) () _ hy4 (G9 W W) ?_
 intro x4 g8 z5 hz5 ez5
 unfold Gf at hz5
 refine A6<|B1<|sv W<|sq W<|sl W G_hit W<|sd W (E8 W)<|sv W<|sv W<|gt W (fun _=>W)<|gt W (vb W W W)<|sa W W W<|A2<|cc W hz5 (fun c8 hz5=> ?_)<|fun c8 hz5=> ?_
 refine A9<|A6<|A8<|J0 W<|sd W (B7 W G_hit W W)<|sq W<|sl W G_hit W<|sv W<|bs hz5 fun _ hv8 hz5=>sd W (E2 W W hv8 W)<|sd W (E4 W hv8 W W)<|bs hz5 fun _ hv9 hz5=>B0 W W A3 (AE _ _ _ hv9) (.inl W) (sv W<|A2<|F9<|C6<|sv W<|sv W<|sv W<|A2<|G5 ?_)
 cases hz5
 exact ⟨W,(),(G9 W W)⟩
 refine D5 W ?_
 cases hz5
 obtain rfl:=ez5 _ rfl
 refine ⟨nofun,D4 W<|X2 ?_⟩
 exact ⟨(),(G9 W W)⟩
 rintro _ ⟨g7,q4⟩
 refine B4 q4<|B1<|sv W<|sv W<|A2<|B2 ?_
 cases h
 exact A7 (.inr W) (B6 (B3 W) C1) (.refl _)
def W0 [Lp](p1:Map)(p2:(List Int))(x1:Int):Option (Stp Int (Sum Unit Int)):=
  cond (decide (x1< (p2.length:Int))) ((B8 p2 (D2 (x1 - 1))).bind fun v6=>(B8 p1.Lanes v6).bind fun v7=>(B8 p2 x1).bind fun v8=>(Nc v7.Next v8).bind fun v9=>cond (!v9) (some (.out (.inr 13))) (some (.go (D2 (x1+1))))) (some (.out (.inl ())))
def Y1 [Lp](p1:Map)(p2:(List Int)):Option Int:=
  (Iu p1).bind fun v1=>cond (v1 !=0) (some v1) (((cond (!(((p2.length:Int)==0)||(decide ((p2.length:Int)>8)))) (B8 p2 0) (some default))).bind fun v2=>((cond (!((((p2.length:Int)==0)||(decide ((p2.length:Int)>8)))||(decide (v2<0)))) (B8 p2 0) (some default))).bind fun v3=>((cond (!(((((p2.length:Int)==0)||(decide ((p2.length:Int)>8)))||(decide (v2<0)))||(decide (v3≥(p1.Lanes.length:Int))))) (B8 p2 0) (some default))).bind fun v4=>((cond (!(((((p2.length:Int)==0)||(decide ((p2.length:Int)>8)))||(decide (v2<0)))||(decide (v3≥(p1.Lanes.length:Int))))) (Jh p1 v4) (some default))).bind fun v5=>cond ((((((p2.length:Int)==0)||(decide ((p2.length:Int)>8)))||(decide (v2<0)))||(decide (v3≥(p1.Lanes.length:Int))))||(decide ((v5.length:Int)>0))) (some 13) (thenS (loop (W0 p1 p2) 1) (fun _=>some 0) (fun r=>some r)))
theorem Yl(p1 p2 r)(h:Y1 p1 p2=some r):PCall prog 102 [(.agg (V1 p1)),(.list (List.map A4 p2))] (i64 r):=by
 refine C3 (fk func102 ntmps102 m0 (by with_unfolding_all rfl)) (nl W) ?_
 unfold Y1 at h
 refine B4 (s0:=⟨T [(0,(.d _)),(1,(.d _))],G []⟩) (G9 W W) ?_
 refine lr<|fun u1 _=>sm W<|sv W<|A2<|B1<|sd W (B7 W G_hit W W)<|bs h fun _ hv1 h=>B0 W W A3 (HT _ _ hv1) (.inl W) (sv W<|A2<|A6<|B1<|sv W<|sv W<|A2<|cc W h (fun c1 h=> ?_)<|fun c1 h=> ?_)
 refine B1<|sv W<|sv W<|A2<|B2 ?_
 cases h
 exact A7 (.inr W) (B6 (B3 W) C1) (.refl _)
 refine A9<|A6<|A6<|J0 W<|sv W<|sd W (E8 W)<|sv W<|sv W<|gf W (fun _=>W)<|gf W (fun w2=>(E8<|A5 w2))<|gf W (vb W W W)<|sd W (T5 W W<|fun hc=>A5<|M7 hc)<|sv W<|gf W (fun _=>W)<|bs h fun _ hv2 h=>gf W (fun w5=>(E2 (A5 w5) W (D3 w5 hv2) W))<|gf W (fun w6=>(H5 (A5 w6) (D3 w6 hv2) W))<|gf W (vb W W W)<|sd W (T5 W W<|fun hc=>A5<|M7 hc)<|sv W<|gf W (fun _=>W)<|bs h fun _ hv3 h=>gf W (fun w9=>(E2 (A5 w9) W (D3 w9 hv3) W))<|gf W (fun w10=>(H5 (A5 w10) (D3 w10 hv3) W))<|gp W (N5 W) (fun _=>W) (gf W (vl W G_hit W)<|gf W (fun w13=>(E8<|A5 w13))<|gf W (fun w14=>(S9 (A5 w14) (A5 w14) W))<|sd W (T5 W W<|fun hc=>A5<|M7 hc)<|sv W<|gf W (fun _=>(B7 W G_hit W W))<|gf W (fun _=>W)<|bs h fun v4 hv4 h=>gf W (fun w17=>(E2 (A5 w17) W (D3 w17 hv4) W))<|gf W (fun w18=>(H5 (A5 w18) (D3 w18 hv4) W))<|bs h fun v5 hv5 h=> ?_)
 refine P3 _ (.list (List.map A4 v5)) (N5 W) (fun w19=>⟨_,[(.d (.agg (V1 p1))),(di v4)],_,_,(by simp only [A5 w19];rfl),W,A3,Ut _ _ _<|D3 w19 hv5,(.inl W)⟩) ?_
 refine gf W (fun w20=>(E8<|A5 w20))<|gf W (vb W W W)<|sd W (T5 W W<|fun hc=>A5<|M7 hc)<|A2<|cc W h (fun c2 h=> ?_)<|fun c2 h=> ?_
 refine B1<|sv W<|A2<|B2 ?_
 cases h
 exact A7 (.inr W) (B6 (B3 W) C1) (.refl _)
 refine A9<|A6<|B1<|sv W<|A2<|js h fun z1 hz1 h=>E7 (fun s=> ∃(y1:Unit) (g1:Unit),z1= .inl y1∧Sb ⟨T [],G []⟩ s) ?_ ?_
 refine A8<|G6 (W0 p1 p2) (fun (x1:Int) (g2:Unit)=>⟨T [(1,(dl A4 p2)),(2,(.ptr (2,u1) 0)),(6,(di x1))],G [((2,u1),some<|.box 33 (N4 p1))]⟩) 1 () _ hz1 (G9 W W) ?_
 intro x1 g2 z2 hz2 ez2
 unfold W0 at hz2
 refine A6<|B1<|sv W<|sv W<|sd W (E8 W)<|sv W<|A2<|cc W hz2 (fun c3 hz2=> ?_)<|fun c3 hz2=> ?_
 refine A9<|A6<|A8<|A6<|J0 W<|sq W<|sl W G_hit W<|sv W<|sv W<|sv W<|bs hz2 fun _ hv6 hz2=>sd W (E2 W W hv6 W)<|sd W (H5 W hv6 W)<|bs hz2 fun _ hv7 hz2=>sd W (E2 W W hv7 W)<|sv W<|sd W (H5 W hv7 W)<|sv W<|sv W<|bs hz2 fun _ hv8 hz2=>sd W (E2 W W hv8 W)<|sd W (H5 W hv8 W)<|bs hz2 fun v9 hv9 hz2=>B0 W W A3 (BY _ _ _ hv9) (.inl W) (C0 (.d (bo (!v9))) W W (A2<|cc W hz2 (fun c4 hz2=> ?_)<|fun c4 hz2=> ?_))
 refine B1<|sv W<|A2<|B2 ?_
 cases hz2
 obtain rfl:=ez2 _ rfl
 refine ⟨nofun,H4 ?_⟩
 rw [wE]at h
 cases h
 exact A7 (.inr W) (B6 (B3 W) C1) (.refl _)
 refine A9<|F9<|C6<|sv W<|sv W<|sv W<|A2<|G5 ?_
 cases hz2
 exact ⟨W,(),(G9 W W)⟩
 refine D5 W ?_
 cases hz2
 obtain rfl:=ez2 _ rfl
 refine ⟨nofun,D4 W<|X2 ?_⟩
 exact ⟨_,(),W,(G9 W W)⟩
 rintro _ ⟨y1,g1,rfl,q1⟩
 rw [wD]at h
 refine B4 q1<|B1<|sv W<|A2<|B2 ?_
 cases h
 exact A7 (.inr W) (B6 (B3 W) C1) (.refl _)
def Jj [Lp](p1:Map)(p2:Int):Option Int:=
  (B8 p1.Lanes p2).bind fun v1=>(Ep v1.Curve_).bind fun v2=>some v2
theorem FF(p1 p2 r)(h:Jj p1 p2=some r):PCall prog 195 [(.agg (V1 p1)),(i64 p2)] (i64 r):=by
 refine C3 (fk func195 ntmps195 m0 (by with_unfolding_all rfl)) (nl W) ?_
 unfold Jj at h
 refine B4 (s0:=⟨T [(0,(.d _)),(1,(.d _))],G []⟩) (G9 W W) ?_
 refine B1<|sm W<|sv W<|A2<|B1<|sq W<|sl W G_hit W<|sv W<|bs h fun _ hv1 h=>sd W (E2 W W hv1 W)<|sv W<|sd W (E4 W hv1 W W)<|bs h fun _ hv2 h=>B0 W W A3 (Of _ _ hv2) (.inl W) (sv W<|A2<|B2 ?_)
 cases h
 exact A7 (.inr W) (B6 (B3 W) C1) (.refl _)
def Bx [Lp](p1:Map)(p2:(List Int))(x1:((List Int)×Int×Int)):Option (Stp ((List Int)×Int×Int) ((List Int)×Int)):=
  cond (decide (x1.2.2< (p2.length:Int))) ((Bj x1.1 [x1.2.1]).bind fun v1=>(B8 p2 x1.2.2).bind fun v2=>(Jj p1 v2).bind fun v3=>some (.go (v1,(D2 (x1.2.1+v3)),(D2 (x1.2.2+1))))) (some (.out (x1.1,x1.2.1)))
def Jk [Lp](p1:Map)(p2:(List Int)):Option ((List Int)×Int):=
  (loop (Bx p1 p2) ([],0,0)).bind fun y1=>some (y1.1,y1.2)
theorem FG(p1 p2 r)(h:Jk p1 p2=some r):PCall prog 186 [(.agg (V1 p1)),(.list (List.map A4 p2))] (.tup [(.list (List.map A4 r.1)),(i64 r.2)]):=by
 refine C3 (fk func186 ntmps186 (fun r=>if r==6 then [1002]else []) (by with_unfolding_all rfl)) (nl W) ?_
 unfold Jk at h
 refine B4 (s0:=⟨T [(0,(.d _)),(1,(.d _))],G []⟩) (G9 W W) ?_
 refine lr<|fun u1 _=>sm W<|sv W<|sv W<|A2<|B1<|sv W<|A2<|B1<|sv W<|A2<|A6<|B1<|sv W<|A2<|bs h fun y1 hy1 h=>E7 (fun s=> ∃g1:Nat,Sb ⟨T [(6,(oS y1.1 (18,g1))),(7,(di y1.2))],G [((18,g1),oB 2 1 A4 y1.1)]⟩ s) ?_ ?_
 refine A8<|G6 (Bx p1 p2) (fun (x1:((List Int)×Int×Int)) (g2:Nat)=>⟨T [(1,(dl A4 p2)),(2,(.ptr (2,u1) 0)),(6,(oS x1.1 (18,g2))),(7,(di x1.2.1)),(8,(di x1.2.2))],G [((2,u1),some<|.box 33 (N4 p1)),((18,g2),oB 2 1 A4 x1.1)]⟩) ([],0,0) 0 _ hy1 (F6 (Dv W)<|B5 G_hit (.of W)<|T8 trivial) ?_
 intro x1 g2 z1 hz1 ez1
 unfold Bx at hz1
 refine A6<|B1<|sv W<|sv W<|sd W (E8 W)<|sv W<|A2<|cc W hz1 (fun c1 hz1=> ?_)<|fun c1 hz1=> ?_
 refine A9<|A6<|A8<|lr<|fun u6 _=>C0 (oS x1.1 (18,g2)) W W (sv W<|C0 (dl A4 [x1.2.1]) W W (bs hz1 fun _ hv1 hz1=>U7 A4 (18,g2) x1.1 x1.2.1 [] _ (P0<|fun _=>W) W (gq W) hv1 (ss W<|A2<|J0 W<|sv W<|sd W (B7 W (gq W) W W)<|sv W<|sv W<|bs hz1 fun _ hv2 hz1=>sd W (E2 W W hv2 W)<|sd W (H5 W hv2 W)<|bs hz1 fun _ hv3 hz1=>B0 W W A3 (FF _ _ _ hv3) (.inl W) (sv W<|sv W<|A2<|F9<|C6<|sv W<|sv W<|sv W<|A2<|G5 ?_))))
 cases hz1
 exact ⟨W,u6,(F6 ⟨.of W, .of W,(.of (X1<|Aj hv1).symm), .of W, .of W,trivial⟩<|sg W<|O8 G_hit trivial)⟩
 refine D5 W ?_
 cases hz1
 obtain rfl:=ez1 _ rfl
 refine ⟨nofun,D4 W<|X2 ?_⟩
 exact ⟨g2,(F6 (Dv W)<|C2 (gq W) trivial)⟩
 rintro _ ⟨g1,q1⟩
 refine B4 q1<|B1<|C0 (oS y1.1 (18,g1)) W W (sv W<|C0 (oS y1.1 (18,g1)) W W (sv W<|A2<|B2 ?_))
 cases h
 exact A7 (.inr W) (Sg (B3 W) (B3 W) (X4 G_hit) C1) (.tup (.cons X3 A3))
def Z0 [Lp](p1:Map)(p2:(List Int)):Option Int:=
  (Y1 p1 p2).bind fun v1=>cond (v1 !=0) (some 0) ((Jk p1 p2).bind fun v2=>some v2.2)
theorem Wl(p1 p2 r)(h:Z0 p1 p2=some r):PCall prog 97 [(.agg (V1 p1)),(.list (List.map A4 p2))] (i64 r):=by
 refine C3 (fk func97 ntmps97 m0 (by with_unfolding_all rfl)) (nl W) ?_
 unfold Z0 at h
 refine B4 (s0:=⟨T [(0,(.d _)),(1,(.d _))],G []⟩) (G9 W W) ?_
 refine B1<|sm W<|sv W<|A2<|A6<|B1<|sd W (B7 W G_hit W W)<|sv W<|bs h fun _ hv1 h=>B0 W W A3 (Yl _ _ _ hv1) (.inl W) (sv W<|A2<|cc W h (fun c1 h=> ?_)<|fun c1 h=> ?_)
 refine B1<|sv W<|A2<|B2 ?_
 cases h
 exact A7 (.inr W) (B6 (B3 W) C1) (.refl _)
 refine A9<|B1<|sd W (B7 W G_hit W W)<|sv W<|bs h fun _ hv2 h=>B0 W W A3 (FG _ _ _ hv2) (.inl W) (sv W<|sv W<|sv W<|sv W<|sv W<|A2<|B1<|sv W<|sv W<|A2<|B2 ?_)
 cases h
 exact A7 (.inr W) (B6 (B3 W) C1) (.refl _)
def Pi [Lp](p1:Map)(p2:KitActor)(p3:Bool):Option Agent:=
  (Ib p1 p2.R).bind fun v1=>(Nd p2.Len 4700).bind fun v2=>(cond p3 ((Cr p1 p2.R).bind fun v3=>some (v3,false)) (some (v1,(!p2.Disobeys)))).bind fun y1=>(B8 y1.1 0).bind fun v4=>(B8 p1.Lanes v4).bind fun v5=>(Cg v5.Kind).bind fun v6=>(Nd p2.V (D2 (v6.1+1))).bind fun v7=>(cond (decide (v6.1<1000)) (some 300) (some (D2 (300+v2)))).bind fun y2=>(Z0 p1 y1.1).bind fun v8=>(Nd p2.S (D2 (v8+1))).bind fun v9=>((cond (!p3) (Pb p2.Begin 4) (some default))).bind fun v10=>cond ((!p3)&& (v10==3)) ((Pb p2.Begin 40).bind fun v11=>some (Agent.mk y1.1 0 v7 y2 v11 y1.2 false)) (some (Agent.mk y1.1 v9 v7 y2 0 y1.2 false))
theorem BZ(p1 p2 p3 r)(h:Pi p1 p2 p3=some r):PCall prog 42 [(.agg (V1 p1)),(.agg (Sk p2)),(bo p3)] (.agg (E5 r)):=by
 refine C3 (fk func42 ntmps42 m0 (by with_unfolding_all rfl)) (nl W) ?_
 unfold Pi at h
 refine B4 (s0:=⟨T [(0,(.d _)),(1,(.d _)),(2,(.d _))],G []⟩) (G9 W W) ?_
 refine lr<|fun u1 _=>sm W<|sm W<|sn W W<|A2<|A6<|Mz W fun u2 _=>sd W (B7 W (gq W) W W)<|sq W<|sl W (gq W) W (bs h fun v1 hv1 h=>B0 W W A3 (Tq _ _ _ hv1) (.inl W) (sq W<|sl W (gq W) W (bs h fun v2 hv2 h=>B0 W W A3 (Ts _ _ _ hv2) (.inl W) (sv W<|sq W<|sl W (gq W) W (C0 (.d (bo (!p2.Disobeys))) W W (sv W<|sm W<|V5 W G_hit ([(dl A4 v1)]++ ((zs 4).set 2 (di<|D2 (300+v2)))++ [(.d (bo (!p2.Disobeys))),(.d (bo false))]) W (A2<|A6<|B1<|sv W<|A2<|bs h fun y1 hy1 h=>E7 (fun s=> ∃g1:Unit,Sb ⟨T [(2,(.d (bo p3))),(3,(.ptr (3,u1) 0)),(4,(.ptr (4,u1) 0)),(6,(.ptr (6,u1) 0)),(7,(.ptr (7,u2) 0))],G [((3,u1),some<|.box 33 (N4 p1)),((4,u1),some<|.box 73 (Sm p2)),((6,u1),some<|.box 45 ([(.d .nilS)]++ (zs 4)++ [(.d (bo false)),(.d (bo false))])),((7,u2),some<|.box 45 ([(dl A4 y1.1)]++ ((zs 4).set 2 (di<|D2 (300+v2)))++ [(.d (bo y1.2)),(.d (bo false))]))]⟩ s) ?_ ?_)))))))
 refine cc W hy1 (fun c1 hy1=> ?_)<|fun c1 hy1=> ?_
 refine C6<|sd W (B7 W (gq W) W W)<|sq W<|sl W (gq W) W (bs hy1 fun v3 hv3 hy1=>B0 W W A3 (DM _ _ _ hv3) (.inl W) (sq W<|V5 W G_hit ([(dl A4 v3)]++ ((zs 4).set 2 (di<|D2 (300+v2)))++ [(.d (bo (!p2.Disobeys))),(.d (bo false))]) W (sq W<|V5 W G_hit ([(dl A4 v3)]++ ((zs 4).set 2 (di<|D2 (300+v2)))++ [(.d (bo false)),(.d (bo false))]) W (A2 ?_))))
 cases hy1
 exact X2 ⟨(),(G9 W W)⟩
 refine A9 ?_
 cases hy1
 exact X2 ⟨(),(G9 W W)⟩
 rintro _ ⟨g1,q1⟩
 refine B4 q1<|A6<|J0 W<|sq W<|sl W G_hit W<|sq W<|sl W (gq W) W (bs h fun _ hv4 h=>sd W (E2 W W hv4 W)<|sd W (H5 W hv4 W)<|bs h fun _ hv5 h=>sd W (E2 W W hv5 W)<|sv W<|sd W (H5 W hv5 W)<|bs h fun _ hv6 h=>B0 W W A3 (Oe _ _ hv6) (.inl W) (sv W<|sv W<|sv W<|sv W<|sv W<|sv W<|sv W<|A2<|B1<|sq W<|sl W (gq W) W (sv W<|sv W<|bs h fun v7 hv7 h=>B0 W W A3 (Ts _ _ _ hv7) (.inl W) (sq W<|V5 W (gq W) [(dl A4 y1.1),(di 0),(di v7),(di<|D2 (300+v2)),(di 0),(.d (bo y1.2)),(.d (bo false))] W (A2<|A6<|B1<|sv W<|sv W<|A2<|bs h fun y2 hy2 h=>E7 (fun s=> ∃g2:Unit,Sb ⟨T [(2,(.d (bo p3))),(3,(.ptr (3,u1) 0)),(4,(.ptr (4,u1) 0)),(6,(.ptr (6,u1) 0)),(7,(.ptr (7,u2) 0))],G [((3,u1),some<|.box 33 (N4 p1)),((4,u1),some<|.box 73 (Sm p2)),((6,u1),some<|.box 45 ([(.d .nilS)]++ (zs 4)++ [(.d (bo false)),(.d (bo false))])),((7,u2),some<|.box 45 [(dl A4 y1.1),(di 0),(di v7),(di y2),(di 0),(.d (bo y1.2)),(.d (bo false))])]⟩ s) ?_ ?_)))))
 refine cc W hy2 (fun c2 hy2=> ?_)<|fun c2 hy2=> ?_
 refine C6<|sq W<|V5 W G_hit [(dl A4 y1.1),(di 0),(di v7),(di 300),(di 0),(.d (bo y1.2)),(.d (bo false))] W (A2 ?_)
 cases hy2
 exact X2 ⟨(),(G9 W W)⟩
 refine A9 ?_
 cases hy2
 exact X2 ⟨(),(G9 W W)⟩
 rintro _ ⟨g2,q2⟩
 refine B4 q2<|A6<|J0 W<|sq W<|sl W (gq W) W (sd W (B7 W G_hit W W)<|sq W<|sl W (gq W) W (bs h fun _ hv8 h=>B0 W W A3 (Wl _ _ _ hv8) (.inl W) (sv W<|bs h fun v9 hv9 h=>B0 W W A3 (Ts _ _ _ hv9) (.inl W) (sq W<|V5 W (gq W) [(dl A4 y1.1),(di v9),(di v7),(di y2),(di 0),(.d (bo y1.2)),(.d (bo false))] W (A2<|A6<|B1<|sv W<|C0 (.d (bo (!p3))) W W (sv W<|gp W (O5 W) (fun _=>W) (gt W (vl W (gq W) W)<|bs h fun v10 hv10 h=> ?_)))))))
 refine P3 _ (i64 v10) (O5 W) (fun w3=>⟨_,[(di p2.Begin),(di 4)],_,_,(by simp only [A5 w3];rfl),W,A3,Ps _ _ _<|D3 w3 hv10,(.inl W)⟩) ?_
 refine gt W (vb W W W)<|sa W W W<|A2<|cc W h (fun c3 h=> ?_)<|fun c3 h=> ?_
 refine C6<|sq W<|sl W (gq W) W (bs h fun v11 hv11 h=>B0 W W A3 (Ps _ _ _ hv11) (.inl W) (sq W<|V5 W G_hit [(dl A4 y1.1),(di v9),(di v7),(di y2),(di v11),(.d (bo y1.2)),(.d (bo false))] W (sq W<|V5 W G_hit [(dl A4 y1.1),(di 0),(di v7),(di y2),(di v11),(.d (bo y1.2)),(.d (bo false))] W (A2<|B1<|sd W (B7 W G_hit W W)<|V5 W (gq W) [(dl A4 y1.1),(di 0),(di v7),(di y2),(di v11),(.d (bo y1.2)),(.d (bo false))] W (A2<|B2 ?_)))))
 cases h
 exact A7 (.inr W) (B6 (M1 W G_hit (nl W) W) C1) (.refl _)
 refine A9<|B1<|sd W (B7 W G_hit W W)<|V5 W (gq W) [(dl A4 y1.1),(di v9),(di v7),(di y2),(di 0),(.d (bo y1.2)),(.d (bo false))] W (A2<|B2 ?_)
 cases h
 exact A7 (.inr W) (B6 (M1 W G_hit (nl W) W) C1) (.refl _)
def Z1 (p1:List Stay):Option (List Stay):=Bj [] p1
theorem Ik (p1:List Stay)(a0:D)(hl:Bj ([]:List Stay) p1=some p1)(hn: ∀h,K9 (T [(3, .d a0),(2, .d .nilS),(0, .d a0)]) h (.isnil false (.t 3))=some (.d (bo false)))(he: ∀h,El h 4 (.d a0)=some (List.map K7 p1)):
    PCall prog 121 [a0] (.list (List.map K7 p1)):=by
  refine C3 (fk func121 ntmps121 m0 (by with_unfolding_all rfl)) (Nat.le_of_ble_eq_true W) ?_
  refine (B4 (s0:=⟨T [(0, .d a0)],G []⟩) (F6 ⟨.of W,trivial⟩ trivial) ?_)
  refine A6 ?_
  refine Cd fun _ _=> ?_
  refine C0 (.d .nilS) W W ?_
  refine A2 ?_
  refine A6 ?_
  refine A6 ?_
  refine Cd fun _ _=> ?_
  refine C0 (.d a0) W W ?_
  refine C0 (.d (bo false)) W (hn _) ?_
  refine A2 ?_
  refine Qy W ?_
  refine A9 ?_
  refine A6 ?_
  refine Cd fun _ _=> ?_
  refine Ms (.sl _) (.arr 127 4 (List.map K7 ([]:List Stay))) W W ?_
  refine C0 (.d a0) W W ?_
  refine BQ K7 _ [] p1 _ (he _) W G_hit hl ?_
  refine C0 (.sl _) W W ?_
  refine A2 ?_
  refine B2 ?_
  exact A7 (.inr W) (B6 (B3 W)<|PI G_hit) (.refl _)
theorem Ju(p1 r)(h:Z1 p1=some r):PCall prog 121 [.list (List.map K7 p1)] (.list (List.map K7 r)):=by
  have hr:r=p1:=by obtain ⟨_,rfl⟩:=Na h;rfl
  subst hr
  cases r with
  |cons x xs=>exact Ik (x::xs) _ h (fun _=>rfl) fun _=>P0 (fun _=>rfl)
  |nil=>
   refine PCall.nil fun A cap=> ?_
   cases A with
   |some A=>exact Ik [] (.v (.slice (some A) 0 cap)) h (fun _=>rfl) fun _=>rfl
   |none=>
    refine C3 (fk func121 ntmps121 m0 (by with_unfolding_all rfl)) (Nat.le_of_ble_eq_true W) ?_
    refine (B4 (s0:=⟨T [(0, .d (.v (.slice none 0 cap)))],G []⟩) (F6 ⟨.of W,trivial⟩ trivial) ?_)
    refine A6 ?_
    refine Cd fun _ _=> ?_
    refine C0 (.d .nilS) W W ?_
    refine A2 ?_
    refine A6 ?_
    refine A6 ?_
    refine Cd fun _ _=> ?_
    refine C0 (.d _) W W ?_
    refine C0 (.d (bo true)) W W ?_
    refine A2 ?_
    refine Xu W ?_
    refine A6 ?_
    refine Cd fun _ _=> ?_
    refine C0 (.d .nilS) W W ?_
    refine A2 ?_
    refine B2 ?_
    exact A7 (.inr W) (B6 (B3 W) C1) .nil
def Iv (p1:List Int):Option (List Int):=Bj [] p1
theorem Jv (p1:List Int)(a0:D)(hl:Bj ([]:List Int) p1=some p1)(hn: ∀h,K9 (T [(3, .d a0),(2, .d .nilS),(0, .d a0)]) h (.isnil false (.t 3))=some (.d (bo false)))(he: ∀h,El h 1 (.d a0)=some (List.map A4 p1)):
    PCall prog 178 [a0] (.list (List.map A4 p1)):=by
  refine C3 (fk func178 ntmps178 m0 (by with_unfolding_all rfl)) (Nat.le_of_ble_eq_true W) ?_
  refine (B4 (s0:=⟨T [(0, .d a0)],G []⟩) (F6 ⟨.of W,trivial⟩ trivial) ?_)
  refine A6 ?_
  refine Cd fun _ _=> ?_
  refine C0 (.d .nilS) W W ?_
  refine A2 ?_
  refine A6 ?_
  refine A6 ?_
  refine Cd fun _ _=> ?_
  refine C0 (.d a0) W W ?_
  refine C0 (.d (bo false)) W (hn _) ?_
  refine A2 ?_
  refine Qy W ?_
  refine A9 ?_
  refine A6 ?_
  refine Cd fun _ _=> ?_
  refine Ms (.sl _) (.arr 3 1 (List.map A4 ([]:List Int))) W W ?_
  refine C0 (.d a0) W W ?_
  refine BQ A4 _ [] p1 _ (he _) W G_hit hl ?_
  refine C0 (.sl _) W W ?_
  refine A2 ?_
  refine B2 ?_
  exact A7 (.inr W) (B6 (B3 W)<|PI G_hit) (.refl _)
theorem Sn(p1 r)(h:Iv p1=some r):PCall prog 178 [.list (List.map A4 p1)] (.list (List.map A4 r)):=by
  have hr:r=p1:=by obtain ⟨_,rfl⟩:=Na h;rfl
  subst hr
  cases r with
  |cons x xs=>exact Jv (x::xs) _ h (fun _=>rfl) fun _=>P0 (fun _=>rfl)
  |nil=>
   refine PCall.nil fun A cap=> ?_
   cases A with
   |some A=>exact Jv [] (.v (.slice (some A) 0 cap)) h (fun _=>rfl) fun _=>rfl
   |none=>
    refine C3 (fk func178 ntmps178 m0 (by with_unfolding_all rfl)) (Nat.le_of_ble_eq_true W) ?_
    refine (B4 (s0:=⟨T [(0, .d (.v (.slice none 0 cap)))],G []⟩) (F6 ⟨.of W,trivial⟩ trivial) ?_)
    refine A6 ?_
    refine Cd fun _ _=> ?_
    refine C0 (.d .nilS) W W ?_
    refine A2 ?_
    refine A6 ?_
    refine A6 ?_
    refine Cd fun _ _=> ?_
    refine C0 (.d _) W W ?_
    refine C0 (.d (bo true)) W W ?_
    refine A2 ?_
    refine Xu W ?_
    refine A6 ?_
    refine Cd fun _ _=> ?_
    refine C0 (.d .nilS) W W ?_
    refine A2 ?_
    refine B2 ?_
    exact A7 (.inr W) (B6 (B3 W) C1) .nil
def Dk (p1:Agent):Option Agent:=
  (Iv p1.Route).bind fun v1=>some (Agent.mk v1 p1.S p1.V p1.Len p1.Begin p1.Obey p1.Gone)
theorem Lz(p1 r)(h:Dk p1=some r):PCall prog 87 [(.agg (E5 p1))] (.agg (E5 r)):=by
 refine C3 (fk func87 ntmps87 m0 (by with_unfolding_all rfl)) (nl W) ?_
 unfold Dk at h
 refine B4 (s0:=⟨T [(0,(.d _))],G []⟩) (G9 W W) ?_
 refine B1<|sm W<|sn W W<|A2<|B1<|sq W<|sl W (gq W) W (bs h fun v1 hv1 h=>B0 W W A3 (Sn _ _ hv1) (.inl W) (sq W<|V5 W (gq W) ((X5 p1).set 0 (dl A4 v1)) W (A2<|B1<|sd W (B7 W G_hit W W)<|V5 W (gq W) ((X5 p1).set 0 (dl A4 v1)) W (A2<|B2 ?_))))
 cases h
 exact A7 (.inr W) (B6 (M1 W G_hit (nl W) W) C1) (.refl _)
def Ic (p1:State)(x1:(Int×State)):Option (Stp (Int×State) State):=
  cond (decide (x1.1< (p1.Agents.length:Int))) ((B8 p1.Agents x1.1).bind fun v2=>(Dk v2).bind fun v3=>(Bj x1.2.Agents [v3]).bind fun v4=>some (.go ((D2 (x1.1+1)),(State.mk x1.2.Tick v4 x1.2.In)))) (some (.out x1.2))
def Hb [Lp](p1:State):Option State:=
  (Z1 p1.In).bind fun v1=>(loop (Ic p1) (0,(State.mk p1.Tick [] v1))).bind fun y1=>some y1
theorem Yu(p1 r)(h:Hb p1=some r):PCall prog 56 [(.agg (Ku p1))] (.agg (Ku r)):=by
 refine C3 (fk func56 ntmps56 (fun r=>if r==5 then [1004]else []) (by with_unfolding_all rfl)) (nl W) ?_
 unfold Hb at h
 refine B4 (s0:=⟨T [(0,(.d _))],G []⟩) (G9 W W) ?_
 refine lr<|fun u1 _=>sm W<|sm W<|A2<|A6<|Mz W fun u2 _=>sq W<|sl W (gq W) W (sq W<|sl W (gq W) W (bs h fun v1 hv1 h=>B0 W W A3 (Ju _ _ hv1) (.inl W) (sv W<|sm W<|V5 W G_hit [(di p1.Tick),(.d .nilS),(dl K7 v1)] W (A2<|A6<|B1<|sq W<|sl W (gq W) W (sd W (E8 W)<|sv W<|A2<|bs h fun y1 hy1 h=>E7 (fun s=> ∃g1:Nat,Sb ⟨T [(2,(.ptr (2,u1) 0)),(3,(.ptr (3,u2) 0))],G [((2,u1),some<|.box 25 [(di 0),(.d .nilS),(.d .nilS)]),((3,u2),some<|.box 25 [(di y1.Tick),(oS y1.Agents (24,g1)),(dl K7 y1.In)]),((24,g1),oB 45 7 E5 y1.Agents)]⟩ s) ?_ ?_)))))
 refine A8<|G6 (Ic p1) (fun (x1:(Int×State)) (g2:Nat)=>⟨T [(2,(.ptr (2,u1) 0)),(3,(.ptr (3,u2) 0)),(13,(dl E5 p1.Agents)),(14,(di (p1.Agents.length:Int))),(15,(di x1.1))],G [((2,u1),some<|.box 25 [(di 0),(.d .nilS),(.d .nilS)]),((3,u2),some<|.box 25 [(di x1.2.Tick),(oS x1.2.Agents (24,g2)),(dl K7 x1.2.In)]),((24,g2),oB 45 7 E5 x1.2.Agents)]⟩) (0,(State.mk p1.Tick [] v1)) 0 _ hy1 (F6 (Dv W)<|sg W<|B5 G_hit (.of W)<|T8 trivial) ?_
 intro x1 g2 z1 hz1 ez1
 unfold Ic at hz1
 refine B1<|sv W<|A2<|A6<|cc W hz1 (fun c1 hz1=> ?_)<|fun c1 hz1=> ?_
 refine A9<|A6<|A8<|B1<|bs hz1 fun v2 hv2 hz1=>sd W (E2 W W hv2 W)<|sd W (E4 W hv2 W W)<|sm W<|V5 W G_hit (X5 v2) W (A2<|Mz W fun u6 _=>sq W<|C0 (oS x1.2.Agents (24,g2)) W (U5 W (gq W) W) (sd W (B7 W G_hit W W)<|bs hz1 fun v3 hv3 hz1=>B0 W W A3 (Lz _ _ hv3) (.inl W) (C0 (dl E5 [v3]) W W (bs hz1 fun _ hv4 hz1=>U7 E5 (24,g2) x1.2.Agents v3 [] _ (P0<|fun _=>W) W (gq W) hv4 (sq W<|V5 W (gq W) [(di x1.2.Tick),(.sl (24,u6)),(dl K7 x1.2.In)] W (A2<|F9<|C6<|sv W<|sv W<|A2<|G5 ?_))))))
 cases hz1
 exact ⟨W,u6,(F6 (Dv W)<|sg W<|B5 G_hit (.box (cv<|.cons (.of (X1<|Aj hv4).symm) cw))<|O8 (gq W) trivial)⟩
 refine D5 W ?_
 cases hz1
 obtain rfl:=ez1 _ rfl
 refine ⟨nofun,D4 W<|X2 ?_⟩
 exact ⟨g2,(F6 (Dv W)<|B5 G_hit (.of W)<|sg W<|C2 (gq W) trivial)⟩
 rintro _ ⟨g1,q1⟩
 refine B4 q1<|B1<|C0 (Ak [(di y1.Tick),(oS y1.Agents (24,g1)),(dl K7 y1.In)]) W (B7 W (gq W) W W) (Nn _ _ _ _ _ (Aw _) W W G_hit (nl W) [(di y1.Tick),(oS y1.Agents (24,g1)),(dl K7 y1.In)] W (A2<|B2 ?_))
 cases h
 exact A7 (.inr W) (B6 (M1 W G_hit (nl W) W)<|Pq<|rD<|E3 (X4<|gq W)<|rD G2) (.agg (ca W<|.cons ⟨X3,W⟩ (cz W)))
def Cj (p1:Int)(p2:Int)(p3:Int):Option Bool:=
  some ((decide (p2≤p1))&& (decide (p1≤p3)))
theorem Ed(p1 p2 p3 r)(h:Cj p1 p2 p3=some r):PCall prog 209 [(i64 p1),(i64 p2),(i64 p3)] (bo r):=by
 refine C3 (fk func209 ntmps209 m0 (by with_unfolding_all rfl)) (nl W) ?_
 unfold Cj at h
 refine B4 (s0:=⟨T [(0,(.d _)),(1,(.d _)),(2,(.d _))],G []⟩) (G9 W W) ?_
 refine B1<|sv W<|A2<|B1<|sv W<|sv W<|sv W<|sv W<|gt W (fun _=>W)<|gt W (fun _=>W)<|gt W (fun w3=>(S9 (A5 w3) (A5 w3) W))<|sa W W W<|sv W<|A2<|B2 ?_
 cases h
 exact A7 (.inr W) (B6 (B3 W) C1) (.refl _)
def Ac (p1:RoadsCheck):Option Int:=
  (Cj p1.Map_.Version 0 1099511627776).bind fun v1=>cond (!v1) (some 2) (cond ((p1.Map_.Lanes.length:Int)==0) (some 6) (cond ((((decide ((p1.Map_.Lanes.length:Int)>12))||(decide ((p1.Map_.Zones.length:Int)>12)))||(decide ((p1.Map_.Signals.length:Int)>4)))||(decide ((p1.Map_.Works.length:Int)>8))) (some 8) (some 0)))
theorem Tt(p1 r)(h:Ac p1=some r):PCall prog 148 [(.agg (V1 p1.Map_))] (i64 r):=by
 refine C3 (fk func148 ntmps148 m0 (by with_unfolding_all rfl)) (nl W) ?_
 unfold Ac at h
 refine B4 (s0:=⟨T [(0,(.d _))],G []⟩) (G9 W W) ?_
 refine B1<|sm W<|sv W<|A2<|A6<|A8<|B1<|sq W<|sp W W<|sl W G_hit W<|bs h fun v1 hv1 h=>B0 W W A3 (Ed _ _ _ _ hv1) (.inl W) (C0 (.d (bo (!v1))) W W (sv W<|A2<|cc W h (fun c1 h=> ?_)<|fun c1 h=> ?_))
 refine B1<|sv W<|A2<|B2 ?_
 cases h
 exact A7 (.inr W) (B6 (B3 W) C1) (.refl _)
 refine B1<|sq W<|sp W W<|sl W G_hit W<|sd W (E8 W)<|sv W<|sv W<|A2<|cc W h (fun c2 h=> ?_)<|fun c2 h=> ?_
 refine B1<|sv W<|A2<|B2 ?_
 cases h
 exact A7 (.inr W) (B6 (B3 W) C1) (.refl _)
 refine B1<|sq W<|sp W W<|sl W G_hit W<|sd W (E8 W)<|sv W<|sv W<|gp W (N5 W) (fun _=>W) ?_
 refine U8 _ (.ptr _ _) W (N5 W) (fun w2=>(by simp only [A5 w2];rfl)) ?_
 refine gf W (vl W G_hit W)<|gf W (fun w4=>(E8<|A5 w4))<|gf W (vb W W W)<|sd W (T5 W W<|fun hc=>A5<|M7 hc)<|sv W<|gp W (N5 W) (fun _=>W) ?_
 refine U8 _ (.ptr _ _) W (N5 W) (fun w7=>(by simp only [A5 w7];rfl)) ?_
 refine gf W (vl W G_hit W)<|gf W (fun w9=>(E8<|A5 w9))<|gf W (vb W W W)<|sd W (T5 W W<|fun hc=>A5<|M7 hc)<|sv W<|gp W (N5 W) (fun _=>W) ?_
 refine U8 _ (.ptr _ _) W (N5 W) (fun w12=>(by simp only [A5 w12];rfl)) ?_
 refine gf W (vl W G_hit W)<|gf W (fun w14=>(E8<|A5 w14))<|gf W (vb W W W)<|sd W (T5 W W<|fun hc=>A5<|M7 hc)<|sv W<|A2<|cc W h (fun c3 h=> ?_)<|fun c3 h=> ?_
 refine B1<|sv W<|A2<|B2 ?_
 cases h
 exact A7 (.inr W) (B6 (B3 W) C1) (.refl _)
 refine A9<|F9<|B1<|sv W<|A2<|B2 ?_
 cases h
 exact A7 (.inr W) (B6 (B3 W) C1) (.refl _)
def Er (p1:Int):Option (Int×Int×Int):=
  cond ((decide (p1<0))||(decide (p1≥4))) (some (0,0,0)) ((B8 ([(0,0,0),(2000,30,90),(1000,20,60),(300,100,300)]:List (Int×Int×Int)) p1).bind fun v1=>some (v1.1,v1.2.1,v1.2.2))
theorem Ko(p1 r)(h:Er p1=some r):PCall prog 157 [(i64 p1)] (.tup [(i64 r.1),(i64 r.2.1),(i64 r.2.2)]):=by
 refine C3 (fk func157 ntmps157 m0 (by with_unfolding_all rfl)) (nl W) ?_
 unfold Er at h
 refine B4 (s0:=⟨T [(0,(.d _))],G []⟩) (G9 W W) ?_
 refine B1<|sv W<|sv W<|sv W<|A2<|B1<|sv W<|sv W<|sv W<|sv W<|sm W<|V5 W G_hit [(di 0),(di 0),(di 0),(di 2000),(di 30),(di 90),(di 1000),(di 20),(di 60),(di 300),(di 100),(di 300)] W (A2<|A6<|B1<|sv W<|sv W<|sv W<|gf W (fun _=>W)<|gf W (vb W W W)<|sd W (T5 W W<|fun hc=>A5<|M7 hc)<|A2<|cc W h (fun c1 h=> ?_)<|fun c1 h=> ?_)
 refine B1<|sv W<|sv W<|sv W<|A2<|B2 ?_
 cases h
 exact A7 (.inr W) (BL (B3 W) (B3 W) (B3 W) C1 C1 C1) (.refl _)
 refine A9<|B1<|sv W<|bs h fun v1 hv1 h=>sp W (fU W W hv1 W)<|sd W (cE (f:=mO) W G_hit hv1 (fun _=>W) W W)<|sm W<|V5 W G_hit [(di v1.1),(di v1.2.1),(di v1.2.2)] W (A2<|A6<|J0 W<|sq W<|sl W G_hit W<|sq W<|sl W G_hit W<|sq W<|sl W G_hit W<|sv W<|sv W<|sv W<|A2<|B2 ?_)
 cases h
 exact A7 (.inr W) (BL (B3 W) (B3 W) (B3 W) C1 C1 C1) (.refl _)
def Fh (p1:(List Spot))(x1:Int):Option (Stp Int (Sum Unit Bool)):=
  cond (decide (x1< (p1.length:Int))) ((B8 p1 x1).bind fun v1=>cond ((decide ((Ln false v1.X v1.Y)< (-16777216)))||(decide ((Ln true v1.X v1.Y)>16777216))) (some (.out (.inr false))) (some (.go (D2 (x1+1))))) (some (.out (.inl ())))
def Iw [Lp](p1:(List Spot)):Option Bool:=
  thenS (loop (Fh p1) 0) (fun _=>some true) (fun r=>some r)
theorem JZ(p1 r)(h:Iw p1=some r):PCall prog 237 [(.list (List.map Bs p1))] (bo r):=by
 refine C3 (fk func237 ntmps237 m0 (by with_unfolding_all rfl)) (nl W) ?_
 unfold Iw at h
 refine B4 (s0:=⟨T [(0,(.d _))],G []⟩) (G9 W W) ?_
 refine B1<|sv W<|A2<|A6<|B1<|sv W<|sd W (E8 W)<|sv W<|A2<|js h fun z1 hz1 h=>E7 (fun s=> ∃(y1:Unit) (g1:Unit),z1= .inl y1∧Sb ⟨T [],G []⟩ s) ?_ ?_
 refine A8<|G6 (Fh p1) (fun (x1:Int) (g2:Unit)=>⟨T [(5,(dl Bs p1)),(6,(di (p1.length:Int))),(7,(di x1))],G []⟩) 0 () _ hz1 (G9 W W) ?_
 intro x1 g2 z2 hz2 ez2
 unfold Fh at hz2
 refine B1<|sv W<|A2<|A6<|cc W hz2 (fun c1 hz2=> ?_)<|fun c1 hz2=> ?_
 refine A9<|A6<|A8<|B1<|bs hz2 fun v1 hv1 hz2=>sd W (E2 W W hv1 W)<|sd W (E4 W hv1 W W)<|sm W<|V5 W G_hit [(di v1.X),(di v1.Y)] W (A2<|B1<|sq W<|sl W G_hit W<|sq W<|sl W G_hit W<|sv W<|sv W<|sv W<|gp W (N5 W) (fun _=>W) (gf W (vl W G_hit W)<|gp W (N5 W) (fun _=>W) (gf W (vl W G_hit W) ?_)))
 refine gf W (fun w5=>(by simp only [A5 w5];rfl)) ?_
 refine gf W (vb W W W)<|sd W (T5 W W<|fun hc=>A5<|M7 hc)<|A2<|cc W hz2 (fun c2 hz2=> ?_)<|fun c2 hz2=> ?_
 refine B1<|sv W<|A2<|B2 ?_
 cases hz2
 obtain rfl:=ez2 _ rfl
 refine ⟨nofun,H4 ?_⟩
 rw [wE]at h
 cases h
 exact A7 (.inr W) (B6 (B3 W) C1) (.refl _)
 refine A9<|F9<|C6<|sv W<|sv W<|A2<|G5 ?_
 cases hz2
 exact ⟨W,(),(G9 W W)⟩
 refine D5 W ?_
 cases hz2
 obtain rfl:=ez2 _ rfl
 refine ⟨nofun,D4 W<|X2 ?_⟩
 exact ⟨_,(),W,(G9 W W)⟩
 rintro _ ⟨y1,g1,rfl,q1⟩
 rw [wD]at h
 refine B4 q1<|B1<|sv W<|A2<|B2 ?_
 cases h
 exact A7 (.inr W) (B6 (B3 W) C1) (.refl _)
def Ng (p1:Spot)(p2:Spot):Option CurveVector:=
  some (CurveVector.mk (D2 (p2.X - p1.X)) (D2 (p2.Y - p1.Y)))
theorem Yv(p1 p2 r)(h:Ng p1 p2=some r):PCall prog 238 [(.agg [(i64 p1.X),(i64 p1.Y)]),(.agg [(i64 p2.X),(i64 p2.Y)])] (.agg [(i64 r.x),(i64 r.y)]):=by
 refine C3 (fk func238 ntmps238 m0 (by with_unfolding_all rfl)) (nl W) ?_
 unfold Ng at h
 refine B4 (s0:=⟨T [(0,(.d _)),(1,(.d _))],G []⟩) (G9 W W) ?_
 refine B1<|sm W<|sn W W<|sm W<|A2<|B1<|sq W<|sl W (gq W) W (sq W<|sl W (gq W) W (sv W<|sq W<|sl W (gq W) W (sq W<|sl W (gq W) W (sv W<|sv W<|V5 W G_hit [(di<|D2 (p2.X - p1.X)),(di<|D2 (p2.Y - p1.Y))] W (A2<|B2 ?_)))))
 cases h
 exact A7 (.inr W) (B6 (M1 W G_hit (nl W) W) C1) (.refl _)
def As (p1:CurveVector)(p2:CurveVector):Option Int:=
  some (D2 ((D2 (p1.x*p2.x))+ (D2 (p1.y*p2.y))))
theorem Jz(p1 p2 r)(h:As p1 p2=some r):PCall prog 240 [(.agg [(i64 p1.x),(i64 p1.y)]),(.agg [(i64 p2.x),(i64 p2.y)])] (i64 r):=by
 refine C3 (fk func240 ntmps240 m0 (by with_unfolding_all rfl)) (nl W) ?_
 unfold As at h
 refine B4 (s0:=⟨T [(0,(.d _)),(1,(.d _))],G []⟩) (G9 W W) ?_
 refine B1<|sm W<|sn W W<|sv W<|A2<|B1<|sq W<|sl W (gq W) W (sq W<|sl W G_hit W<|sv W<|sq W<|sl W (gq W) W (sq W<|sl W G_hit W<|sv W<|sv W<|sv W<|A2<|B2 ?_))
 cases h
 exact A7 (.inr W) (B6 (B3 W) C1) (.refl _)
def Kh (p1:Int)(x1:(Int×Int)):Option (Stp (Int×Int) Int):=
  cond (decide (x1.1<x1.2)) (cond (decide ((D2 ((D2 ((D2 (x1.1+x1.2)).tdiv 2))* (D2 ((D2 (x1.1+x1.2)).tdiv 2))))<p1)) (some (.go ((D2 ((D2 ((D2 (x1.1+x1.2)).tdiv 2))+1)),x1.2))) (some (.go (x1.1,(D2 ((D2 (x1.1+x1.2)).tdiv 2)))))) (some (.out x1.1))
def Fi [Lp](p1:Int):Option (Int×Bool):=
  (loop (Kh p1) (0,67108864)).bind fun y1=>some (y1,((D2 (y1*y1))==p1))
theorem Yw(p1 r)(h:Fi p1=some r):PCall prog 239 [(i64 p1)] (.tup [(i64 r.1),(bo r.2)]):=by
 refine C3 (fk func239 ntmps239 m0 (by with_unfolding_all rfl)) (nl W) ?_
 unfold Fi at h
 refine B4 (s0:=⟨T [(0,(.d _))],G []⟩) (G9 W W) ?_
 refine B1<|sv W<|sv W<|A2<|B1<|sv W<|sv W<|A2<|A6<|bs h fun y1 hy1 h=>E7 (fun s=> ∃g1:Unit,Sb ⟨T [(0,(di p1)),(4,(di y1))],G []⟩ s) ?_ ?_
 refine A8<|G6 (Kh p1) (fun (x1:(Int×Int)) (g2:Unit)=>⟨T [(0,(di p1)),(4,(di x1.1)),(5,(di x1.2))],G []⟩) (0,67108864) () _ hy1 (G9 W W) ?_
 intro x1 g2 z1 hz1 ez1
 unfold Kh at hz1
 refine A6<|B1<|sv W<|sv W<|sv W<|A2<|cc W hz1 (fun c1 hz1=> ?_)<|fun c1 hz1=> ?_
 refine A9<|A8<|B1<|sv W<|sv W<|sv W<|sv W<|sv W<|A2<|B1<|sv W<|sv W<|sv W<|sv W<|sv W<|A2<|cc W hz1 (fun c2 hz1=> ?_)<|fun c2 hz1=> ?_
 refine C6<|sv W<|sv W<|sv W<|A2<|F9<|G5 ?_
 cases hz1
 exact ⟨W,(),(G9 W W)⟩
 refine C6<|sv W<|sv W<|A2<|F9<|G5 ?_
 cases hz1
 exact ⟨W,(),(G9 W W)⟩
 refine D5 W ?_
 cases hz1
 obtain rfl:=ez1 _ rfl
 refine ⟨nofun,D4 W<|X2 ?_⟩
 exact ⟨(),(G9 W W)⟩
 rintro _ ⟨g1,q1⟩
 refine B4 q1<|B1<|sv W<|sv W<|sv W<|sv W<|sv W<|sv W<|sv W<|sv W<|A2<|B2 ?_
 cases h
 exact A7 (.inr W) (Sg (B3 W) (B3 W) C1 C1) (.refl _)
def W5 [Lp](p1:Curve)(x1:(Int×CurveVector)):Option (Stp (Int×CurveVector) (Sum Unit Int)):=
  cond (decide (x1.1< (D2 ((p1.Pts.length:Int) - 1)))) ((B8 p1.Pts x1.1).bind fun v2=>(B8 p1.Pts (D2 (x1.1+1))).bind fun v3=>(Ng v2 v3).bind fun v4=>(As v4 v4).bind fun v5=>(Fi v5).bind fun v6=>cond (!v6.2) (some (.out (.inr 3))) (cond ((decide (v6.1<1000))||(decide (v6.1>1048576))) (some (.out (.inr 2))) (((cond (decide (x1.1>0)) (As x1.2 v4) (some default))).bind fun v7=>cond ((decide (x1.1>0))&& (decide (v7≤0))) (some (.out (.inr 12))) (some (.go ((D2 (x1.1+1)),v4)))))) (some (.out (.inl ())))
def Es [Lp](p1:Curve):Option Int:=
  cond (decide ((p1.Pts.length:Int)<2)) (some 6) (cond (decide ((p1.Pts.length:Int)>16)) (some 5) ((Iw p1.Pts).bind fun v1=>cond (!v1) (some 2) (thenS (loop (W5 p1) (0,(CurveVector.mk 0 0))) (fun _=>some 0) (fun r=>some r))))
theorem Wm(p1 r)(h:Es p1=some r):PCall prog 198 [(.agg [(.list (List.map Bs p1.Pts))])] (i64 r):=by
 refine C3 (fk func198 ntmps198 m0 (by with_unfolding_all rfl)) (nl W) ?_
 unfold Es at h
 refine B4 (s0:=⟨T [(0,(.d _))],G []⟩) (G9 W W) ?_
 refine lr<|fun u1 _=>sm W<|sv W<|A2<|A6<|A8<|B1<|sq W<|sl W G_hit W<|sd W (E8 W)<|sv W<|sv W<|A2<|cc W h (fun c1 h=> ?_)<|fun c1 h=> ?_
 refine B1<|sv W<|A2<|B2 ?_
 cases h
 exact A7 (.inr W) (B6 (B3 W) C1) (.refl _)
 refine B1<|sq W<|sl W G_hit W<|sd W (E8 W)<|sv W<|sv W<|A2<|cc W h (fun c2 h=> ?_)<|fun c2 h=> ?_
 refine B1<|sv W<|A2<|B2 ?_
 cases h
 exact A7 (.inr W) (B6 (B3 W) C1) (.refl _)
 refine B1<|sq W<|sl W G_hit W<|bs h fun v1 hv1 h=>B0 W W A3 (JZ _ _ hv1) (.inl W) (C0 (.d (bo (!v1))) W W (sv W<|A2<|cc W h (fun c3 h=> ?_)<|fun c3 h=> ?_))
 refine B1<|sv W<|A2<|B2 ?_
 cases h
 exact A7 (.inr W) (B6 (B3 W) C1) (.refl _)
 refine A9<|F9<|lr<|fun u8 _=>sm W<|A2<|A6<|B1<|sq W<|sl W (gq W) W (sd W (E8 W)<|sv W<|sv W<|A2<|js h fun z1 hz1 h=>E7 (fun s=> ∃(y1:Unit) (g1:Unit),z1= .inl y1∧Sb ⟨T [],G []⟩ s) ?_ ?_)
 refine A8<|G6 (W5 p1) (fun (x1:(Int×CurveVector)) (g2:Unit)=>⟨T [(1,(.ptr (1,u1) 0)),(3,(.ptr (3,u8) 0)),(26,(di<|D2 ((p1.Pts.length:Int) - 1))),(27,(di x1.1))],G [((1,u1),some<|.box 61 [(dl Bs p1.Pts)]),((3,u8),some<|.box 253 [(di x1.2.x),(di x1.2.y)])]⟩) (0,(CurveVector.mk 0 0)) () _ hz1 (G9 W W) ?_
 intro x1 g2 z2 hz2 ez2
 unfold W5 at hz2
 refine B1<|sv W<|A2<|A6<|cc W hz2 (fun c4 hz2=> ?_)<|fun c4 hz2=> ?_
 refine A9<|A6<|A8<|B1<|sv W<|sv W<|A2<|A6<|J0 W<|sq W<|sl W G_hit W<|sv W<|bs hz2 fun _ hv2 hz2=>sd W (E2 W W hv2 W)<|sd W (E4 W hv2 W W)<|sq W<|sl W G_hit W<|sv W<|sv W<|bs hz2 fun _ hv3 hz2=>sd W (E2 W W hv3 W)<|sd W (E4 W hv3 W W)<|bs hz2 fun v4 hv4 hz2=>B0 W W A3 (Yv _ _ _ hv4) (.inl W) (sm W<|V5 W G_hit [(di v4.x),(di v4.y)] W (A2<|B1<|sd W (B7 W G_hit W W)<|sd W (B7 W G_hit W W)<|bs hz2 fun _ hv5 hz2=>B0 W W A3 (Jz _ _ _ hv5) (.inl W) (bs hz2 fun v6 hv6 hz2=>B0 W W A3 (Yw _ _ hv6) (.inl W) (sv W<|sv W<|sv W<|sv W<|sv W<|A2<|A6<|A8<|B1<|sv W<|C0 (.d (bo (!v6.2))) W W (sv W<|A2<|cc W hz2 (fun c5 hz2=> ?_)<|fun c5 hz2=> ?_)))))
 refine B1<|sv W<|A2<|B2 ?_
 cases hz2
 obtain rfl:=ez2 _ rfl
 refine ⟨nofun,H4 ?_⟩
 rw [wE]at h
 cases h
 exact A7 (.inr W) (B6 (B3 W) C1) (.refl _)
 refine B1<|sv W<|sv W<|sv W<|gf W (fun _=>W)<|gf W (vb W W W)<|sd W (T5 W W<|fun hc=>A5<|M7 hc)<|sv W<|A2<|cc W hz2 (fun c6 hz2=> ?_)<|fun c6 hz2=> ?_
 refine B1<|sv W<|A2<|B2 ?_
 cases hz2
 obtain rfl:=ez2 _ rfl
 refine ⟨nofun,H4 ?_⟩
 rw [wE]at h
 cases h
 exact A7 (.inr W) (B6 (B3 W) C1) (.refl _)
 refine B1<|sv W<|sv W<|sv W<|gt W (fun _=>(B7 W (gq W) W W))<|gt W (fun _=>(B7 W G_hit W W))<|bs hz2 fun v7 hv7 hz2=> ?_
 refine P3 _ (i64 v7) (O5 W) (fun w5=>⟨_,[(.d (.agg [(i64 x1.2.x),(i64 x1.2.y)])),(.d (.agg [(i64 v4.x),(i64 v4.y)]))],_,_,(by simp only [A5 w5];rfl),W,A3,Jz _ _ _<|D3 w5 hv7,(.inl W)⟩) ?_
 refine gt W (vb W W W)<|sa W W W<|sv W<|A2<|cc W hz2 (fun c7 hz2=> ?_)<|fun c7 hz2=> ?_
 refine B1<|sv W<|A2<|B2 ?_
 cases hz2
 obtain rfl:=ez2 _ rfl
 refine ⟨nofun,H4 ?_⟩
 rw [wE]at h
 cases h
 exact A7 (.inr W) (B6 (B3 W) C1) (.refl _)
 refine A9<|F9<|C6<|sd W (B7 W G_hit W W)<|V5 W (gq W) [(di v4.x),(di v4.y)] W (A2<|F9<|C6<|sv W<|sv W<|A2<|G5 ?_)
 cases hz2
 exact ⟨W,(),(G9 W W)⟩
 refine D5 W ?_
 cases hz2
 obtain rfl:=ez2 _ rfl
 refine ⟨nofun,D4 W<|X2 ?_⟩
 exact ⟨_,(),W,(G9 W W)⟩
 rintro _ ⟨y1,g1,rfl,q1⟩
 rw [wD]at h
 refine B4 q1<|B1<|sv W<|A2<|B2 ?_
 cases h
 exact A7 (.inr W) (B6 (B3 W) C1) (.refl _)
def By (p1:(List Int))(p3:Int)(x1:(Int×Int)):Option (Stp (Int×Int) (Sum Unit Bool)):=
  cond (decide (x1.2< (p1.length:Int))) ((B8 p1 x1.2).bind fun v1=>cond ((decide (v1<x1.1))||(decide (v1≥p3))) (some (.out (.inr false))) (some (.go ((D2 (v1+1)),(D2 (x1.2+1)))))) (some (.out (.inl ())))
def Ax [Lp](p1:(List Int))(p2:Int)(p3:Int):Option Bool:=
  thenS (loop (By p1 p3) (p2,0)) (fun _=>some true) (fun r=>some r)
theorem Og(p1 p2 p3 r)(h:Ax p1 p2 p3=some r):PCall prog 210 [(.list (List.map A4 p1)),(i64 p2),(i64 p3)] (bo r):=by
 refine C3 (fk func210 ntmps210 m0 (by with_unfolding_all rfl)) (nl W) ?_
 unfold Ax at h
 refine B4 (s0:=⟨T [(0,(.d _)),(1,(.d _)),(2,(.d _))],G []⟩) (G9 W W) ?_
 refine B1<|sv W<|A2<|A6<|B1<|sv W<|sd W (E8 W)<|sv W<|A2<|js h fun z1 hz1 h=>E7 (fun s=> ∃(y1:Unit) (g1:Unit),z1= .inl y1∧Sb ⟨T [],G []⟩ s) ?_ ?_
 refine A8<|G6 (By p1 p3) (fun (x1:(Int×Int)) (g2:Unit)=>⟨T [(1,(di x1.1)),(2,(di p3)),(9,(dl A4 p1)),(10,(di (p1.length:Int))),(11,(di x1.2))],G []⟩) (p2,0) () _ hz1 (G9 W W) ?_
 intro x1 g2 z2 hz2 ez2
 unfold By at hz2
 refine B1<|sv W<|A2<|A6<|cc W hz2 (fun c1 hz2=> ?_)<|fun c1 hz2=> ?_
 refine A9<|A6<|A8<|B1<|bs hz2 fun _ hv1 hz2=>sd W (E2 W W hv1 W)<|sd W (H5 W hv1 W)<|sv W<|A2<|A6<|B1<|sv W<|sv W<|sv W<|sv W<|gf W (fun _=>W)<|gf W (fun _=>W)<|gf W (fun w3=>(S9 (A5 w3) (A5 w3) W))<|sd W (T5 W W<|fun hc=>A5<|M7 hc)<|A2<|cc W hz2 (fun c2 hz2=> ?_)<|fun c2 hz2=> ?_
 refine B1<|sv W<|A2<|B2 ?_
 cases hz2
 obtain rfl:=ez2 _ rfl
 refine ⟨nofun,H4 ?_⟩
 rw [wE]at h
 cases h
 exact A7 (.inr W) (B6 (B3 W) C1) (.refl _)
 refine A9<|C6<|sv W<|sv W<|sv W<|A2<|F9<|C6<|sv W<|sv W<|A2<|G5 ?_
 cases hz2
 exact ⟨W,(),(G9 W W)⟩
 refine D5 W ?_
 cases hz2
 obtain rfl:=ez2 _ rfl
 refine ⟨nofun,D4 W<|X2 ?_⟩
 exact ⟨_,(),W,(G9 W W)⟩
 rintro _ ⟨y1,g1,rfl,q1⟩
 rw [wD]at h
 refine B4 q1<|B1<|sv W<|A2<|B2 ?_
 cases h
 exact A7 (.inr W) (B6 (B3 W) C1) (.refl _)
def Q0 [Lp](p1:RoadsCheck)(x1:Int):Option (Stp Int (Sum Unit Int)):=
  cond (decide (x1< (p1.Map_.Lanes.length:Int))) ((B8 p1.Map_.Lanes x1).bind fun v1=>(Er v1.Kind).bind fun v2=>cond (v2.1==0) (some (.out (.inr 4))) ((Es v1.Curve_).bind fun v3=>cond (v3 !=0) (some (.out (.inr v3))) ((Cj v1.Half 200 4000).bind fun v4=>((cond (!(!v4)) (Cj v1.Limit 1 v2.1) (some default))).bind fun v5=>cond ((!v4)||(!v5)) (some (.out (.inr 2))) (cond (decide ((v1.Next.length:Int)>3)) (some (.out (.inr 8))) ((Ax v1.Next (D2 (x1+1)) (p1.Map_.Lanes.length:Int)).bind fun v6=>cond (!v6) (some (.out (.inr 11))) (some (.go (D2 (x1+1))))))))) (some (.out (.inl ())))
def T9 [Lp](p1:RoadsCheck):Option Int:=
  thenS (loop (Q0 p1) 0) (fun _=>some 0) (fun r=>some r)
theorem Wn(p1 r)(h:T9 p1=some r):PCall prog 149 [(.agg (V1 p1.Map_))] (i64 r):=by
 refine C3 (fk func149 ntmps149 m0 (by with_unfolding_all rfl)) (nl W) ?_
 unfold T9 at h
 refine B4 (s0:=⟨T [(0,(.d _))],G []⟩) (G9 W W) ?_
 refine lr<|fun u1 _=>sm W<|sv W<|A2<|A6<|B1<|sq W<|sp W W<|sl W G_hit W<|sd W (E8 W)<|sv W<|A2<|js h fun z1 hz1 h=>E7 (fun s=> ∃(y1:Unit) (g1:Unit),z1= .inl y1∧Sb ⟨T [],G []⟩ s) ?_ ?_
 refine A8<|G6 (Q0 p1) (fun (x1:Int) (g2:Unit)=>⟨T [(1,(.ptr (1,u1) 0)),(11,(dl Ft p1.Map_.Lanes)),(12,(di (p1.Map_.Lanes.length:Int))),(13,(di x1))],G [((1,u1),some<|.box 212 (N4 p1.Map_))]⟩) 0 () _ hz1 (G9 W W) ?_
 intro x1 g2 z2 hz2 ez2
 unfold Q0 at hz2
 refine B1<|sv W<|A2<|A6<|cc W hz2 (fun c1 hz2=> ?_)<|fun c1 hz2=> ?_
 refine A9<|A6<|A8<|B1<|sv W<|bs hz2 fun v1 hv1 hz2=>sd W (E2 W W hv1 W)<|sd W (E4 W hv1 W W)<|sm W<|sv W<|V5 W G_hit (BX v1) W (A2<|B1<|sq W<|sl W G_hit W<|bs hz2 fun v2 hv2 hz2=>B0 W W A3 (Ko _ _ hv2) (.inl W) (sv W<|sv W<|sv W<|sv W<|sv W<|sv W<|sv W<|A2<|A6<|B1<|sv W<|sv W<|A2<|cc W hz2 (fun c2 hz2=> ?_)<|fun c2 hz2=> ?_))
 refine B1<|sv W<|A2<|B2 ?_
 cases hz2
 obtain rfl:=ez2 _ rfl
 refine ⟨nofun,H4 ?_⟩
 rw [wE]at h
 cases h
 exact A7 (.inr W) (B6 (B3 W) C1) (.refl _)
 refine A9<|A6<|B1<|sq W<|sd W (B7 W G_hit W W)<|bs hz2 fun _ hv3 hz2=>B0 W W A3 (Wm _ _ hv3) (.inl W) (sv W<|A2<|B1<|sv W<|sv W<|A2<|cc W hz2 (fun c3 hz2=> ?_)<|fun c3 hz2=> ?_)
 refine B1<|sv W<|sv W<|A2<|B2 ?_
 cases hz2
 obtain rfl:=ez2 _ rfl
 refine ⟨nofun,H4 ?_⟩
 rw [wE]at h
 cases h
 exact A7 (.inr W) (B6 (B3 W) C1) (.refl _)
 refine A9<|A8<|B1<|sq W<|sl W G_hit W<|bs hz2 fun v4 hv4 hz2=>B0 W W A3 (Ed _ _ _ _ hv4) (.inl W) (C0 (.d (bo (!v4))) W W (sv W<|gp W (N5 W) (fun _=>W) (gf W (vl W G_hit W)<|gf W (fun _=>W)<|bs hz2 fun v5 hv5 hz2=> ?_)))
 refine P3 _ (bo v5) (N5 W) (fun w4=>⟨_,[(di v1.Limit),(di 1),(di v2.1)],_,_,(by simp only [A5 w4];rfl),W,A3,Ed _ _ _ _<|D3 w4 hv5,(.inl W)⟩) ?_
 refine U8 _ (.d (bo (!v5))) W (N5 W) (fun w5=>(by simp only [A5 w5];rfl)) ?_
 refine sd W (T5 W W<|fun hc=>A5<|M7 hc)<|sv W<|A2<|cc W hz2 (fun c4 hz2=> ?_)<|fun c4 hz2=> ?_
 refine B1<|sv W<|A2<|B2 ?_
 cases hz2
 obtain rfl:=ez2 _ rfl
 refine ⟨nofun,H4 ?_⟩
 rw [wE]at h
 cases h
 exact A7 (.inr W) (B6 (B3 W) C1) (.refl _)
 refine B1<|sq W<|sl W G_hit W<|sd W (E8 W)<|sv W<|sv W<|A2<|cc W hz2 (fun c5 hz2=> ?_)<|fun c5 hz2=> ?_
 refine B1<|sv W<|A2<|B2 ?_
 cases hz2
 obtain rfl:=ez2 _ rfl
 refine ⟨nofun,H4 ?_⟩
 rw [wE]at h
 cases h
 exact A7 (.inr W) (B6 (B3 W) C1) (.refl _)
 refine B1<|sq W<|sl W G_hit W<|sv W<|sv W<|sq W<|sp W W<|sl W (gq W) W (sd W (E8 W)<|bs hz2 fun v6 hv6 hz2=>B0 W W A3 (Og _ _ _ _ hv6) (.inl W) (C0 (.d (bo (!v6))) W W (sv W<|A2<|cc W hz2 (fun c6 hz2=> ?_)<|fun c6 hz2=> ?_)))
 refine B1<|sv W<|A2<|B2 ?_
 cases hz2
 obtain rfl:=ez2 _ rfl
 refine ⟨nofun,H4 ?_⟩
 rw [wE]at h
 cases h
 exact A7 (.inr W) (B6 (B3 W) C1) (.refl _)
 refine A9<|F9<|F9<|C6<|sv W<|sv W<|A2<|G5 ?_
 cases hz2
 exact ⟨W,(),(G9 W W)⟩
 refine D5 W ?_
 cases hz2
 obtain rfl:=ez2 _ rfl
 refine ⟨nofun,D4 W<|X2 ?_⟩
 exact ⟨_,(),W,(G9 W W)⟩
 rintro _ ⟨y1,g1,rfl,q1⟩
 rw [wD]at h
 refine B4 q1<|B1<|sv W<|A2<|B2 ?_
 cases h
 exact A7 (.inr W) (B6 (B3 W) C1) (.refl _)
def W2 (p1:RoadsCheck)(v1:Lane)(v2:Spot)(x2:Int):Option (Stp Int (Sum Unit Int)):=
  cond (decide (x2< (v1.Next.length:Int))) ((B8 v1.Next x2).bind fun v3=>(B8 p1.Map_.Lanes v3).bind fun v4=>cond (v4.Kind !=v1.Kind) (some (.out (.inr 4))) ((B8 p1.Map_.Lanes v3).bind fun v5=>(B8 v5.Curve_.Pts 0).bind fun v6=>cond (!(v6.X==v2.X&& (v6.Y==v2.Y&&true))) (some (.out (.inr 3))) (some (.go (D2 (x2+1)))))) (some (.out (.inl ())))
def P1 [Lp](p1:RoadsCheck)(x1:Int):Option (Stp Int (Sum Unit Int)):=
  cond (decide (x1< (p1.Map_.Lanes.length:Int))) ((B8 p1.Map_.Lanes x1).bind fun v1=>(B8 v1.Curve_.Pts (D2 ((v1.Curve_.Pts.length:Int) - 1))).bind fun v2=>thenS (loop (W2 p1 v1 v2) 0) (fun _=>some (.go (D2 (x1+1)))) (fun r=>some (.out (.inr r)))) (some (.out (.inl ())))
def S6 [Lp](p1:RoadsCheck):Option Int:=
  thenS (loop (P1 p1) 0) (fun _=>some 0) (fun r=>some r)
theorem Vf(p1 r)(h:S6 p1=some r):PCall prog 150 [(.agg (V1 p1.Map_))] (i64 r):=by
 refine C3 (fk func150 ntmps150 m0 (by with_unfolding_all rfl)) (nl W) ?_
 unfold S6 at h
 refine B4 (s0:=⟨T [(0,(.d _))],G []⟩) (G9 W W) ?_
 refine lr<|fun u1 _=>sm W<|sv W<|A2<|A6<|B1<|sq W<|sp W W<|sl W G_hit W<|sd W (E8 W)<|sv W<|A2<|js h fun z1 hz1 h=>E7 (fun s=> ∃(y1:Unit) (g1:Unit),z1= .inl y1∧Sb ⟨T [],G []⟩ s) ?_ ?_
 refine A8<|G6 (P1 p1) (fun (x1:Int) (g2:Unit)=>⟨T [(1,(.ptr (1,u1) 0)),(10,(dl Ft p1.Map_.Lanes)),(11,(di (p1.Map_.Lanes.length:Int))),(12,(di x1))],G [((1,u1),some<|.box 212 (N4 p1.Map_))]⟩) 0 () _ hz1 (G9 W W) ?_
 intro x1 g2 z2 hz2 ez2
 unfold P1 at hz2
 refine B1<|sv W<|A2<|A6<|cc W hz2 (fun c1 hz2=> ?_)<|fun c1 hz2=> ?_
 refine A9<|A6<|A8<|lr<|fun u4 _=>bs hz2 fun v1 hv1 hz2=>sd W (E2 W W hv1 W)<|sd W (E4 W hv1 W W)<|sm W<|V5 W G_hit (BX v1) W (A2<|lr<|fun u5 _=>sq W<|sq W<|sl W G_hit W<|sq W<|sp W W<|sl W G_hit W<|sd W (E8 W)<|sv W<|bs hz2 fun v2 hv2 hz2=>sd W (E2 W W hv2 W)<|sd W (E4 W hv2 W W)<|sm W<|V5 W G_hit [(di v2.X),(di v2.Y)] W (A2<|B1<|sq W<|sl W (gq W) W (sd W (E8 W)<|sv W<|A2<|js hz2 fun z3 hz3 hz2=>E7 (fun s=> ∃(y2:Unit) (g3:Unit),z3= .inl y2∧Sb ⟨T [(1,(.ptr (1,u1) 0)),(10,(dl Ft p1.Map_.Lanes)),(11,(di (p1.Map_.Lanes.length:Int))),(12,(di x1))],G [((1,u1),some<|.box 212 (N4 p1.Map_))]⟩ s) ?_ ?_)))
 refine A8<|G6 (W2 p1 v1 v2) (fun (x2:Int) (g4:Unit)=>⟨T [(1,(.ptr (1,u1) 0)),(4,(.ptr (4,u4) 0)),(5,(.ptr (5,u5) 0)),(10,(dl Ft p1.Map_.Lanes)),(11,(di (p1.Map_.Lanes.length:Int))),(12,(di x1)),(27,(dl A4 v1.Next)),(28,(di (v1.Next.length:Int))),(29,(di x2))],G [((1,u1),some<|.box 212 (N4 p1.Map_)),((4,u4),some<|.box 63 (BX v1)),((5,u5),some<|.box 104 [(di v2.X),(di v2.Y)])]⟩) 0 () _ hz3 (G9 W W) ?_
 intro x2 g4 z4 hz4 ez4
 unfold W2 at hz4
 refine B1<|sv W<|A2<|A6<|cc W hz4 (fun c2 hz4=> ?_)<|fun c2 hz4=> ?_
 refine A9<|A6<|A8<|B1<|bs hz4 fun _ hv3 hz4=>sd W (E2 W W hv3 W)<|sd W (H5 W hv3 W)<|sv W<|A2<|A6<|A6<|J0 W<|sq W<|sq W<|sl W G_hit W<|sv W<|bs hz4 fun _ hv4 hz4=>sd W (E2 W W hv4 W)<|sv W<|sd W (H5 W hv4 W)<|sq W<|sl W (gq W) W (sv W<|A2<|cc W hz4 (fun c3 hz4=> ?_)<|fun c3 hz4=> ?_)
 refine B1<|sv W<|A2<|B2 ?_
 cases hz4
 obtain rfl:=ez4 _ rfl
 refine ⟨nofun,H4 ?_⟩
 rw [wE]at hz2
 cases hz2
 obtain rfl:=ez2 _ rfl
 refine ⟨nofun,H4 ?_⟩
 rw [wE]at h
 cases h
 exact A7 (.inr W) (B6 (B3 W) C1) (.refl _)
 refine A9<|A6<|J0 W<|sq W<|sq W<|sl W G_hit W<|sv W<|bs hz4 fun _ hv5 hz4=>sd W (E2 W W hv5 W)<|sv W<|sv W<|sd W (H5 W hv5 W)<|bs hz4 fun v6 hv6 hz4=>sd W (E2 W W hv6 W)<|sd W (E4 W hv6 W W)<|sd W (B7 W (gq W) W W)<|C0 (.d (bo (!(v6.X==v2.X&& (v6.Y==v2.Y&&true))))) W W (A2<|cc W hz4 (fun c4 hz4=> ?_)<|fun c4 hz4=> ?_)
 refine B1<|sv W<|A2<|B2 ?_
 cases hz4
 obtain rfl:=ez4 _ rfl
 refine ⟨nofun,H4 ?_⟩
 rw [wE]at hz2
 cases hz2
 obtain rfl:=ez2 _ rfl
 refine ⟨nofun,H4 ?_⟩
 rw [wE]at h
 cases h
 exact A7 (.inr W) (B6 (B3 W) C1) (.refl _)
 refine A9<|F9<|C6<|sv W<|sv W<|A2<|G5 ?_
 cases hz4
 exact ⟨W,(),(G9 W W)⟩
 refine D5 W ?_
 cases hz4
 obtain rfl:=ez4 _ rfl
 refine ⟨nofun,D4 W<|X2 ?_⟩
 exact ⟨_,(),W,(G9 W W)⟩
 rintro _ ⟨y2,g3,rfl,q1⟩
 rw [wD]at hz2
 refine F9<|B4 q1<|C6<|sv W<|sv W<|A2<|G5 ?_
 cases hz2
 exact ⟨W,(),(G9 W W)⟩
 refine D5 W ?_
 cases hz2
 obtain rfl:=ez2 _ rfl
 refine ⟨nofun,D4 W<|X2 ?_⟩
 exact ⟨_,(),W,(G9 W W)⟩
 rintro _ ⟨y1,g1,rfl,q2⟩
 rw [wD]at h
 refine B4 q2<|B1<|sv W<|A2<|B2 ?_
 cases h
 exact A7 (.inr W) (B6 (B3 W) C1) (.refl _)
end
end Go.Abs.World
