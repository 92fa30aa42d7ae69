/-
  The Go functions that WorldScans reaches, as plain Lean functions, and the proofs that the program computes them.
-/
import Derived.Test.YtgjdiioennhoeaaGreatCoreD
import Derived.Test.YtgjdiioennhoeaaGreatProg
import Derived.KernelRfl
import Derived.IntWalk
import Derived.Shelf.SlicesE.Compact
set_option maxRecDepth 20000
set_option maxHeartbeats 4000000
set_option linter.unusedVariables false
namespace Go.Abs.World
noncomputable section
open Go Go.Abs Go.Proofs Tryz
attribute [local irreducible] K1 Ly Bt
structure Spot where
  X:Int
  Y:Int
  deriving Inhabited
structure CurveVector where
  x:Int
  y:Int
  deriving Inhabited
structure CurvePiece where
  p:Spot
  v:CurveVector
  l:Int
  start:Int
  deriving Inhabited
abbrev Q3:Spot→List D:=fun x=> [(i64 x.X),(i64 x.Y)]
structure Curve where
  Pts:(List Spot)
  deriving Inhabited
abbrev mB:Curve→List D:=fun x=> [(.list (List.map Q3 x.Pts))]
structure Stay where
  Agent_:Int
  Zone_:Int
  Since:Int
  Rank:Int
  deriving Inhabited
abbrev J5:Stay→List D:=fun x=> [(i64 x.Agent_),(i64 x.Zone_),(i64 x.Since),(i64 x.Rank)]
abbrev A5:Int→List D:=fun x=> [.v (.int .i64 x)]
structure Agent where
  Route:(List Int)
  S:Int
  V:Int
  Len:Int
  Begin:Int
  Obey:Bool
  Gone:Bool
  deriving Inhabited
structure State where
  Tick:Int
  Agents:(List Agent)
  In:(List Stay)
  deriving Inhabited
abbrev E4:Agent→List D:=fun x=> [(.list (List.map A5 x.Route)),(i64 x.S),(i64 x.V),(i64 x.Len),(i64 x.Begin),(bo x.Obey),(bo x.Gone)]
abbrev U5:State→List D:=fun x=> [(i64 x.Tick),(.list (List.map E4 x.Agents)),(.list (List.map J5 x.In))]
abbrev cJ:(List Agent)→List D:=fun x=> [.list (List.map E4 x)]
abbrev IJ:(List Int)→List D:=fun x=> [.list (List.map A5 x)]
abbrev kI:Bool→List D:=fun x=> [bo x]
abbrev fU:(List Stay)→List D:=fun x=> [.list (List.map J5 x)]
structure Lane where
  Kind:Int
  Curve_:Curve
  Half:Int
  Limit:Int
  Next:(List Int)
  deriving Inhabited
structure Part where
  Lane_:Int
  From:Int
  To:Int
  Rank:Int
  deriving Inhabited
structure Zone where
  Parts:(List Part)
  Signal_:Int
  deriving Inhabited
structure Phase where
  Ticks:Int
  Green:(List Int)
  deriving Inhabited
structure Signal where
  Offset:Int
  Phases:(List Phase)
  deriving Inhabited
structure Work where
  Lane_:Int
  From:Int
  To:Int
  Begin:Int
  End:Int
  Limit:Int
  deriving Inhabited
structure Map where
  Version:Int
  Lanes:(List Lane)
  Zones:(List Zone)
  Signals:(List Signal)
  Works:(List Work)
  deriving Inhabited
abbrev Do:Lane→List D:=fun x=> [(i64 x.Kind),(.list (List.map Q3 x.Curve_.Pts)),(i64 x.Half),(i64 x.Limit),(.list (List.map A5 x.Next))]
abbrev Cs:Part→List D:=fun x=> [(i64 x.Lane_),(i64 x.From),(i64 x.To),(i64 x.Rank)]
abbrev Dp:Zone→List D:=fun x=> [(.list (List.map Cs x.Parts)),(i64 x.Signal_)]
abbrev Dq:Phase→List D:=fun x=> [(i64 x.Ticks),(.list (List.map A5 x.Green))]
abbrev Ju:Signal→List D:=fun x=> [(i64 x.Offset),(.list (List.map Dq x.Phases))]
abbrev Rt:Work→List D:=fun x=> [(i64 x.Lane_),(i64 x.From),(i64 x.To),(i64 x.Begin),(i64 x.End),(i64 x.Limit)]
abbrev mP:Nat→List D:=fun x=> [.fn (.func x) [] []]
structure RoadsCheck where
  Map_:Map
  deriving Inhabited
abbrev kJ:(Int×Int×Int)→List D:=fun x=> [(i64 x.1),(i64 x.2.1),(i64 x.2.2)]
structure RoadsWay where
  Map_:Map
  lanes:(List Int)
  starts:(List Int)
  length:Int
  deriving Inhabited
structure WorldSpan where
  from_:Int
  to:Int
  deriving Inhabited
structure Crash where
  Tick:Int
  A:Int
  B:Int
  Lane_:Int
  Zone_:Int
  Who:(List Int)
  deriving Inhabited
structure WorldScene where
  m:Map
  before:State
  after:State
  acts:(List Int)
  crashes:(List Crash)
  deriving Inhabited
abbrev Dr:Crash→List D:=fun x=> [(i64 x.Tick),(i64 x.A),(i64 x.B),(i64 x.Lane_),(i64 x.Zone_),(.list (List.map A5 x.Who))]
structure Pass where
  Zone_:Int
  Part_:Int
  From:Int
  To:Int
  deriving Inhabited
abbrev Y0:Pass→List D:=fun x=> [(i64 x.Zone_),(i64 x.Part_),(i64 x.From),(i64 x.To)]
structure Span where
  Lane_:Int
  From:Int
  To:Int
  deriving Inhabited
abbrev J2:Span→List D:=fun x=> [(i64 x.Lane_),(i64 x.From),(i64 x.To)]
structure WorldBar where
  front:Spot
  rear:Spot
  deriving Inhabited
structure WorldLooks where
  m:Map
  eye:Spot
  view:Int
  bodies:(List (List Span))
  bars:(List WorldBar)
  deriving Inhabited
abbrev Ln:(List Span)→List D:=fun x=> [.list (List.map J2 x)]
abbrev Bg:WorldBar→List D:=fun x=> [(i64 x.front.X),(i64 x.front.Y),(i64 x.rear.X),(i64 x.rear.Y)]
structure Point where
  X:Int
  Y:Int
  V:Int
  deriving Inhabited
structure Scan where
  Stamp:Int
  Seen:(List Span)
  Points:(List Point)
  deriving Inhabited
abbrev Ip:Point→List D:=fun x=> [(i64 x.X),(i64 x.Y),(i64 x.V)]
structure Anon7 where
  x:Int
  y:Int
  signed:Bool
  code:Int
  deriving Inhabited
structure RuntimeBoundsError where
  x:Int
  y:Int
  signed:Bool
  code:Int
  deriving Inhabited
structure Anon13 where
  msg:ByteArray
  addr:Int
  deriving Inhabited
structure RuntimeErrorAddressString where
  msg:ByteArray
  addr:Int
  deriving Inhabited
structure Anon24 where
  Tick:Int
  Agents:(List Agent)
  In:(List Stay)
  deriving Inhabited
structure Anon32 where
  Version:Int
  Lanes:(List Lane)
  Zones:(List Zone)
  Signals:(List Signal)
  Works:(List Work)
  deriving Inhabited
structure Anon44 where
  Route:(List Int)
  S:Int
  V:Int
  Len:Int
  Begin:Int
  Obey:Bool
  Gone:Bool
  deriving Inhabited
structure Anon60 where
  Pts:(List Spot)
  deriving Inhabited
structure Anon62 where
  Kind:Int
  Curve_:Curve
  Half:Int
  Limit:Int
  Next:(List Int)
  deriving Inhabited
structure Anon72 where
  R:Int
  S:Int
  V:Int
  Len:Int
  Begin:Int
  Disobeys:Bool
  deriving Inhabited
structure KitActor where
  R:Int
  S:Int
  V:Int
  Len:Int
  Begin:Int
  Disobeys:Bool
  deriving Inhabited
structure Anon76 where
  Tick:Int
  A:Int
  B:Int
  Lane_:Int
  Zone_:Int
  Who:(List Int)
  deriving Inhabited
structure Anon82 where
  Stamp:Int
  Lo:Int
  Hi:Int
  deriving Inhabited
structure Mark where
  Stamp:Int
  Lo:Int
  Hi:Int
  deriving Inhabited
structure Anon92 where
  Lane_:Int
  From:Int
  To:Int
  deriving Inhabited
structure Anon98 where
  Stamp:Int
  Seen:(List Span)
  Points:(List Point)
  deriving Inhabited
structure Anon103 where
  X:Int
  Y:Int
  deriving Inhabited
structure Anon106 where
  X:Int
  Y:Int
  V:Int
  deriving Inhabited
structure Anon113 where
  Lane_:Int
  From:Int
  To:Int
  Rank:Int
  deriving Inhabited
structure Anon116 where
  Parts:(List Part)
  Signal_:Int
  deriving Inhabited
structure Anon119 where
  Offset:Int
  Phases:(List Phase)
  deriving Inhabited
structure Anon122 where
  Lane_:Int
  From:Int
  To:Int
  Begin:Int
  End:Int
  Limit:Int
  deriving Inhabited
structure Anon126 where
  Agent_:Int
  Zone_:Int
  Since:Int
  Rank:Int
  deriving Inhabited
structure Anon134 where
  m:Map
  before:State
  after:State
  acts:(List Int)
  crashes:(List Crash)
  deriving Inhabited
structure Anon164 where
  s:ByteArray
  bad:Bool
  deriving Inhabited
structure WorldReader where
  s:ByteArray
  bad:Bool
  deriving Inhabited
structure Anon171 where
  s:ByteArray
  bad:Bool
  deriving Inhabited
structure Ref04Reader where
  s:ByteArray
  bad:Bool
  deriving Inhabited
structure Anon190 where
  from_:Int
  to:Int
  deriving Inhabited
structure Anon207 where
  Ticks:Int
  Green:(List Int)
  deriving Inhabited
structure Anon211 where
  Map_:Map
  deriving Inhabited
structure Anon228 where
  Zone_:Int
  Part_:Int
  From:Int
  To:Int
  deriving Inhabited
structure Anon245 where
  m:Map
  eye:Spot
  view:Int
  bodies:(List (List Span))
  bars:(List WorldBar)
  deriving Inhabited
structure Anon247 where
  front:Spot
  rear:Spot
  deriving Inhabited
structure Anon252 where
  x:Int
  y:Int
  deriving Inhabited
structure Anon254 where
  p:Spot
  v:CurveVector
  l:Int
  start:Int
  deriving Inhabited
structure Anon259 where
  Map_:Map
  lanes:(List Int)
  starts:(List Int)
  length:Int
  deriving Inhabited
abbrev Ph:WorldScene→List D:=fun x=> [(i64 x.m.Version),(.list (List.map Do x.m.Lanes)),(.list (List.map Dp x.m.Zones)),(.list (List.map Ju x.m.Signals)),(.list (List.map Rt x.m.Works)),(i64 x.before.Tick),(.list (List.map E4 x.before.Agents)),(.list (List.map J5 x.before.In)),(i64 x.after.Tick),(.list (List.map E4 x.after.Agents)),(.list (List.map J5 x.after.In)),(.list (List.map A5 x.acts)),(.list (List.map Dr x.crashes))]
abbrev U6:WorldScene→List AV:=fun x=> [(.d (i64 x.m.Version)),(.d (.list (List.map Do x.m.Lanes))),(.d (.list (List.map Dp x.m.Zones))),(.d (.list (List.map Ju x.m.Signals))),(.d (.list (List.map Rt x.m.Works))),(.d (i64 x.before.Tick)),(.d (.list (List.map E4 x.before.Agents))),(.d (.list (List.map J5 x.before.In))),(.d (i64 x.after.Tick)),(.d (.list (List.map E4 x.after.Agents))),(.d (.list (List.map J5 x.after.In))),(.d (.list (List.map A5 x.acts))),(.d (.list (List.map Dr x.crashes)))]
abbrev Pi:WorldLooks→List D:=fun x=> [(i64 x.m.Version),(.list (List.map Do x.m.Lanes)),(.list (List.map Dp x.m.Zones)),(.list (List.map Ju x.m.Signals)),(.list (List.map Rt x.m.Works)),(i64 x.eye.X),(i64 x.eye.Y),(i64 x.view),(.list (List.map Ln x.bodies)),(.list (List.map Bg x.bars))]
abbrev Mh:WorldLooks→List AV:=fun x=> [(.d (i64 x.m.Version)),(.d (.list (List.map Do x.m.Lanes))),(.d (.list (List.map Dp x.m.Zones))),(.d (.list (List.map Ju x.m.Signals))),(.d (.list (List.map Rt x.m.Works))),(.d (i64 x.eye.X)),(.d (i64 x.eye.Y)),(.d (i64 x.view)),(.d (.list (List.map Ln x.bodies))),(.d (.list (List.map Bg x.bars)))]
abbrev XF:RoadsWay→List D:=fun x=> [(i64 x.Map_.Version),(.list (List.map Do x.Map_.Lanes)),(.list (List.map Dp x.Map_.Zones)),(.list (List.map Ju x.Map_.Signals)),(.list (List.map Rt x.Map_.Works)),(.list (List.map A5 x.lanes)),(.list (List.map A5 x.starts)),(i64 x.length)]
abbrev Hv:RoadsWay→List AV:=fun x=> [(.d (i64 x.Map_.Version)),(.d (.list (List.map Do x.Map_.Lanes))),(.d (.list (List.map Dp x.Map_.Zones))),(.d (.list (List.map Ju x.Map_.Signals))),(.d (.list (List.map Rt x.Map_.Works))),(.d (.list (List.map A5 x.lanes))),(.d (.list (List.map A5 x.starts))),(.d (i64 x.length))]
abbrev W9:Agent→List AV:=fun x=> [(.d (.list (List.map A5 x.Route))),(.d (i64 x.S)),(.d (i64 x.V)),(.d (i64 x.Len)),(.d (i64 x.Begin)),(.d (bo x.Obey)),(.d (bo x.Gone))]
abbrev kK:Work→List AV:=fun x=> [(.d (i64 x.Lane_)),(.d (i64 x.From)),(.d (i64 x.To)),(.d (i64 x.Begin)),(.d (i64 x.End)),(.d (i64 x.Limit))]
abbrev Ya:CurvePiece→List D:=fun x=> [(i64 x.p.X),(i64 x.p.Y),(i64 x.v.x),(i64 x.v.y),(i64 x.l),(i64 x.start)]
abbrev Gj:CurvePiece→List AV:=fun x=> [(.d (i64 x.p.X)),(.d (i64 x.p.Y)),(.d (i64 x.v.x)),(.d (i64 x.v.y)),(.d (i64 x.l)),(.d (i64 x.start))]
abbrev O8:Map→List D:=fun x=> [(i64 x.Version),(.list (List.map Do x.Lanes)),(.list (List.map Dp x.Zones)),(.list (List.map Ju x.Signals)),(.list (List.map Rt x.Works))]
abbrev K7:Map→List AV:=fun x=> [(.d (i64 x.Version)),(.d (.list (List.map Do x.Lanes))),(.d (.list (List.map Dp x.Zones))),(.d (.list (List.map Ju x.Signals))),(.d (.list (List.map Rt x.Works)))]
abbrev CY:Lane→List AV:=fun x=> [(.d (i64 x.Kind)),(.d (.list (List.map Q3 x.Curve_.Pts))),(.d (i64 x.Half)),(.d (i64 x.Limit)),(.d (.list (List.map A5 x.Next)))]
abbrev IK:Part→List AV:=fun x=> [(.d (i64 x.Lane_)),(.d (i64 x.From)),(.d (i64 x.To)),(.d (i64 x.Rank))]
abbrev Vx:Stay→List AV:=fun x=> [(.d (i64 x.Agent_)),(.d (i64 x.Zone_)),(.d (i64 x.Since)),(.d (i64 x.Rank))]
abbrev MD:WorldBar→List AV:=fun x=> [(.d (i64 x.front.X)),(.d (i64 x.front.Y)),(.d (i64 x.rear.X)),(.d (i64 x.rear.Y))]
abbrev J8:State→List AV:=fun x=> [(.d (i64 x.Tick)),(.d (.list (List.map E4 x.Agents))),(.d (.list (List.map J5 x.In)))]
abbrev Pj:Span→List AV:=fun x=> [(.d (i64 x.Lane_)),(.d (i64 x.From)),(.d (i64 x.To))]
abbrev FN:Scan→List D:=fun x=> [(i64 x.Stamp),(.list (List.map J2 x.Seen)),(.list (List.map Ip x.Points))]
abbrev iC:Scan→List AV:=fun x=> [(.d (i64 x.Stamp)),(.d (.list (List.map J2 x.Seen))),(.d (.list (List.map Ip x.Points)))]
def Fl (p1:State)(x1:Int):Option (Stp Int (Sum Unit Bool)):=
  cond (decide (x1< (p1.Agents.length:Int))) ((C8 p1.Agents x1).bind fun v1=>cond (decide ((v1.Route.length:Int)>10)) (some (.out (.inr false))) (some (.go (C9 (x1+1))))) (some (.out (.inl ())))
def Pk [Lp](p1:State):Option Bool:=
  cond ((decide ((p1.Agents.length:Int)>10))||(decide ((p1.In.length:Int)>20))) (some false) (thenS (loop (Fl p1) 0) (fun _=>some true) (fun r=>some r))
theorem IL(p1 r)(h:Pk p1=some r):PCall prog 20 [(.agg (U5 p1))] (bo r):=by
 refine C0 (fk func20 ntmps20 m0 (by with_unfolding_all rfl)) (nl W) ?_
 unfold Pk at h
 refine B5 (s0:=⟨T [(0,(.d _))],G []⟩) (E3 W W) ?_
 refine lr<|fun u1 _=>sm W<|sv W<|A1<|A4<|B1<|sq W<|sl W G_hit W<|sd W (D0 W)<|sv W<|sv W<|gp W (H8 W) (fun _=>W) (gf W (vl W G_hit W)<|gf W (fun w3=>(D0<|A3 w3))<|gf W (vb W W W)<|sd W (L8 W W<|fun hc=>A3<|G0 hc)<|A1<|cc W h (fun c1 h=> ?_)<|fun c1 h=> ?_)
 refine B1<|sv W<|A1<|B2 ?_
 cases h
 exact A7 (.inr W) (B4 (B3 W) B8) (.refl _)
 refine A8<|A4<|B1<|sv W<|A1<|js h fun z1 hz1 h=>D3 (fun s=> ∃(y1:Unit) (g1:Unit),z1= .inl y1∧Sb ⟨T [],G []⟩ s) ?_ ?_
 refine A9<|D7 (Fl p1) (fun (x1:Int) (g2:Unit)=>⟨T [(1,(.ptr (1,u1) 0)),(3,(di x1))],G [((1,u1),some<|.box 25 (J8 p1))]⟩) 0 () _ hz1 (E3 W W) ?_
 intro x1 g2 z2 hz2 ez2
 unfold Fl at hz2
 refine A4<|B1<|sv W<|sq W<|sl W G_hit W<|sd W (D0 W)<|sv W<|A1<|cc W hz2 (fun c2 hz2=> ?_)<|fun c2 hz2=> ?_
 refine A8<|A4<|A9<|B1<|sq W<|sl W G_hit W<|sv W<|bs hz2 fun _ hv1 hz2=>sd W (C5 W W hv1 W)<|sv W<|sd W (D1 W hv1 W)<|sd W (D0 W)<|sv W<|A1<|cc W hz2 (fun c3 hz2=> ?_)<|fun c3 hz2=> ?_
 refine B1<|sv W<|A1<|B2 ?_
 cases hz2
 obtain rfl:=ez2 _ rfl
 refine ⟨nofun,E5 ?_⟩
 rw [bT]at h
 cases h
 exact A7 (.inr W) (B4 (B3 W) B8) (.refl _)
 refine A8<|D4<|C1<|sv W<|sv W<|sv W<|A1<|D6 ?_
 cases hz2
 exact ⟨W,(),(E3 W W)⟩
 refine C6 W ?_
 cases hz2
 obtain rfl:=ez2 _ rfl
 refine ⟨nofun,C3 W<|T4 ?_⟩
 exact ⟨_,(),W,(E3 W W)⟩
 rintro _ ⟨y1,g1,rfl,q1⟩
 rw [bS]at h
 refine B5 q1<|B1<|sv W<|A1<|B2 ?_
 cases h
 exact A7 (.inr W) (B4 (B3 W) B8) (.refl _)
def Yb (p4:(List Int))(x1:(Int× (List Spot))):Option (Stp (Int× (List Spot)) (List Spot)):=
  cond (decide ((C9 (x1.1+1))< (p4.length:Int))) ((C8 p4 x1.1).bind fun v1=>(C8 p4 (C9 (x1.1+1))).bind fun v2=>(Fk x1.2 [(Spot.mk v1 v2)]).bind fun v3=>some (.go ((C9 (x1.1+2)),v3))) (some (.out x1.2))
def T3 [Lp](p1:Int)(p2:Int)(p3:(List Int))(p4:(List Int)):Option Lane:=
  (loop (Yb p4) (0,[])).bind fun y1=>cond (p1==3) (some (Lane.mk p1 (Curve.mk y1) 500 p2 p3)) (some (Lane.mk p1 (Curve.mk y1) 1500 p2 p3))
theorem Q8(p1 p2 p3 p4 r)(h:T3 p1 p2 p3 p4=some r):PCall prog 69 [(i64 p1),(i64 p2),(.list (List.map A5 p3)),(.list (List.map A5 p4))] (.agg (Do r)):=by
 refine C0 (fk func69 ntmps69 (fun r=>if r==5 then [1013]else []) (by with_unfolding_all rfl)) (nl W) ?_
 unfold T3 at h
 refine B5 (s0:=⟨T [(0,(.d _)),(1,(.d _)),(2,(.d _)),(3,(.d _))],G []⟩) (E3 W W) ?_
 refine lr<|fun u1 _=>sm W<|A1<|lr<|fun u2 _=>sv W<|sv W<|sv W<|sv W<|sm W<|Q4 W G_hit [(di p1),(.d .nilS),(di 1500),(di p2),(dl A5 p3)] W (A1<|A4<|B1<|sv W<|A1<|bs h fun y1 hy1 h=>D3 (fun s=> ∃g1:Nat,Sb ⟨T [(0,(di p1)),(8,(.ptr (8,u1) 0)),(9,(.ptr (9,u2) 0))],G [((8,u1),some<|.box 63 (((zs 4).set 1 (.d .nilS))++ [(.d .nilS)])),((9,u2),some<|.box 63 [(di p1),(oS y1 (36,g1)),(di 1500),(di p2),(dl A5 p3)]),((36,g1),oB 104 2 Q3 y1)]⟩ s) ?_ ?_)
 refine A9<|D7 (Yb p4) (fun (x1:(Int× (List Spot))) (g2:Nat)=>⟨T [(0,(di p1)),(3,(dl A5 p4)),(8,(.ptr (8,u1) 0)),(9,(.ptr (9,u2) 0)),(10,(di x1.1))],G [((8,u1),some<|.box 63 (((zs 4).set 1 (.d .nilS))++ [(.d .nilS)])),((9,u2),some<|.box 63 [(di p1),(oS x1.2 (36,g2)),(di 1500),(di p2),(dl A5 p3)]),((36,g2),oB 104 2 Q3 x1.2)]⟩) (0,[]) 0 _ hy1 (D2 (X5 W)<|sg W<|B6 G_hit (.of W)<|O9 trivial) ?_
 intro x1 g2 z1 hz1 ez1
 unfold Yb at hz1
 refine A4<|B1<|sv W<|sv W<|sv W<|sd W (D0 W)<|sv W<|A1<|cc W hz1 (fun c1 hz1=> ?_)<|fun c1 hz1=> ?_
 refine A8<|A4<|A9<|Fj W fun u5 _=>sq W<|sq W<|B9 (oS x1.2 (36,g2)) W (N8 W (gq W) W) (sv W<|sv W<|bs hz1 fun v1 hv1 hz1=>sd W (C5 W W hv1 W)<|sd W (D1 W hv1 W)<|sv W<|sv W<|sv W<|bs hz1 fun v2 hv2 hz1=>sd W (C5 W W hv2 W)<|sd W (D1 W hv2 W)<|sv W<|B9 (dl Q3 [(Spot.mk v1 v2)]) W W (bs hz1 fun _ hv3 hz1=>O1 Q3 (36,g2) x1.2 (Spot.mk v1 v2) [] _ (M0<|fun _=>W) W (gq W) hv3 (sq W<|sp W W<|Q4 W (gq W) [(di p1),(.sl (36,u5)),(di 1500),(di p2),(dl A5 p3)] W (A1<|D4<|C1<|sv W<|sv W<|sv W<|A1<|D6 ?_))))
 cases hz1
 exact ⟨W,u5,(D2 (X5 W)<|sg W<|B6 G_hit (.box (cv<|.cons (.of (S5<|T0 hv3).symm) cw))<|L9 (gq W) trivial)⟩
 refine C6 W ?_
 cases hz1
 obtain rfl:=ez1 _ rfl
 refine ⟨nofun,C3 W<|T4 ?_⟩
 exact ⟨g2,(D2 (X5 W)<|B6 G_hit (.of W)<|sg W<|B7 (gq W) trivial)⟩
 rintro _ ⟨g1,q1⟩
 refine B5 q1<|A4<|B1<|sv W<|sv W<|A1<|cc W h (fun c2 h=> ?_)<|fun c2 h=> ?_
 refine C1<|sq W<|Q4 W (gq W) [(di p1),(oS y1 (36,g1)),(di 500),(di p2),(dl A5 p3)] W (A1<|B1<|B9 (Y6 [(di p1),(oS y1 (36,g1)),(di 500),(di p2),(dl A5 p3)]) W (A6 W G_hit W W) (Ll _ _ _ _ _ (X4 _) W W (gq W) (nl W) [(di p1),(oS y1 (36,g1)),(di 500),(di p2),(dl A5 p3)] W (A1<|B2 ?_)))
 cases h
 exact A7 (.inr W) (B4 (G5 W G_hit (nl W) W)<|Mz<|rD<|E0 (U4<|gq W)<|rD<|rD<|rD F0) (.agg (ca W<|.cons ⟨U3,W⟩ (cz W)))
 refine A8<|B1<|B9 (Y6 [(di p1),(oS y1 (36,g1)),(di 1500),(di p2),(dl A5 p3)]) W (A6 W (gq W) W W) (Ll _ _ _ _ _ (X4 _) W W G_hit (nl W) [(di p1),(oS y1 (36,g1)),(di 1500),(di p2),(dl A5 p3)] W (A1<|B2 ?_))
 cases h
 exact A7 (.inr W) (B4 (G5 W G_hit (nl W) W)<|Mz<|rD<|E0 (U4<|gq W)<|rD<|rD<|rD F0) (.agg (ca W<|.cons ⟨U3,W⟩ (cz W)))
def Rc [Lp]:Option Map:=
  (T3 1 1500 [] [0,0,100000,0]).bind fun v1=>(T3 1 1500 [] [50000,(-50000),50000,50000]).bind fun v2=>some (Map.mk 0 [v1,v2] [(Zone.mk [(Part.mk 0 48000 52000 1),(Part.mk 1 48000 52000 0)] 0)] [] [])
theorem OE(r)(h:Rc=some r):PCall prog 65 [] (.agg (O8 r)):=by
 refine C0 (fk func65 ntmps65 (fun r=>if r==1 then [1000,1002,1004,1007,1009]else []) (by with_unfolding_all rfl)) (nl W) ?_
 unfold Rc at h
 refine B5 (s0:=⟨T [],G []⟩) (E3 W W) ?_
 refine B1<|sm W<|A1<|B1<|B9 (dl A5 [0,0,100000,0]) W W (bs h fun v1 hv1 h=>B0 W W (.cons (.refl _) (.cons (.refl _) (.cons DLe.nil A2))) (Q8 _ _ _ _ _ hv1) (.inl W) (B9 (dl A5 [50000,(-50000),50000,50000]) W W (bs h fun v2 hv2 h=>B0 W W (.cons (.refl _) (.cons (.refl _) (.cons DLe.nil A2))) (Q8 _ _ _ _ _ hv2) (.inl W) (B9 (dl Do [v1,v2]) W (EL Do ([v1,v2]:List Lane) (fun _=>W) W W ⟨W,W,W,W,W,W,trivial⟩ (fun _=>W)) (sv W<|sv W<|B9 (dl Cs [(Part.mk 0 48000 52000 1),(Part.mk 1 48000 52000 0)]) W W (sv W<|B9 (dl Dp [(Zone.mk [(Part.mk 0 48000 52000 1),(Part.mk 1 48000 52000 0)] 0)]) W W (sv W<|Q4 W G_hit [(di 0),(dl Do [v1,v2]),(dl Dp [(Zone.mk [(Part.mk 0 48000 52000 1),(Part.mk 1 48000 52000 0)] 0)]),(.d .nilS),(.d .nilS)] W (A1<|B2 ?_))))))))
 cases h
 exact A7 (.inr W) (B4 (G5 W G_hit (nl W) W) B8) (.agg (ca W<|ca W<|ca W<|.cons ⟨DLe.nil,W⟩ (.cons ⟨DLe.nil,W⟩ .nil)))
def Te (p1:Int)(p2:Int)(p3:Int):Option Agent:=
  some (Agent.mk [p1] p2 p3 4000 0 false false)
theorem Yc(p1 p2 p3 r)(h:Te p1 p2 p3=some r):PCall prog 66 [(i64 p1),(i64 p2),(i64 p3)] (.agg (E4 r)):=by
 refine C0 (fk func66 ntmps66 (fun r=>if r==1 then [1001]else []) (by with_unfolding_all rfl)) (nl W) ?_
 unfold Te at h
 refine B5 (s0:=⟨T [(0,(.d _)),(1,(.d _)),(2,(.d _))],G []⟩) (E3 W W) ?_
 refine B1<|sm W<|A1<|B1<|sv W<|B9 (dl A5 [p1]) W W (sv W<|sv W<|sv W<|Q4 W G_hit [(dl A5 [p1]),(di p2),(di p3),(di 4000),(di 0),(.d (bo false)),(.d (bo false))] W (A1<|B2 ?_))
 cases h
 exact A7 (.inr W) (B4 (G5 W G_hit (nl W) W) B8) (.refl _)
def Bu (p1:List Stay):Option (List Stay):=Fk [] p1
theorem Iu (p1:List Stay)(a0:D)(hl:Fk ([]:List Stay) p1=some p1)(hn: ∀h,K0 (T [(3, .d a0),(2, .d .nilS),(0, .d a0)]) h (.isnil false (.t 3))=some (.d (bo false)))(he: ∀h,Ad h 4 (.d a0)=some (List.map J5 p1)):
    PCall prog 121 [a0] (.list (List.map J5 p1)):=by
  refine C0 (fk func121 ntmps121 m0 (by with_unfolding_all rfl)) (Nat.le_of_ble_eq_true W) ?_
  refine (B5 (s0:=⟨T [(0, .d a0)],G []⟩) (D2 ⟨.of W,trivial⟩ trivial) ?_)
  refine A4 ?_
  refine Be fun _ _=> ?_
  refine B9 (.d .nilS) W W ?_
  refine A1 ?_
  refine A4 ?_
  refine A4 ?_
  refine Be fun _ _=> ?_
  refine B9 (.d a0) W W ?_
  refine B9 (.d (bo false)) W (hn _) ?_
  refine A1 ?_
  refine Qt W ?_
  refine A8 ?_
  refine A4 ?_
  refine Be fun _ _=> ?_
  refine Pf (.sl _) (.arr 127 4 (List.map J5 ([]:List Stay))) W W ?_
  refine B9 (.d a0) W W ?_
  refine Xt J5 _ [] p1 _ (he _) W G_hit hl ?_
  refine B9 (.sl _) W W ?_
  refine A1 ?_
  refine B2 ?_
  exact A7 (.inr W) (B4 (B3 W)<|QC G_hit) (.refl _)
theorem Km(p1 r)(h:Bu p1=some r):PCall prog 121 [.list (List.map J5 p1)] (.list (List.map J5 r)):=by
  have hr:r=p1:=by obtain ⟨_,rfl⟩:=Mf h;rfl
  subst hr
  cases r with
  |cons x xs=>exact Iu (x::xs) _ h (fun _=>rfl) fun _=>M0 (fun _=>rfl)
  |nil=>
   refine PCall.nil fun A cap=> ?_
   cases A with
   |some A=>exact Iu [] (.v (.slice (some A) 0 cap)) h (fun _=>rfl) fun _=>rfl
   |none=>
    refine C0 (fk func121 ntmps121 m0 (by with_unfolding_all rfl)) (Nat.le_of_ble_eq_true W) ?_
    refine (B5 (s0:=⟨T [(0, .d (.v (.slice none 0 cap)))],G []⟩) (D2 ⟨.of W,trivial⟩ trivial) ?_)
    refine A4 ?_
    refine Be fun _ _=> ?_
    refine B9 (.d .nilS) W W ?_
    refine A1 ?_
    refine A4 ?_
    refine A4 ?_
    refine Be fun _ _=> ?_
    refine B9 (.d _) W W ?_
    refine B9 (.d (bo true)) W W ?_
    refine A1 ?_
    refine Tb W ?_
    refine A4 ?_
    refine Be fun _ _=> ?_
    refine B9 (.d .nilS) W W ?_
    refine A1 ?_
    refine B2 ?_
    exact A7 (.inr W) (B4 (B3 W) B8) .nil
def Pl (p1:List Int):Option (List Int):=Fk [] p1
theorem Kn (p1:List Int)(a0:D)(hl:Fk ([]:List Int) p1=some p1)(hn: ∀h,K0 (T [(3, .d a0),(2, .d .nilS),(0, .d a0)]) h (.isnil false (.t 3))=some (.d (bo false)))(he: ∀h,Ad h 1 (.d a0)=some (List.map A5 p1)):
    PCall prog 178 [a0] (.list (List.map A5 p1)):=by
  refine C0 (fk func178 ntmps178 m0 (by with_unfolding_all rfl)) (Nat.le_of_ble_eq_true W) ?_
  refine (B5 (s0:=⟨T [(0, .d a0)],G []⟩) (D2 ⟨.of W,trivial⟩ trivial) ?_)
  refine A4 ?_
  refine Be fun _ _=> ?_
  refine B9 (.d .nilS) W W ?_
  refine A1 ?_
  refine A4 ?_
  refine A4 ?_
  refine Be fun _ _=> ?_
  refine B9 (.d a0) W W ?_
  refine B9 (.d (bo false)) W (hn _) ?_
  refine A1 ?_
  refine Qt W ?_
  refine A8 ?_
  refine A4 ?_
  refine Be fun _ _=> ?_
  refine Pf (.sl _) (.arr 3 1 (List.map A5 ([]:List Int))) W W ?_
  refine B9 (.d a0) W W ?_
  refine Xt A5 _ [] p1 _ (he _) W G_hit hl ?_
  refine B9 (.sl _) W W ?_
  refine A1 ?_
  refine B2 ?_
  exact A7 (.inr W) (B4 (B3 W)<|QC G_hit) (.refl _)
theorem Uj(p1 r)(h:Pl p1=some r):PCall prog 178 [.list (List.map A5 p1)] (.list (List.map A5 r)):=by
  have hr:r=p1:=by obtain ⟨_,rfl⟩:=Mf h;rfl
  subst hr
  cases r with
  |cons x xs=>exact Kn (x::xs) _ h (fun _=>rfl) fun _=>M0 (fun _=>rfl)
  |nil=>
   refine PCall.nil fun A cap=> ?_
   cases A with
   |some A=>exact Kn [] (.v (.slice (some A) 0 cap)) h (fun _=>rfl) fun _=>rfl
   |none=>
    refine C0 (fk func178 ntmps178 m0 (by with_unfolding_all rfl)) (Nat.le_of_ble_eq_true W) ?_
    refine (B5 (s0:=⟨T [(0, .d (.v (.slice none 0 cap)))],G []⟩) (D2 ⟨.of W,trivial⟩ trivial) ?_)
    refine A4 ?_
    refine Be fun _ _=> ?_
    refine B9 (.d .nilS) W W ?_
    refine A1 ?_
    refine A4 ?_
    refine A4 ?_
    refine Be fun _ _=> ?_
    refine B9 (.d _) W W ?_
    refine B9 (.d (bo true)) W W ?_
    refine A1 ?_
    refine Tb W ?_
    refine A4 ?_
    refine Be fun _ _=> ?_
    refine B9 (.d .nilS) W W ?_
    refine A1 ?_
    refine B2 ?_
    exact A7 (.inr W) (B4 (B3 W) B8) .nil
def Ja (p1:Agent):Option Agent:=
  (Pl p1.Route).bind fun v1=>some (Agent.mk v1 p1.S p1.V p1.Len p1.Begin p1.Obey p1.Gone)
theorem Nc(p1 r)(h:Ja p1=some r):PCall prog 87 [(.agg (E4 p1))] (.agg (E4 r)):=by
 refine C0 (fk func87 ntmps87 m0 (by with_unfolding_all rfl)) (nl W) ?_
 unfold Ja at h
 refine B5 (s0:=⟨T [(0,(.d _))],G []⟩) (E3 W W) ?_
 refine B1<|sm W<|sn W W<|A1<|B1<|sq W<|sl W (gq W) W (bs h fun v1 hv1 h=>B0 W W A2 (Uj _ _ hv1) (.inl W) (sq W<|Q4 W (gq W) ((W9 p1).set 0 (dl A5 v1)) W (A1<|B1<|sd W (A6 W G_hit W W)<|Q4 W (gq W) ((W9 p1).set 0 (dl A5 v1)) W (A1<|B2 ?_))))
 cases h
 exact A7 (.inr W) (B4 (G5 W G_hit (nl W) W) B8) (.refl _)
def Tm (p1:State)(x1:(Int×State)):Option (Stp (Int×State) State):=
  cond (decide (x1.1< (p1.Agents.length:Int))) ((C8 p1.Agents x1.1).bind fun v2=>(Ja v2).bind fun v3=>(Fk x1.2.Agents [v3]).bind fun v4=>some (.go ((C9 (x1.1+1)),(State.mk x1.2.Tick v4 x1.2.In)))) (some (.out x1.2))
def Lz [Lp](p1:State):Option State:=
  (Bu p1.In).bind fun v1=>(loop (Tm p1) (0,(State.mk p1.Tick [] v1))).bind fun y1=>some y1
theorem Zw(p1 r)(h:Lz p1=some r):PCall prog 56 [(.agg (U5 p1))] (.agg (U5 r)):=by
 refine C0 (fk func56 ntmps56 (fun r=>if r==5 then [1004]else []) (by with_unfolding_all rfl)) (nl W) ?_
 unfold Lz at h
 refine B5 (s0:=⟨T [(0,(.d _))],G []⟩) (E3 W W) ?_
 refine lr<|fun u1 _=>sm W<|sm W<|A1<|A4<|Fj W fun u2 _=>sq W<|sl W (gq W) W (sq W<|sl W (gq W) W (bs h fun v1 hv1 h=>B0 W W A2 (Km _ _ hv1) (.inl W) (sv W<|sm W<|Q4 W G_hit [(di p1.Tick),(.d .nilS),(dl J5 v1)] W (A1<|A4<|B1<|sq W<|sl W (gq W) W (sd W (D0 W)<|sv W<|A1<|bs h fun y1 hy1 h=>D3 (fun s=> ∃g1:Nat,Sb ⟨T [(2,(.ptr (2,u1) 0)),(3,(.ptr (3,u2) 0))],G [((2,u1),some<|.box 25 [(di 0),(.d .nilS),(.d .nilS)]),((3,u2),some<|.box 25 [(di y1.Tick),(oS y1.Agents (24,g1)),(dl J5 y1.In)]),((24,g1),oB 45 7 E4 y1.Agents)]⟩ s) ?_ ?_)))))
 refine A9<|D7 (Tm p1) (fun (x1:(Int×State)) (g2:Nat)=>⟨T [(2,(.ptr (2,u1) 0)),(3,(.ptr (3,u2) 0)),(13,(dl E4 p1.Agents)),(14,(di (p1.Agents.length:Int))),(15,(di x1.1))],G [((2,u1),some<|.box 25 [(di 0),(.d .nilS),(.d .nilS)]),((3,u2),some<|.box 25 [(di x1.2.Tick),(oS x1.2.Agents (24,g2)),(dl J5 x1.2.In)]),((24,g2),oB 45 7 E4 x1.2.Agents)]⟩) (0,(State.mk p1.Tick [] v1)) 0 _ hy1 (D2 (X5 W)<|sg W<|B6 G_hit (.of W)<|O9 trivial) ?_
 intro x1 g2 z1 hz1 ez1
 unfold Tm at hz1
 refine B1<|sv W<|A1<|A4<|cc W hz1 (fun c1 hz1=> ?_)<|fun c1 hz1=> ?_
 refine A8<|A4<|A9<|B1<|bs hz1 fun v2 hv2 hz1=>sd W (C5 W W hv2 W)<|sd W (C7 W hv2 W W)<|sm W<|Q4 W G_hit (W9 v2) W (A1<|Fj W fun u6 _=>sq W<|B9 (oS x1.2.Agents (24,g2)) W (N8 W (gq W) W) (sd W (A6 W G_hit W W)<|bs hz1 fun v3 hv3 hz1=>B0 W W A2 (Nc _ _ hv3) (.inl W) (B9 (dl E4 [v3]) W W (bs hz1 fun _ hv4 hz1=>O1 E4 (24,g2) x1.2.Agents v3 [] _ (M0<|fun _=>W) W (gq W) hv4 (sq W<|Q4 W (gq W) [(di x1.2.Tick),(.sl (24,u6)),(dl J5 x1.2.In)] W (A1<|D4<|C1<|sv W<|sv W<|A1<|D6 ?_))))))
 cases hz1
 exact ⟨W,u6,(D2 (X5 W)<|sg W<|B6 G_hit (.box (cv<|.cons (.of (S5<|T0 hv4).symm) cw))<|L9 (gq W) trivial)⟩
 refine C6 W ?_
 cases hz1
 obtain rfl:=ez1 _ rfl
 refine ⟨nofun,C3 W<|T4 ?_⟩
 exact ⟨g2,(D2 (X5 W)<|B6 G_hit (.of W)<|sg W<|B7 (gq W) trivial)⟩
 rintro _ ⟨g1,q1⟩
 refine B5 q1<|B1<|B9 (Y6 [(di y1.Tick),(oS y1.Agents (24,g1)),(dl J5 y1.In)]) W (A6 W (gq W) W W) (Ll _ _ _ _ _ (X4 _) W W G_hit (nl W) [(di y1.Tick),(oS y1.Agents (24,g1)),(dl J5 y1.In)] W (A1<|B2 ?_))
 cases h
 exact A7 (.inr W) (B4 (G5 W G_hit (nl W) W)<|Mz<|rD<|E0 (U4<|gq W)<|rD F0) (.agg (ca W<|.cons ⟨U3,W⟩ (cz W)))
def Aq (p1:Int)(p2:Int)(p3:Int):Option Bool:=
  some ((decide (p2≤p1))&& (decide (p1≤p3)))
theorem Bj(p1 p2 p3 r)(h:Aq p1 p2 p3=some r):PCall prog 209 [(i64 p1),(i64 p2),(i64 p3)] (bo r):=by
 refine C0 (fk func209 ntmps209 m0 (by with_unfolding_all rfl)) (nl W) ?_
 unfold Aq at h
 refine B5 (s0:=⟨T [(0,(.d _)),(1,(.d _)),(2,(.d _))],G []⟩) (E3 W W) ?_
 refine B1<|sv W<|A1<|B1<|sv W<|sv W<|sv W<|sv W<|gt W (fun _=>W)<|gt W (fun _=>W)<|gt W (fun w3=>(L4 (A3 w3) (A3 w3) W))<|sa W W W<|sv W<|A1<|B2 ?_
 cases h
 exact A7 (.inr W) (B4 (B3 W) B8) (.refl _)
def Z5 (p1:RoadsCheck):Option Int:=
  (Aq p1.Map_.Version 0 1099511627776).bind fun v1=>cond (!v1) (some 2) (cond ((p1.Map_.Lanes.length:Int)==0) (some 6) (cond ((((decide ((p1.Map_.Lanes.length:Int)>12))||(decide ((p1.Map_.Zones.length:Int)>12)))||(decide ((p1.Map_.Signals.length:Int)>4)))||(decide ((p1.Map_.Works.length:Int)>8))) (some 8) (some 0)))
theorem Ve(p1 r)(h:Z5 p1=some r):PCall prog 148 [(.agg (O8 p1.Map_))] (i64 r):=by
 refine C0 (fk func148 ntmps148 m0 (by with_unfolding_all rfl)) (nl W) ?_
 unfold Z5 at h
 refine B5 (s0:=⟨T [(0,(.d _))],G []⟩) (E3 W W) ?_
 refine B1<|sm W<|sv W<|A1<|A4<|A9<|B1<|sq W<|sp W W<|sl W G_hit W<|bs h fun v1 hv1 h=>B0 W W A2 (Bj _ _ _ _ hv1) (.inl W) (B9 (.d (bo (!v1))) W W (sv W<|A1<|cc W h (fun c1 h=> ?_)<|fun c1 h=> ?_))
 refine B1<|sv W<|A1<|B2 ?_
 cases h
 exact A7 (.inr W) (B4 (B3 W) B8) (.refl _)
 refine B1<|sq W<|sp W W<|sl W G_hit W<|sd W (D0 W)<|sv W<|sv W<|A1<|cc W h (fun c2 h=> ?_)<|fun c2 h=> ?_
 refine B1<|sv W<|A1<|B2 ?_
 cases h
 exact A7 (.inr W) (B4 (B3 W) B8) (.refl _)
 refine B1<|sq W<|sp W W<|sl W G_hit W<|sd W (D0 W)<|sv W<|sv W<|gp W (H8 W) (fun _=>W) ?_
 refine M5 _ (.ptr _ _) W (H8 W) (fun w2=>(by simp only [A3 w2];rfl)) ?_
 refine gf W (vl W G_hit W)<|gf W (fun w4=>(D0<|A3 w4))<|gf W (vb W W W)<|sd W (L8 W W<|fun hc=>A3<|G0 hc)<|sv W<|gp W (H8 W) (fun _=>W) ?_
 refine M5 _ (.ptr _ _) W (H8 W) (fun w7=>(by simp only [A3 w7];rfl)) ?_
 refine gf W (vl W G_hit W)<|gf W (fun w9=>(D0<|A3 w9))<|gf W (vb W W W)<|sd W (L8 W W<|fun hc=>A3<|G0 hc)<|sv W<|gp W (H8 W) (fun _=>W) ?_
 refine M5 _ (.ptr _ _) W (H8 W) (fun w12=>(by simp only [A3 w12];rfl)) ?_
 refine gf W (vl W G_hit W)<|gf W (fun w14=>(D0<|A3 w14))<|gf W (vb W W W)<|sd W (L8 W W<|fun hc=>A3<|G0 hc)<|sv W<|A1<|cc W h (fun c3 h=> ?_)<|fun c3 h=> ?_
 refine B1<|sv W<|A1<|B2 ?_
 cases h
 exact A7 (.inr W) (B4 (B3 W) B8) (.refl _)
 refine A8<|D4<|B1<|sv W<|A1<|B2 ?_
 cases h
 exact A7 (.inr W) (B4 (B3 W) B8) (.refl _)
def Ec (p1:Int):Option (Int×Int×Int):=
  cond ((decide (p1<0))||(decide (p1≥4))) (some (0,0,0)) ((C8 ([(0,0,0),(2000,30,90),(1000,20,60),(300,100,300)]:List (Int×Int×Int)) p1).bind fun v1=>some (v1.1,v1.2.1,v1.2.2))
theorem Lq(p1 r)(h:Ec p1=some r):PCall prog 157 [(i64 p1)] (.tup [(i64 r.1),(i64 r.2.1),(i64 r.2.2)]):=by
 refine C0 (fk func157 ntmps157 m0 (by with_unfolding_all rfl)) (nl W) ?_
 unfold Ec at h
 refine B5 (s0:=⟨T [(0,(.d _))],G []⟩) (E3 W W) ?_
 refine B1<|sv W<|sv W<|sv W<|A1<|B1<|sv W<|sv W<|sv W<|sv W<|sm W<|Q4 W G_hit [(di 0),(di 0),(di 0),(di 2000),(di 30),(di 90),(di 1000),(di 20),(di 60),(di 300),(di 100),(di 300)] W (A1<|A4<|B1<|sv W<|sv W<|sv W<|gf W (fun _=>W)<|gf W (vb W W W)<|sd W (L8 W W<|fun hc=>A3<|G0 hc)<|A1<|cc W h (fun c1 h=> ?_)<|fun c1 h=> ?_)
 refine B1<|sv W<|sv W<|sv W<|A1<|B2 ?_
 cases h
 exact A7 (.inr W) (Ta (B3 W) (B3 W) (B3 W) B8 B8 B8) (.refl _)
 refine A8<|B1<|sv W<|bs h fun v1 hv1 h=>sp W (fS W W hv1 W)<|sd W (cG (f:=kJ) W G_hit hv1 (fun _=>W) W W)<|sm W<|Q4 W G_hit [(di v1.1),(di v1.2.1),(di v1.2.2)] W (A1<|A4<|D5 W<|sq W<|sl W G_hit W<|sq W<|sl W G_hit W<|sq W<|sl W G_hit W<|sv W<|sv W<|sv W<|A1<|B2 ?_)
 cases h
 exact A7 (.inr W) (Ta (B3 W) (B3 W) (B3 W) B8 B8 B8) (.refl _)
def Ep (p1:(List Spot))(x1:Int):Option (Stp Int (Sum Unit Bool)):=
  cond (decide (x1< (p1.length:Int))) ((C8 p1 x1).bind fun v1=>cond ((decide ((He false v1.X v1.Y)< (-16777216)))||(decide ((He true v1.X v1.Y)>16777216))) (some (.out (.inr false))) (some (.go (C9 (x1+1))))) (some (.out (.inl ())))
def Bk [Lp](p1:(List Spot)):Option Bool:=
  thenS (loop (Ep p1) 0) (fun _=>some true) (fun r=>some r)
theorem Kw(p1 r)(h:Bk p1=some r):PCall prog 237 [(.list (List.map Q3 p1))] (bo r):=by
 refine C0 (fk func237 ntmps237 m0 (by with_unfolding_all rfl)) (nl W) ?_
 unfold Bk at h
 refine B5 (s0:=⟨T [(0,(.d _))],G []⟩) (E3 W W) ?_
 refine B1<|sv W<|A1<|A4<|B1<|sv W<|sd W (D0 W)<|sv W<|A1<|js h fun z1 hz1 h=>D3 (fun s=> ∃(y1:Unit) (g1:Unit),z1= .inl y1∧Sb ⟨T [],G []⟩ s) ?_ ?_
 refine A9<|D7 (Ep p1) (fun (x1:Int) (g2:Unit)=>⟨T [(5,(dl Q3 p1)),(6,(di (p1.length:Int))),(7,(di x1))],G []⟩) 0 () _ hz1 (E3 W W) ?_
 intro x1 g2 z2 hz2 ez2
 unfold Ep at hz2
 refine B1<|sv W<|A1<|A4<|cc W hz2 (fun c1 hz2=> ?_)<|fun c1 hz2=> ?_
 refine A8<|A4<|A9<|B1<|bs hz2 fun v1 hv1 hz2=>sd W (C5 W W hv1 W)<|sd W (C7 W hv1 W W)<|sm W<|Q4 W G_hit [(di v1.X),(di v1.Y)] W (A1<|B1<|sq W<|sl W G_hit W<|sq W<|sl W G_hit W<|sv W<|sv W<|sv W<|gp W (H8 W) (fun _=>W) (gf W (vl W G_hit W)<|gp W (H8 W) (fun _=>W) (gf W (vl W G_hit W) ?_)))
 refine gf W (fun w5=>(by simp only [A3 w5];rfl)) ?_
 refine gf W (vb W W W)<|sd W (L8 W W<|fun hc=>A3<|G0 hc)<|A1<|cc W hz2 (fun c2 hz2=> ?_)<|fun c2 hz2=> ?_
 refine B1<|sv W<|A1<|B2 ?_
 cases hz2
 obtain rfl:=ez2 _ rfl
 refine ⟨nofun,E5 ?_⟩
 rw [bT]at h
 cases h
 exact A7 (.inr W) (B4 (B3 W) B8) (.refl _)
 refine A8<|D4<|C1<|sv W<|sv W<|A1<|D6 ?_
 cases hz2
 exact ⟨W,(),(E3 W W)⟩
 refine C6 W ?_
 cases hz2
 obtain rfl:=ez2 _ rfl
 refine ⟨nofun,C3 W<|T4 ?_⟩
 exact ⟨_,(),W,(E3 W W)⟩
 rintro _ ⟨y1,g1,rfl,q1⟩
 rw [bS]at h
 refine B5 q1<|B1<|sv W<|A1<|B2 ?_
 cases h
 exact A7 (.inr W) (B4 (B3 W) B8) (.refl _)
def Gq (p1:Spot)(p2:Spot):Option CurveVector:=
  some (CurveVector.mk (C9 (p2.X - p1.X)) (C9 (p2.Y - p1.Y)))
theorem Kx(p1 p2 r)(h:Gq p1 p2=some r):PCall prog 238 [(.agg [(i64 p1.X),(i64 p1.Y)]),(.agg [(i64 p2.X),(i64 p2.Y)])] (.agg [(i64 r.x),(i64 r.y)]):=by
 refine C0 (fk func238 ntmps238 m0 (by with_unfolding_all rfl)) (nl W) ?_
 unfold Gq at h
 refine B5 (s0:=⟨T [(0,(.d _)),(1,(.d _))],G []⟩) (E3 W W) ?_
 refine B1<|sm W<|sn W W<|sm W<|A1<|B1<|sq W<|sl W (gq W) W (sq W<|sl W (gq W) W (sv W<|sq W<|sl W (gq W) W (sq W<|sl W (gq W) W (sv W<|sv W<|Q4 W G_hit [(di<|C9 (p2.X - p1.X)),(di<|C9 (p2.Y - p1.Y))] W (A1<|B2 ?_)))))
 cases h
 exact A7 (.inr W) (B4 (G5 W G_hit (nl W) W) B8) (.refl _)
def Y1 (p1:CurveVector)(p2:CurveVector):Option Int:=
  some (C9 ((C9 (p1.x*p2.x))+ (C9 (p1.y*p2.y))))
theorem Fg(p1 p2 r)(h:Y1 p1 p2=some r):PCall prog 240 [(.agg [(i64 p1.x),(i64 p1.y)]),(.agg [(i64 p2.x),(i64 p2.y)])] (i64 r):=by
 refine C0 (fk func240 ntmps240 m0 (by with_unfolding_all rfl)) (nl W) ?_
 unfold Y1 at h
 refine B5 (s0:=⟨T [(0,(.d _)),(1,(.d _))],G []⟩) (E3 W W) ?_
 refine B1<|sm W<|sn W W<|sv W<|A1<|B1<|sq W<|sl W (gq W) W (sq W<|sl W G_hit W<|sv W<|sq W<|sl W (gq W) W (sq W<|sl W G_hit W<|sv W<|sv W<|sv W<|A1<|B2 ?_))
 cases h
 exact A7 (.inr W) (B4 (B3 W) B8) (.refl _)
def Ky (p1:Int)(x1:(Int×Int)):Option (Stp (Int×Int) Int):=
  cond (decide (x1.1<x1.2)) (cond (decide ((C9 ((C9 ((C9 (x1.1+x1.2)).tdiv 2))* (C9 ((C9 (x1.1+x1.2)).tdiv 2))))<p1)) (some (.go ((C9 ((C9 ((C9 (x1.1+x1.2)).tdiv 2))+1)),x1.2))) (some (.go (x1.1,(C9 ((C9 (x1.1+x1.2)).tdiv 2)))))) (some (.out x1.1))
def Er [Lp](p1:Int):Option (Int×Bool):=
  (loop (Ky p1) (0,67108864)).bind fun y1=>some (y1,((C9 (y1*y1))==p1))
theorem Zx(p1 r)(h:Er p1=some r):PCall prog 239 [(i64 p1)] (.tup [(i64 r.1),(bo r.2)]):=by
 refine C0 (fk func239 ntmps239 m0 (by with_unfolding_all rfl)) (nl W) ?_
 unfold Er at h
 refine B5 (s0:=⟨T [(0,(.d _))],G []⟩) (E3 W W) ?_
 refine B1<|sv W<|sv W<|A1<|B1<|sv W<|sv W<|A1<|A4<|bs h fun y1 hy1 h=>D3 (fun s=> ∃g1:Unit,Sb ⟨T [(0,(di p1)),(4,(di y1))],G []⟩ s) ?_ ?_
 refine A9<|D7 (Ky p1) (fun (x1:(Int×Int)) (g2:Unit)=>⟨T [(0,(di p1)),(4,(di x1.1)),(5,(di x1.2))],G []⟩) (0,67108864) () _ hy1 (E3 W W) ?_
 intro x1 g2 z1 hz1 ez1
 unfold Ky at hz1
 refine A4<|B1<|sv W<|sv W<|sv W<|A1<|cc W hz1 (fun c1 hz1=> ?_)<|fun c1 hz1=> ?_
 refine A8<|A9<|B1<|sv W<|sv W<|sv W<|sv W<|sv W<|A1<|B1<|sv W<|sv W<|sv W<|sv W<|sv W<|A1<|cc W hz1 (fun c2 hz1=> ?_)<|fun c2 hz1=> ?_
 refine C1<|sv W<|sv W<|sv W<|A1<|D4<|D6 ?_
 cases hz1
 exact ⟨W,(),(E3 W W)⟩
 refine C1<|sv W<|sv W<|A1<|D4<|D6 ?_
 cases hz1
 exact ⟨W,(),(E3 W W)⟩
 refine C6 W ?_
 cases hz1
 obtain rfl:=ez1 _ rfl
 refine ⟨nofun,C3 W<|T4 ?_⟩
 exact ⟨(),(E3 W W)⟩
 rintro _ ⟨g1,q1⟩
 refine B5 q1<|B1<|sv W<|sv W<|sv W<|sv W<|sv W<|sv W<|sv W<|sv W<|A1<|B2 ?_
 cases h
 exact A7 (.inr W) (Iz (B3 W) (B3 W) B8 B8) (.refl _)
def X0 [Lp](p1:Curve)(x1:(Int×CurveVector)):Option (Stp (Int×CurveVector) (Sum Unit Int)):=
  cond (decide (x1.1< (C9 ((p1.Pts.length:Int) - 1)))) ((C8 p1.Pts x1.1).bind fun v2=>(C8 p1.Pts (C9 (x1.1+1))).bind fun v3=>(Gq v2 v3).bind fun v4=>(Y1 v4 v4).bind fun v5=>(Er v5).bind fun v6=>cond (!v6.2) (some (.out (.inr 3))) (cond ((decide (v6.1<1000))||(decide (v6.1>1048576))) (some (.out (.inr 2))) (((cond (decide (x1.1>0)) (Y1 x1.2 v4) (some default))).bind fun v7=>cond ((decide (x1.1>0))&& (decide (v7≤0))) (some (.out (.inr 12))) (some (.go ((C9 (x1.1+1)),v4)))))) (some (.out (.inl ())))
def Cc [Lp](p1:Curve):Option Int:=
  cond (decide ((p1.Pts.length:Int)<2)) (some 6) (cond (decide ((p1.Pts.length:Int)>16)) (some 5) ((Bk p1.Pts).bind fun v1=>cond (!v1) (some 2) (thenS (loop (X0 p1) (0,(CurveVector.mk 0 0))) (fun _=>some 0) (fun r=>some r))))
theorem Ru(p1 r)(h:Cc p1=some r):PCall prog 198 [(.agg [(.list (List.map Q3 p1.Pts))])] (i64 r):=by
 refine C0 (fk func198 ntmps198 m0 (by with_unfolding_all rfl)) (nl W) ?_
 unfold Cc at h
 refine B5 (s0:=⟨T [(0,(.d _))],G []⟩) (E3 W W) ?_
 refine lr<|fun u1 _=>sm W<|sv W<|A1<|A4<|A9<|B1<|sq W<|sl W G_hit W<|sd W (D0 W)<|sv W<|sv W<|A1<|cc W h (fun c1 h=> ?_)<|fun c1 h=> ?_
 refine B1<|sv W<|A1<|B2 ?_
 cases h
 exact A7 (.inr W) (B4 (B3 W) B8) (.refl _)
 refine B1<|sq W<|sl W G_hit W<|sd W (D0 W)<|sv W<|sv W<|A1<|cc W h (fun c2 h=> ?_)<|fun c2 h=> ?_
 refine B1<|sv W<|A1<|B2 ?_
 cases h
 exact A7 (.inr W) (B4 (B3 W) B8) (.refl _)
 refine B1<|sq W<|sl W G_hit W<|bs h fun v1 hv1 h=>B0 W W A2 (Kw _ _ hv1) (.inl W) (B9 (.d (bo (!v1))) W W (sv W<|A1<|cc W h (fun c3 h=> ?_)<|fun c3 h=> ?_))
 refine B1<|sv W<|A1<|B2 ?_
 cases h
 exact A7 (.inr W) (B4 (B3 W) B8) (.refl _)
 refine A8<|D4<|lr<|fun u8 _=>sm W<|A1<|A4<|B1<|sq W<|sl W (gq W) W (sd W (D0 W)<|sv W<|sv W<|A1<|js h fun z1 hz1 h=>D3 (fun s=> ∃(y1:Unit) (g1:Unit),z1= .inl y1∧Sb ⟨T [],G []⟩ s) ?_ ?_)
 refine A9<|D7 (X0 p1) (fun (x1:(Int×CurveVector)) (g2:Unit)=>⟨T [(1,(.ptr (1,u1) 0)),(3,(.ptr (3,u8) 0)),(26,(di<|C9 ((p1.Pts.length:Int) - 1))),(27,(di x1.1))],G [((1,u1),some<|.box 61 [(dl Q3 p1.Pts)]),((3,u8),some<|.box 253 [(di x1.2.x),(di x1.2.y)])]⟩) (0,(CurveVector.mk 0 0)) () _ hz1 (E3 W W) ?_
 intro x1 g2 z2 hz2 ez2
 unfold X0 at hz2
 refine B1<|sv W<|A1<|A4<|cc W hz2 (fun c4 hz2=> ?_)<|fun c4 hz2=> ?_
 refine A8<|A4<|A9<|B1<|sv W<|sv W<|A1<|A4<|D5 W<|sq W<|sl W G_hit W<|sv W<|bs hz2 fun _ hv2 hz2=>sd W (C5 W W hv2 W)<|sd W (C7 W hv2 W W)<|sq W<|sl W G_hit W<|sv W<|sv W<|bs hz2 fun _ hv3 hz2=>sd W (C5 W W hv3 W)<|sd W (C7 W hv3 W W)<|bs hz2 fun v4 hv4 hz2=>B0 W W A2 (Kx _ _ _ hv4) (.inl W) (sm W<|Q4 W G_hit [(di v4.x),(di v4.y)] W (A1<|B1<|sd W (A6 W G_hit W W)<|sd W (A6 W G_hit W W)<|bs hz2 fun _ hv5 hz2=>B0 W W A2 (Fg _ _ _ hv5) (.inl W) (bs hz2 fun v6 hv6 hz2=>B0 W W A2 (Zx _ _ hv6) (.inl W) (sv W<|sv W<|sv W<|sv W<|sv W<|A1<|A4<|A9<|B1<|sv W<|B9 (.d (bo (!v6.2))) W W (sv W<|A1<|cc W hz2 (fun c5 hz2=> ?_)<|fun c5 hz2=> ?_)))))
 refine B1<|sv W<|A1<|B2 ?_
 cases hz2
 obtain rfl:=ez2 _ rfl
 refine ⟨nofun,E5 ?_⟩
 rw [bT]at h
 cases h
 exact A7 (.inr W) (B4 (B3 W) B8) (.refl _)
 refine B1<|sv W<|sv W<|sv W<|gf W (fun _=>W)<|gf W (vb W W W)<|sd W (L8 W W<|fun hc=>A3<|G0 hc)<|sv W<|A1<|cc W hz2 (fun c6 hz2=> ?_)<|fun c6 hz2=> ?_
 refine B1<|sv W<|A1<|B2 ?_
 cases hz2
 obtain rfl:=ez2 _ rfl
 refine ⟨nofun,E5 ?_⟩
 rw [bT]at h
 cases h
 exact A7 (.inr W) (B4 (B3 W) B8) (.refl _)
 refine B1<|sv W<|sv W<|sv W<|gt W (fun _=>(A6 W (gq W) W W))<|gt W (fun _=>(A6 W G_hit W W))<|bs hz2 fun v7 hv7 hz2=> ?_
 refine I9 _ (i64 v7) (I8 W) (fun w5=>⟨_,[(.d (.agg [(i64 x1.2.x),(i64 x1.2.y)])),(.d (.agg [(i64 v4.x),(i64 v4.y)]))],_,_,(by simp only [A3 w5];rfl),W,A2,Fg _ _ _<|C2 w5 hv7,(.inl W)⟩) ?_
 refine gt W (vb W W W)<|sa W W W<|sv W<|A1<|cc W hz2 (fun c7 hz2=> ?_)<|fun c7 hz2=> ?_
 refine B1<|sv W<|A1<|B2 ?_
 cases hz2
 obtain rfl:=ez2 _ rfl
 refine ⟨nofun,E5 ?_⟩
 rw [bT]at h
 cases h
 exact A7 (.inr W) (B4 (B3 W) B8) (.refl _)
 refine A8<|D4<|C1<|sd W (A6 W G_hit W W)<|Q4 W (gq W) [(di v4.x),(di v4.y)] W (A1<|D4<|C1<|sv W<|sv W<|A1<|D6 ?_)
 cases hz2
 exact ⟨W,(),(E3 W W)⟩
 refine C6 W ?_
 cases hz2
 obtain rfl:=ez2 _ rfl
 refine ⟨nofun,C3 W<|T4 ?_⟩
 exact ⟨_,(),W,(E3 W W)⟩
 rintro _ ⟨y1,g1,rfl,q1⟩
 rw [bS]at h
 refine B5 q1<|B1<|sv W<|A1<|B2 ?_
 cases h
 exact A7 (.inr W) (B4 (B3 W) B8) (.refl _)
def Bl (p1:(List Int))(p3:Int)(x1:(Int×Int)):Option (Stp (Int×Int) (Sum Unit Bool)):=
  cond (decide (x1.2< (p1.length:Int))) ((C8 p1 x1.2).bind fun v1=>cond ((decide (v1<x1.1))||(decide (v1≥p3))) (some (.out (.inr false))) (some (.go ((C9 (v1+1)),(C9 (x1.2+1)))))) (some (.out (.inl ())))
def Ar [Lp](p1:(List Int))(p2:Int)(p3:Int):Option Bool:=
  thenS (loop (Bl p1 p3) (p2,0)) (fun _=>some true) (fun r=>some r)
theorem Pz(p1 p2 p3 r)(h:Ar p1 p2 p3=some r):PCall prog 210 [(.list (List.map A5 p1)),(i64 p2),(i64 p3)] (bo r):=by
 refine C0 (fk func210 ntmps210 m0 (by with_unfolding_all rfl)) (nl W) ?_
 unfold Ar at h
 refine B5 (s0:=⟨T [(0,(.d _)),(1,(.d _)),(2,(.d _))],G []⟩) (E3 W W) ?_
 refine B1<|sv W<|A1<|A4<|B1<|sv W<|sd W (D0 W)<|sv W<|A1<|js h fun z1 hz1 h=>D3 (fun s=> ∃(y1:Unit) (g1:Unit),z1= .inl y1∧Sb ⟨T [],G []⟩ s) ?_ ?_
 refine A9<|D7 (Bl p1 p3) (fun (x1:(Int×Int)) (g2:Unit)=>⟨T [(1,(di x1.1)),(2,(di p3)),(9,(dl A5 p1)),(10,(di (p1.length:Int))),(11,(di x1.2))],G []⟩) (p2,0) () _ hz1 (E3 W W) ?_
 intro x1 g2 z2 hz2 ez2
 unfold Bl at hz2
 refine B1<|sv W<|A1<|A4<|cc W hz2 (fun c1 hz2=> ?_)<|fun c1 hz2=> ?_
 refine A8<|A4<|A9<|B1<|bs hz2 fun _ hv1 hz2=>sd W (C5 W W hv1 W)<|sd W (D1 W hv1 W)<|sv W<|A1<|A4<|B1<|sv W<|sv W<|sv W<|sv W<|gf W (fun _=>W)<|gf W (fun _=>W)<|gf W (fun w3=>(L4 (A3 w3) (A3 w3) W))<|sd W (L8 W W<|fun hc=>A3<|G0 hc)<|A1<|cc W hz2 (fun c2 hz2=> ?_)<|fun c2 hz2=> ?_
 refine B1<|sv W<|A1<|B2 ?_
 cases hz2
 obtain rfl:=ez2 _ rfl
 refine ⟨nofun,E5 ?_⟩
 rw [bT]at h
 cases h
 exact A7 (.inr W) (B4 (B3 W) B8) (.refl _)
 refine A8<|C1<|sv W<|sv W<|sv W<|A1<|D4<|C1<|sv W<|sv W<|A1<|D6 ?_
 cases hz2
 exact ⟨W,(),(E3 W W)⟩
 refine C6 W ?_
 cases hz2
 obtain rfl:=ez2 _ rfl
 refine ⟨nofun,C3 W<|T4 ?_⟩
 exact ⟨_,(),W,(E3 W W)⟩
 rintro _ ⟨y1,g1,rfl,q1⟩
 rw [bS]at h
 refine B5 q1<|B1<|sv W<|A1<|B2 ?_
 cases h
 exact A7 (.inr W) (B4 (B3 W) B8) (.refl _)
def P5 [Lp](p1:RoadsCheck)(x1:Int):Option (Stp Int (Sum Unit Int)):=
  cond (decide (x1< (p1.Map_.Lanes.length:Int))) ((C8 p1.Map_.Lanes x1).bind fun v1=>(Ec v1.Kind).bind fun v2=>cond (v2.1==0) (some (.out (.inr 4))) ((Cc v1.Curve_).bind fun v3=>cond (v3 !=0) (some (.out (.inr v3))) ((Aq v1.Half 200 4000).bind fun v4=>((cond (!(!v4)) (Aq v1.Limit 1 v2.1) (some default))).bind fun v5=>cond ((!v4)||(!v5)) (some (.out (.inr 2))) (cond (decide ((v1.Next.length:Int)>3)) (some (.out (.inr 8))) ((Ar v1.Next (C9 (x1+1)) (p1.Map_.Lanes.length:Int)).bind fun v6=>cond (!v6) (some (.out (.inr 11))) (some (.go (C9 (x1+1))))))))) (some (.out (.inl ())))
def T5 [Lp](p1:RoadsCheck):Option Int:=
  thenS (loop (P5 p1) 0) (fun _=>some 0) (fun r=>some r)
theorem Yd(p1 r)(h:T5 p1=some r):PCall prog 149 [(.agg (O8 p1.Map_))] (i64 r):=by
 refine C0 (fk func149 ntmps149 m0 (by with_unfolding_all rfl)) (nl W) ?_
 unfold T5 at h
 refine B5 (s0:=⟨T [(0,(.d _))],G []⟩) (E3 W W) ?_
 refine lr<|fun u1 _=>sm W<|sv W<|A1<|A4<|B1<|sq W<|sp W W<|sl W G_hit W<|sd W (D0 W)<|sv W<|A1<|js h fun z1 hz1 h=>D3 (fun s=> ∃(y1:Unit) (g1:Unit),z1= .inl y1∧Sb ⟨T [],G []⟩ s) ?_ ?_
 refine A9<|D7 (P5 p1) (fun (x1:Int) (g2:Unit)=>⟨T [(1,(.ptr (1,u1) 0)),(11,(dl Do p1.Map_.Lanes)),(12,(di (p1.Map_.Lanes.length:Int))),(13,(di x1))],G [((1,u1),some<|.box 212 (K7 p1.Map_))]⟩) 0 () _ hz1 (E3 W W) ?_
 intro x1 g2 z2 hz2 ez2
 unfold P5 at hz2
 refine B1<|sv W<|A1<|A4<|cc W hz2 (fun c1 hz2=> ?_)<|fun c1 hz2=> ?_
 refine A8<|A4<|A9<|B1<|sv W<|bs hz2 fun v1 hv1 hz2=>sd W (C5 W W hv1 W)<|sd W (C7 W hv1 W W)<|sm W<|sv W<|Q4 W G_hit (CY v1) W (A1<|B1<|sq W<|sl W G_hit W<|bs hz2 fun v2 hv2 hz2=>B0 W W A2 (Lq _ _ hv2) (.inl W) (sv W<|sv W<|sv W<|sv W<|sv W<|sv W<|sv W<|A1<|A4<|B1<|sv W<|sv W<|A1<|cc W hz2 (fun c2 hz2=> ?_)<|fun c2 hz2=> ?_))
 refine B1<|sv W<|A1<|B2 ?_
 cases hz2
 obtain rfl:=ez2 _ rfl
 refine ⟨nofun,E5 ?_⟩
 rw [bT]at h
 cases h
 exact A7 (.inr W) (B4 (B3 W) B8) (.refl _)
 refine A8<|A4<|B1<|sq W<|sd W (A6 W G_hit W W)<|bs hz2 fun _ hv3 hz2=>B0 W W A2 (Ru _ _ hv3) (.inl W) (sv W<|A1<|B1<|sv W<|sv W<|A1<|cc W hz2 (fun c3 hz2=> ?_)<|fun c3 hz2=> ?_)
 refine B1<|sv W<|sv W<|A1<|B2 ?_
 cases hz2
 obtain rfl:=ez2 _ rfl
 refine ⟨nofun,E5 ?_⟩
 rw [bT]at h
 cases h
 exact A7 (.inr W) (B4 (B3 W) B8) (.refl _)
 refine A8<|A9<|B1<|sq W<|sl W G_hit W<|bs hz2 fun v4 hv4 hz2=>B0 W W A2 (Bj _ _ _ _ hv4) (.inl W) (B9 (.d (bo (!v4))) W W (sv W<|gp W (H8 W) (fun _=>W) (gf W (vl W G_hit W)<|gf W (fun _=>W)<|bs hz2 fun v5 hv5 hz2=> ?_)))
 refine I9 _ (bo v5) (H8 W) (fun w4=>⟨_,[(di v1.Limit),(di 1),(di v2.1)],_,_,(by simp only [A3 w4];rfl),W,A2,Bj _ _ _ _<|C2 w4 hv5,(.inl W)⟩) ?_
 refine M5 _ (.d (bo (!v5))) W (H8 W) (fun w5=>(by simp only [A3 w5];rfl)) ?_
 refine sd W (L8 W W<|fun hc=>A3<|G0 hc)<|sv W<|A1<|cc W hz2 (fun c4 hz2=> ?_)<|fun c4 hz2=> ?_
 refine B1<|sv W<|A1<|B2 ?_
 cases hz2
 obtain rfl:=ez2 _ rfl
 refine ⟨nofun,E5 ?_⟩
 rw [bT]at h
 cases h
 exact A7 (.inr W) (B4 (B3 W) B8) (.refl _)
 refine B1<|sq W<|sl W G_hit W<|sd W (D0 W)<|sv W<|sv W<|A1<|cc W hz2 (fun c5 hz2=> ?_)<|fun c5 hz2=> ?_
 refine B1<|sv W<|A1<|B2 ?_
 cases hz2
 obtain rfl:=ez2 _ rfl
 refine ⟨nofun,E5 ?_⟩
 rw [bT]at h
 cases h
 exact A7 (.inr W) (B4 (B3 W) B8) (.refl _)
 refine B1<|sq W<|sl W G_hit W<|sv W<|sv W<|sq W<|sp W W<|sl W (gq W) W (sd W (D0 W)<|bs hz2 fun v6 hv6 hz2=>B0 W W A2 (Pz _ _ _ _ hv6) (.inl W) (B9 (.d (bo (!v6))) W W (sv W<|A1<|cc W hz2 (fun c6 hz2=> ?_)<|fun c6 hz2=> ?_)))
 refine B1<|sv W<|A1<|B2 ?_
 cases hz2
 obtain rfl:=ez2 _ rfl
 refine ⟨nofun,E5 ?_⟩
 rw [bT]at h
 cases h
 exact A7 (.inr W) (B4 (B3 W) B8) (.refl _)
 refine A8<|D4<|D4<|C1<|sv W<|sv W<|A1<|D6 ?_
 cases hz2
 exact ⟨W,(),(E3 W W)⟩
 refine C6 W ?_
 cases hz2
 obtain rfl:=ez2 _ rfl
 refine ⟨nofun,C3 W<|T4 ?_⟩
 exact ⟨_,(),W,(E3 W W)⟩
 rintro _ ⟨y1,g1,rfl,q1⟩
 rw [bS]at h
 refine B5 q1<|B1<|sv W<|A1<|B2 ?_
 cases h
 exact A7 (.inr W) (B4 (B3 W) B8) (.refl _)
def W3 (p1:RoadsCheck)(v1:Lane)(v2:Spot)(x2:Int):Option (Stp Int (Sum Unit Int)):=
  cond (decide (x2< (v1.Next.length:Int))) ((C8 v1.Next x2).bind fun v3=>(C8 p1.Map_.Lanes v3).bind fun v4=>cond (v4.Kind !=v1.Kind) (some (.out (.inr 4))) ((C8 p1.Map_.Lanes v3).bind fun v5=>(C8 v5.Curve_.Pts 0).bind fun v6=>cond (!(v6.X==v2.X&& (v6.Y==v2.Y&&true))) (some (.out (.inr 3))) (some (.go (C9 (x2+1)))))) (some (.out (.inl ())))
def N9 [Lp](p1:RoadsCheck)(x1:Int):Option (Stp Int (Sum Unit Int)):=
  cond (decide (x1< (p1.Map_.Lanes.length:Int))) ((C8 p1.Map_.Lanes x1).bind fun v1=>(C8 v1.Curve_.Pts (C9 ((v1.Curve_.Pts.length:Int) - 1))).bind fun v2=>thenS (loop (W3 p1 v1 v2) 0) (fun _=>some (.go (C9 (x1+1)))) (fun r=>some (.out (.inr r)))) (some (.out (.inl ())))
def T1 [Lp](p1:RoadsCheck):Option Int:=
  thenS (loop (N9 p1) 0) (fun _=>some 0) (fun r=>some r)
theorem Ws(p1 r)(h:T1 p1=some r):PCall prog 150 [(.agg (O8 p1.Map_))] (i64 r):=by
 refine C0 (fk func150 ntmps150 m0 (by with_unfolding_all rfl)) (nl W) ?_
 unfold T1 at h
 refine B5 (s0:=⟨T [(0,(.d _))],G []⟩) (E3 W W) ?_
 refine lr<|fun u1 _=>sm W<|sv W<|A1<|A4<|B1<|sq W<|sp W W<|sl W G_hit W<|sd W (D0 W)<|sv W<|A1<|js h fun z1 hz1 h=>D3 (fun s=> ∃(y1:Unit) (g1:Unit),z1= .inl y1∧Sb ⟨T [],G []⟩ s) ?_ ?_
 refine A9<|D7 (N9 p1) (fun (x1:Int) (g2:Unit)=>⟨T [(1,(.ptr (1,u1) 0)),(10,(dl Do p1.Map_.Lanes)),(11,(di (p1.Map_.Lanes.length:Int))),(12,(di x1))],G [((1,u1),some<|.box 212 (K7 p1.Map_))]⟩) 0 () _ hz1 (E3 W W) ?_
 intro x1 g2 z2 hz2 ez2
 unfold N9 at hz2
 refine B1<|sv W<|A1<|A4<|cc W hz2 (fun c1 hz2=> ?_)<|fun c1 hz2=> ?_
 refine A8<|A4<|A9<|lr<|fun u4 _=>bs hz2 fun v1 hv1 hz2=>sd W (C5 W W hv1 W)<|sd W (C7 W hv1 W W)<|sm W<|Q4 W G_hit (CY v1) W (A1<|lr<|fun u5 _=>sq W<|sq W<|sl W G_hit W<|sq W<|sp W W<|sl W G_hit W<|sd W (D0 W)<|sv W<|bs hz2 fun v2 hv2 hz2=>sd W (C5 W W hv2 W)<|sd W (C7 W hv2 W W)<|sm W<|Q4 W G_hit [(di v2.X),(di v2.Y)] W (A1<|B1<|sq W<|sl W (gq W) W (sd W (D0 W)<|sv W<|A1<|js hz2 fun z3 hz3 hz2=>D3 (fun s=> ∃(y2:Unit) (g3:Unit),z3= .inl y2∧Sb ⟨T [(1,(.ptr (1,u1) 0)),(10,(dl Do p1.Map_.Lanes)),(11,(di (p1.Map_.Lanes.length:Int))),(12,(di x1))],G [((1,u1),some<|.box 212 (K7 p1.Map_))]⟩ s) ?_ ?_)))
 refine A9<|D7 (W3 p1 v1 v2) (fun (x2:Int) (g4:Unit)=>⟨T [(1,(.ptr (1,u1) 0)),(4,(.ptr (4,u4) 0)),(5,(.ptr (5,u5) 0)),(10,(dl Do p1.Map_.Lanes)),(11,(di (p1.Map_.Lanes.length:Int))),(12,(di x1)),(27,(dl A5 v1.Next)),(28,(di (v1.Next.length:Int))),(29,(di x2))],G [((1,u1),some<|.box 212 (K7 p1.Map_)),((4,u4),some<|.box 63 (CY v1)),((5,u5),some<|.box 104 [(di v2.X),(di v2.Y)])]⟩) 0 () _ hz3 (E3 W W) ?_
 intro x2 g4 z4 hz4 ez4
 unfold W3 at hz4
 refine B1<|sv W<|A1<|A4<|cc W hz4 (fun c2 hz4=> ?_)<|fun c2 hz4=> ?_
 refine A8<|A4<|A9<|B1<|bs hz4 fun _ hv3 hz4=>sd W (C5 W W hv3 W)<|sd W (D1 W hv3 W)<|sv W<|A1<|A4<|A4<|D5 W<|sq W<|sq W<|sl W G_hit W<|sv W<|bs hz4 fun _ hv4 hz4=>sd W (C5 W W hv4 W)<|sv W<|sd W (D1 W hv4 W)<|sq W<|sl W (gq W) W (sv W<|A1<|cc W hz4 (fun c3 hz4=> ?_)<|fun c3 hz4=> ?_)
 refine B1<|sv W<|A1<|B2 ?_
 cases hz4
 obtain rfl:=ez4 _ rfl
 refine ⟨nofun,E5 ?_⟩
 rw [bT]at hz2
 cases hz2
 obtain rfl:=ez2 _ rfl
 refine ⟨nofun,E5 ?_⟩
 rw [bT]at h
 cases h
 exact A7 (.inr W) (B4 (B3 W) B8) (.refl _)
 refine A8<|A4<|D5 W<|sq W<|sq W<|sl W G_hit W<|sv W<|bs hz4 fun _ hv5 hz4=>sd W (C5 W W hv5 W)<|sv W<|sv W<|sd W (D1 W hv5 W)<|bs hz4 fun v6 hv6 hz4=>sd W (C5 W W hv6 W)<|sd W (C7 W hv6 W W)<|sd W (A6 W (gq W) W W)<|B9 (.d (bo (!(v6.X==v2.X&& (v6.Y==v2.Y&&true))))) W W (A1<|cc W hz4 (fun c4 hz4=> ?_)<|fun c4 hz4=> ?_)
 refine B1<|sv W<|A1<|B2 ?_
 cases hz4
 obtain rfl:=ez4 _ rfl
 refine ⟨nofun,E5 ?_⟩
 rw [bT]at hz2
 cases hz2
 obtain rfl:=ez2 _ rfl
 refine ⟨nofun,E5 ?_⟩
 rw [bT]at h
 cases h
 exact A7 (.inr W) (B4 (B3 W) B8) (.refl _)
 refine A8<|D4<|C1<|sv W<|sv W<|A1<|D6 ?_
 cases hz4
 exact ⟨W,(),(E3 W W)⟩
 refine C6 W ?_
 cases hz4
 obtain rfl:=ez4 _ rfl
 refine ⟨nofun,C3 W<|T4 ?_⟩
 exact ⟨_,(),W,(E3 W W)⟩
 rintro _ ⟨y2,g3,rfl,q1⟩
 rw [bS]at hz2
 refine D4<|B5 q1<|C1<|sv W<|sv W<|A1<|D6 ?_
 cases hz2
 exact ⟨W,(),(E3 W W)⟩
 refine C6 W ?_
 cases hz2
 obtain rfl:=ez2 _ rfl
 refine ⟨nofun,C3 W<|T4 ?_⟩
 exact ⟨_,(),W,(E3 W W)⟩
 rintro _ ⟨y1,g1,rfl,q2⟩
 rw [bS]at h
 refine B5 q2<|B1<|sv W<|A1<|B2 ?_
 cases h
 exact A7 (.inr W) (B4 (B3 W) B8) (.refl _)
def Dk (p1:Phase):Option Bool:=
  (Aq p1.Ticks 1 10000).bind fun v1=>some (!v1)
theorem Tn(p1 r)(h:Dk p1=some r):PCall prog 212 [(.agg [(i64 p1.Ticks),(.list (List.map A5 p1.Green))])] (bo r):=by
 refine C0 (fk func212 ntmps212 m0 (by with_unfolding_all rfl)) (nl W) ?_
 unfold Dk at h
 refine B5 (s0:=⟨T [(0,(.d _))],G []⟩) (E3 W W) ?_
 refine B1<|sm W<|sv W<|A1<|B1<|sq W<|sl W G_hit W<|bs h fun v1 hv1 h=>B0 W W A2 (Bj _ _ _ _ hv1) (.inl W) (B9 (.d (bo (!v1))) W W (sv W<|A1<|B2 ?_))
 cases h
 exact A7 (.inr W) (B4 (B3 W) B8) (.refl _)
def I3 (p1:(List Phase))(x1:Int):Option (Stp Int (Sum Unit Int)):=
  cond (decide (x1< (p1.length:Int))) ((C8 p1 x1).bind fun v1=>(Dk v1).bind fun v2=>cond v2 (some (.out (.inr x1))) (some (.go (C9 (x1+1))))) (some (.out (.inl ())))
def F5 [Lp](p1:(List Phase)):Option Int:=
  thenS (loop (I3 p1) 0) (fun _=>some (-1)) (fun r=>some r)
theorem Br(p1 r)(h:F5 p1=some r):PCall prog 243 [(.list (List.map Dq p1)),(.fn (.func 212) [] [])] (i64 r):=by
 refine C0 (fk func243 ntmps243 m0 (by with_unfolding_all rfl)) (nl W) ?_
 unfold F5 at h
 refine B5 (s0:=⟨T [(0,(.d _)),(1,(.d _))],G []⟩) (E3 W W) ?_
 refine B1<|sv W<|A1<|A4<|B1<|sv W<|sd W (D0 W)<|sv W<|A1<|js h fun z1 hz1 h=>D3 (fun s=> ∃(y1:Unit) (g1:Unit),z1= .inl y1∧Sb ⟨T [],G []⟩ s) ?_ ?_
 refine A9<|D7 (I3 p1) (fun (x1:Int) (g2:Unit)=>⟨T [(0,(dl Dq p1)),(1,(.d (.fn (.func 212) [] []))),(7,(di (p1.length:Int))),(8,(di x1))],G []⟩) 0 () _ hz1 (E3 W W) ?_
 intro x1 g2 z2 hz2 ez2
 unfold I3 at hz2
 refine B1<|sv W<|A1<|A4<|cc W hz2 (fun c1 hz2=> ?_)<|fun c1 hz2=> ?_
 refine A8<|A4<|A9<|B1<|sv W<|sv W<|A1<|B1<|sv W<|sv W<|sv W<|bs hz2 fun _ hv1 hz2=>sd W (C5 W W hv1 W)<|sd W (C7 W hv1 W W)<|bs hz2 fun _ hv2 hz2=>B0 W W A2 (Tn _ _ hv2) (.inl W) (A1<|cc W hz2 (fun c2 hz2=> ?_)<|fun c2 hz2=> ?_)
 refine B1<|sv W<|sv W<|A1<|B2 ?_
 cases hz2
 obtain rfl:=ez2 _ rfl
 refine ⟨nofun,E5 ?_⟩
 rw [bT]at h
 cases h
 exact A7 (.inr W) (B4 (B3 W) B8) (.refl _)
 refine A8<|D4<|C1<|sv W<|sv W<|A1<|D6 ?_
 cases hz2
 exact ⟨W,(),(E3 W W)⟩
 refine C6 W ?_
 cases hz2
 obtain rfl:=ez2 _ rfl
 refine ⟨nofun,C3 W<|T4 ?_⟩
 exact ⟨_,(),W,(E3 W W)⟩
 rintro _ ⟨y1,g1,rfl,q1⟩
 rw [bS]at h
 refine B5 q1<|B1<|sv W<|A1<|B2 ?_
 cases h
 exact A7 (.inr W) (B4 (B3 W) B8) (.refl _)
def E2 [Lp](p1:(List Phase)):Option Bool:=
  (F5 p1).bind fun v1=>some (decide (v1≥0))
theorem Ay(p1 r)(h:E2 p1=some r):PCall prog 211 [(.list (List.map Dq p1)),(.fn (.func 212) [] [])] (bo r):=by
 refine C0 (fk func211 ntmps211 m0 (by with_unfolding_all rfl)) (nl W) ?_
 unfold E2 at h
 refine B5 (s0:=⟨T [(0,(.d _)),(1,(.d _))],G []⟩) (E3 W W) ?_
 refine B1<|sv W<|A1<|B1<|sv W<|sv W<|bs h fun _ hv1 h=>B0 W W A2 (Br _ _ hv1) (.inl W) (sv W<|sv W<|A1<|B2 ?_)
 cases h
 exact A7 (.inr W) (B4 (B3 W) B8) (.refl _)
def R2 [Lp](p1:Phase)(p2:RoadsCheck):Option Bool:=
  (Ar p1.Green 0 (p2.Map_.Lanes.length:Int)).bind fun v1=>some (!v1)
theorem Rv(p1 p2 r)(h:R2 p1 p2=some r):PCall prog 213 [(.agg [(i64 p1.Ticks),(.list (List.map A5 p1.Green))]),(.bp (O8 p2.Map_) 0)] (bo r):=by
 refine C0 (fk func213 ntmps213 m0 (by with_unfolding_all rfl)) (nl W) ?_
 unfold R2 at h
 refine B5 (s0:=⟨T [(0,(.d _)),(1,(.d _))],G []⟩) (E3 W W) ?_
 refine B1<|sm W<|sv W<|A1<|B1<|sq W<|sl W G_hit W<|sv W<|sv W<|sv W<|sd W (D0 W)<|bs h fun v1 hv1 h=>B0 W W A2 (Pz _ _ _ _ hv1) (.inl W) (B9 (.d (bo (!v1))) W W (sv W<|A1<|B2 ?_))
 cases h
 exact A7 (.inr W) (B4 (B3 W) B8) (.refl _)
def D8 [Lp](p1:(List Phase))(p2:RoadsCheck)(x1:Int):Option (Stp Int (Sum Unit Int)):=
  cond (decide (x1< (p1.length:Int))) ((C8 p1 x1).bind fun v1=>(R2 v1 p2).bind fun v2=>cond v2 (some (.out (.inr x1))) (some (.go (C9 (x1+1))))) (some (.out (.inl ())))
def F3 [Lp](p1:(List Phase))(p2:RoadsCheck):Option Int:=
  thenS (loop (D8 p1 p2) 0) (fun _=>some (-1)) (fun r=>some r)
theorem Bm(p1 p2 r)(h:F3 p1 p2=some r):PCall prog 243 [(.list (List.map Dq p1)),(.fn (.func 213) [] [(.bp (O8 p2.Map_) 0)])] (i64 r):=by
 refine C0 (fk func243 ntmps243 m0 (by with_unfolding_all rfl)) (nl W) ?_
 unfold F3 at h
 refine B5 (s0:=⟨T [(0,(.d _)),(1,(.d _))],G []⟩) (E3 W W) ?_
 refine B1<|sv W<|A1<|A4<|B1<|sv W<|sd W (D0 W)<|sv W<|A1<|js h fun z1 hz1 h=>D3 (fun s=> ∃(y1:Unit) (g1:Unit),z1= .inl y1∧Sb ⟨T [],G []⟩ s) ?_ ?_
 refine A9<|D7 (D8 p1 p2) (fun (x1:Int) (g2:Unit)=>⟨T [(0,(dl Dq p1)),(1,(.d (.fn (.func 213) [] [(.bp (O8 p2.Map_) 0)]))),(7,(di (p1.length:Int))),(8,(di x1))],G []⟩) 0 () _ hz1 (E3 W W) ?_
 intro x1 g2 z2 hz2 ez2
 unfold D8 at hz2
 refine B1<|sv W<|A1<|A4<|cc W hz2 (fun c1 hz2=> ?_)<|fun c1 hz2=> ?_
 refine A8<|A4<|A9<|B1<|sv W<|sv W<|A1<|B1<|sv W<|sv W<|sv W<|bs hz2 fun _ hv1 hz2=>sd W (C5 W W hv1 W)<|sd W (C7 W hv1 W W)<|bs hz2 fun _ hv2 hz2=>B0 W W A2 (Rv _ _ _ hv2) (.inl W) (A1<|cc W hz2 (fun c2 hz2=> ?_)<|fun c2 hz2=> ?_)
 refine B1<|sv W<|sv W<|A1<|B2 ?_
 cases hz2
 obtain rfl:=ez2 _ rfl
 refine ⟨nofun,E5 ?_⟩
 rw [bT]at h
 cases h
 exact A7 (.inr W) (B4 (B3 W) B8) (.refl _)
 refine A8<|D4<|C1<|sv W<|sv W<|A1<|D6 ?_
 cases hz2
 exact ⟨W,(),(E3 W W)⟩
 refine C6 W ?_
 cases hz2
 obtain rfl:=ez2 _ rfl
 refine ⟨nofun,C3 W<|T4 ?_⟩
 exact ⟨_,(),W,(E3 W W)⟩
 rintro _ ⟨y1,g1,rfl,q1⟩
 rw [bS]at h
 refine B5 q1<|B1<|sv W<|A1<|B2 ?_
 cases h
 exact A7 (.inr W) (B4 (B3 W) B8) (.refl _)
def D9 [Lp](p1:(List Phase))(p2:RoadsCheck):Option Bool:=
  (F3 p1 p2).bind fun v1=>some (decide (v1≥0))
theorem As(p1 p2 r)(h:D9 p1 p2=some r):PCall prog 211 [(.list (List.map Dq p1)),(.fn (.func 213) [] [(.bp (O8 p2.Map_) 0)])] (bo r):=by
 refine C0 (fk func211 ntmps211 m0 (by with_unfolding_all rfl)) (nl W) ?_
 unfold D9 at h
 refine B5 (s0:=⟨T [(0,(.d _)),(1,(.d _))],G []⟩) (E3 W W) ?_
 refine B1<|sv W<|A1<|B1<|sv W<|sv W<|bs h fun _ hv1 h=>B0 W W A2 (Bm _ _ _ hv1) (.inl W) (sv W<|sv W<|A1<|B2 ?_)
 cases h
 exact A7 (.inr W) (B4 (B3 W) B8) (.refl _)
def N4 [Lp](p1:RoadsCheck)(x1:Int):Option (Stp Int (Sum Unit Int)):=
  cond (decide (x1< (p1.Map_.Signals.length:Int))) ((C8 p1.Map_.Signals x1).bind fun v1=>cond ((v1.Phases.length:Int)==0) (some (.out (.inr 6))) (cond (decide ((v1.Phases.length:Int)>6)) (some (.out (.inr 8))) ((Aq v1.Offset 0 1099511627776).bind fun v2=>cond (!v2) (some (.out (.inr 2))) ((E2 v1.Phases).bind fun v3=>cond v3 (some (.out (.inr 2))) ((D9 v1.Phases p1).bind fun v4=>cond v4 (some (.out (.inr 11))) (some (.go (C9 (x1+1))))))))) (some (.out (.inl ())))
def Q9 [Lp](p1:RoadsCheck):Option Int:=
  thenS (loop (N4 p1) 0) (fun _=>some 0) (fun r=>some r)
theorem Vf(p1 r)(h:Q9 p1=some r):PCall prog 151 [(.agg (O8 p1.Map_))] (i64 r):=by
 refine C0 (fk func151 ntmps151 m0 (by with_unfolding_all rfl)) (nl W) ?_
 unfold Q9 at h
 refine B5 (s0:=⟨T [(0,(.d _))],G []⟩) (E3 W W) ?_
 refine lr<|fun u1 _=>sm W<|sv W<|A1<|A4<|B1<|sq W<|sp W W<|sl W G_hit W<|sd W (D0 W)<|sv W<|A1<|js h fun z1 hz1 h=>D3 (fun s=> ∃(y1:Unit) (g1:Unit),z1= .inl y1∧Sb ⟨T [],G []⟩ s) ?_ ?_
 refine A9<|D7 (N4 p1) (fun (x1:Int) (g2:Unit)=>⟨T [(1,(.ptr (1,u1) 0)),(8,(dl Ju p1.Map_.Signals)),(9,(di (p1.Map_.Signals.length:Int))),(10,(di x1))],G [((1,u1),some<|.box 212 (K7 p1.Map_))]⟩) 0 () _ hz1 (E3 W W) ?_
 intro x1 g2 z2 hz2 ez2
 unfold N4 at hz2
 refine B1<|sv W<|A1<|A4<|cc W hz2 (fun c1 hz2=> ?_)<|fun c1 hz2=> ?_
 refine A8<|A4<|A9<|B1<|bs hz2 fun v1 hv1 hz2=>sd W (C5 W W hv1 W)<|sd W (C7 W hv1 W W)<|sm W<|Q4 W G_hit [(di v1.Offset),(dl Dq v1.Phases)] W (A1<|B1<|sq W<|sl W G_hit W<|sd W (D0 W)<|sv W<|A1<|A9<|B1<|sv W<|sv W<|sv W<|A1<|cc W hz2 (fun c2 hz2=> ?_)<|fun c2 hz2=> ?_)
 refine B1<|sv W<|A1<|B2 ?_
 cases hz2
 obtain rfl:=ez2 _ rfl
 refine ⟨nofun,E5 ?_⟩
 rw [bT]at h
 cases h
 exact A7 (.inr W) (B4 (B3 W) B8) (.refl _)
 refine B1<|sv W<|sv W<|sv W<|A1<|cc W hz2 (fun c3 hz2=> ?_)<|fun c3 hz2=> ?_
 refine B1<|sv W<|A1<|B2 ?_
 cases hz2
 obtain rfl:=ez2 _ rfl
 refine ⟨nofun,E5 ?_⟩
 rw [bT]at h
 cases h
 exact A7 (.inr W) (B4 (B3 W) B8) (.refl _)
 refine B1<|sq W<|sl W G_hit W<|bs hz2 fun v2 hv2 hz2=>B0 W W A2 (Bj _ _ _ _ hv2) (.inl W) (B9 (.d (bo (!v2))) W W (sv W<|A1<|cc W hz2 (fun c4 hz2=> ?_)<|fun c4 hz2=> ?_))
 refine B1<|sv W<|A1<|B2 ?_
 cases hz2
 obtain rfl:=ez2 _ rfl
 refine ⟨nofun,E5 ?_⟩
 rw [bT]at h
 cases h
 exact A7 (.inr W) (B4 (B3 W) B8) (.refl _)
 refine B1<|sq W<|sl W G_hit W<|bs hz2 fun _ hv3 hz2=>B0 W W A2 (Ay _ _ hv3) (.inl W) (sv W<|A1<|cc W hz2 (fun c5 hz2=> ?_)<|fun c5 hz2=> ?_)
 refine B1<|sv W<|A1<|B2 ?_
 cases hz2
 obtain rfl:=ez2 _ rfl
 refine ⟨nofun,E5 ?_⟩
 rw [bT]at h
 cases h
 exact A7 (.inr W) (B4 (B3 W) B8) (.refl _)
 refine B1<|sq W<|sl W G_hit W<|B9 (.fn _ _ _) W W (bs hz2 fun _ hv4 hz2=>B0 W (rD<|E0 (Zu F0<|E0 (Ab (gq W)<|rD<|rD<|rD<|rD<|rD F0) F0) F0) A2 (As _ _ _ hv4) (.inr W) (sv W<|A1<|cc W hz2 (fun c6 hz2=> ?_)<|fun c6 hz2=> ?_))
 refine B1<|sv W<|A1<|B2 ?_
 cases hz2
 obtain rfl:=ez2 _ rfl
 refine ⟨nofun,E5 ?_⟩
 rw [bT]at h
 cases h
 exact A7 (.inr W) (B4 (B3 W) B8) (.refl _)
 refine A8<|D4<|D4<|C1<|sv W<|sv W<|A1<|D6 ?_
 cases hz2
 exact ⟨W,(),(E3 W W)⟩
 refine C6 W ?_
 cases hz2
 obtain rfl:=ez2 _ rfl
 refine ⟨nofun,C3 W<|T4 ?_⟩
 exact ⟨_,(),W,(E3 W W)⟩
 rintro _ ⟨y1,g1,rfl,q1⟩
 rw [bS]at h
 refine B5 q1<|B1<|sv W<|A1<|B2 ?_
 cases h
 exact A7 (.inr W) (B4 (B3 W) B8) (.refl _)
/-- kerbstone/curve.pieces$1 -/
def Tf:AC:=(.seq (.reg [oo 3 (.mv (ci 0))]) (.seq (.reg [oo 8 (.fieldA 0 (.t 1)),oo 9 (.load 1 false (.t 8)),oo 10 (.len (.t 9)),oo 11 (.bin .sub (.t 10) (ci 1)),oo 12 (.mv (ci 0))]) (.block 0 (.loop (.seq (.reg [oo 13 (.bin .lss (.t 12) (.t 11))]) (.seq (.cond (.t 13) .skip (.exit 0)) (.seq (.block 1 (.seq (.reg [oo 14 (.mv (.t 12)),oo 4 (.mv (.t 14))]) (.seq (.draw [oo 15 (.fieldA 0 (.t 1)),oo 16 (.load 1 false (.t 15)),oo 17 (.mv (.t 4)),oo 18 (.idxS 2 (.t 16) (.t 17)),oo 19 (.load 2 true (.t 18)),oo 20 (.fieldA 0 (.t 1)),oo 21 (.load 1 false (.t 20)),oo 22 (.mv (.t 4)),oo 23 (.bin .add (.t 22) (ci 1)),oo 24 (.idxS 2 (.t 21) (.t 23)),oo 25 (.load 2 true (.t 24)),oo 26 (.call (cf 238) [(.t 19),(.t 25)]),oo 5 (.alloc 253 [z0,z0]),oe (.store 2 (.t 5) (.t 26))] []) (.seq (.reg [oo 28 (.load 2 true (.t 5)),oo 29 (.load 2 true (.t 5)),oo 30 (.call (cf 240) [(.t 28),(.t 29)]),oo 31 (.call (cf 239) [(.t 30)]),oo 27 (.mv (.t 31)),oo 32 (.ext (.t 27) 0),oo 33 (.ext (.t 27) 1),oo 6 (.mv (.t 32)),oo 7 (.mv (.t 33))]) (.seq (.seq (.drawB [oo 34 (.mv (.t 0)),oo 35 (.mv (.t 4)),oo 36 (.fieldA 0 (.t 1)),oo 37 (.load 1 false (.t 36)),oo 38 (.mv (.t 4)),oo 39 (.idxS 2 (.t 37) (.t 38)),oo 40 (.load 2 true (.t 39)),oo 41 (.load 2 true (.t 5)),oo 42 (.mv (.t 6)),oo 43 (.mv (.t 3)),oo 44 (.build [z0,z0,z0,z0,z0,z0] [(0,2,(.t 40)),(2,2,(.t 41)),(4,1,(.t 42)),(5,1,(.t 43))]),oo 45 (.icall (.t 34) [(.t 35),(.t 44)]),oo 46 (.un .not (.t 45))] 11 []) (.cond (.t 46) .ret .skip)) (.reg [oo 47 (.mv (.t 3)),oo 48 (.mv (.t 6)),oo 49 (.bin .add (.t 47) (.t 48)),oo 3 (.mv (.t 49))])))))) (.reg [oo 50 (.bin .add (.t 12) (ci 1)),oo 12 (.mv (.t 50))]))))))))
theorem CZ:FnOK prog 260 51 [] Tf:=⟨_,_,func260,rfl,ntmps260,by kernel_rfl,⟨fun r=>if r==6 then [11]else [],by kernel_rfl⟩,by kernel_rfl⟩
/-- The pieces of a chain of points, from a number on. -/
def Hj [Lp](pts:List Spot):Nat→Nat→Int→Option (List (Int×CurvePiece))
  |0,_,_=>some []
  |n+1,i,start=>(pts[i]?).bind fun p=>(pts[i+1]?).bind fun q=>(Gq p q).bind fun v=>(Y1 v v).bind fun d=>(Er d).bind fun r=>
   (Hj pts n (i+1) (C9 (start+r.1))).bind fun l=>some (((i:Int),CurvePiece.mk p v r.1 start)::l)
def Oq [Lp](pts:List Spot):Option (List (Int×CurvePiece)):=if pts.length≤1000000 then Hj pts (pts.length - 1) 0 0 else none
/-- kerbstone/curve.pieces -/
def Vy:AC:=(.seq (.reg [oo 1 (.box 61 true (.t 0)),oo 2 (.mv (.c (.v .nilFunc)))]) (.seq (.reg [oo 3 (.mkfn (.func 260) [] [(.t 1)]),oo 2 (.mv (.t 3))]) .ret))
theorem GF:FnOK prog 241 4 [.t 2] Vy:=⟨_,_,func241,rfl,ntmps241,by kernel_rfl,⟨fun _=> [],by kernel_rfl⟩,by kernel_rfl⟩
abbrev IM (a:Int×CurvePiece):List D:= [i64 a.1, .agg [i64 a.2.p.X,i64 a.2.p.Y,i64 a.2.v.x,i64 a.2.v.y,i64 a.2.l,i64 a.2.start]]
theorem FO (c:Curve):PCall prog 241 [.agg [.list (List.map Q3 c.Pts)]] (.fn (.func 260) [] [.bp [.list (List.map Q3 c.Pts)] 0]):=by
  refine aE GF (by simp) ?_
  unfold Vy
  refine Ob<|Ro fun _ _=> ?_
  refine TL (.ptr _ _) _ W W ?_
  refine F1 (.d _) W W ?_
  refine Ag ?_
  refine Ob<|Ro fun u' hu'=> ?_
  refine F1 (.fn _ _ _) W W ?_
  refine F1 (.fn _ _ _) W W ?_
  refine Ag ?_
  refine TH ⟨.inr W,?_⟩
  refine B4 (B3 (v:= .fn _ _ _) W) ?_
  exact Zu F0<|E0 (Ab (by simp only [Af,if_true];rfl)<|E0 B8 F0) F0
theorem cK (ps:List Spot)(n:Int)(i:Nat)(p:Spot)(hn:n=i)(h:ps[i]? =some p):(List.map Q3 ps)[n.toNat]? =some (Q3 p):=by
  subst hn
  rw [Int.toNat_natCast,lI,h];rfl
theorem TX {n:Int}(h: -9223372036854775808≤n∧n≤9223372036854775807):C9 n=n:=Go.IntWalk.i64_in n h
theorem GG (pts:List Spot): ∀n i s L,Hj pts n i s=some L→L.length=n:=by
  intro n
  induction n with
  |zero=>intro i s L h;cases h;rfl
  |succ n ih=>
   intro i s L h
   rw [Hj]at h
   obtain ⟨p,hp,h⟩:=bind_some h
   obtain ⟨q,hq,h⟩:=bind_some h
   obtain ⟨v,hv,h⟩:=bind_some h
   obtain ⟨d,hd,h⟩:=bind_some h
   obtain ⟨r,hr,h⟩:=bind_some h
   obtain ⟨l,hl,h⟩:=bind_some h
   cases h
   rw [lJ,ih _ _ _ hl]
theorem FP {pts:List Spot}{L:List (Int×CurvePiece)}(h:Oq pts=some L):aP prog (.fn (.func 260) [] [.bp [.list (List.map Q3 pts)] 0]) (L.map IM):=by
  unfold Oq at h
  split at h
  case isFalse=>cases h
  rename_i hlen
  refine ⟨260,[],_,W,?_⟩
  intro k h0 Inv Stop hi0 hy
  refine HY CZ (by simp) ?_
  unfold Tf
  refine Ob<|Ro fun u hu=> ?_
  refine F1 (.d _) W W ?_
  refine Ag ?_
  refine Ob<|Ro fun u hu=> ?_
  refine F1 (.d _) W W ?_
  refine F1 (.d _) W W ?_
  refine F1 (.d (i64 pts.length)) W (D0 (f:=Q3) W) ?_
  refine F1 (.d _) W W ?_
  refine F1 (.d _) W W ?_
  refine Ag ?_
  refine HV ?_
  refine PY (α:=Nat×Int×E1) (fun x=>⟨T [(0, .yld k),(1, .d (.bp [.list (List.map Q3 pts)] 0)),(3, .d (i64 x.2.1)),(11, .d (i64<|C9 (pts.length - 1))),(12, .d (i64 x.1))],x.2.2⟩) (fun x=>pts.length - x.1)
    (fun x=>Inv x.1 x.2.2∧x.1≤pts.length - 1∧Hj pts (pts.length - 1 - x.1) x.1 x.2.1=some (L.drop x.1)) (0,0,h0) ⟨hi0,by omega,h⟩ (Xp ⟨rfl,rfl,rfl,rfl,rfl,trivial⟩ fun _ _ h=>h) ?_
  rintro ⟨i,start,hh⟩ ⟨hinv,hi,hgo⟩
  dsimp only at hinv hi hgo ⊢
  refine Ob<|Ro fun u hu=> ?_
  refine F1 (.d _) W W ?_
  refine Ag ?_
  refine Ob ?_
  refine aG W (fun hlt=> ?_)<|fun hlt=> ?_
  ·refine NM ?_
   have hlen1:C9 ((pts.length:Int) - 1)=pts.length - 1:=TX (by omega)
   rw [hlen1]at hlt
   have hi1:i+1<pts.length:=by omega
   have hw1:IntKind.i64.wrap ((i:Int)+1)=(i:Int)+1:=TX (by omega)
   obtain ⟨m,hm⟩: ∃m,pts.length - 1 - i=m+1:=⟨pts.length - 1 - i - 1,by omega⟩
   rw [hm,Hj]at hgo
   obtain ⟨p,hp,hgo⟩:=bind_some hgo
   obtain ⟨q,hq,hgo⟩:=bind_some hgo
   obtain ⟨v,hv,hgo⟩:=bind_some hgo
   obtain ⟨d,hd,hgo⟩:=bind_some hgo
   obtain ⟨r,hr,hgo⟩:=bind_some hgo
   obtain ⟨l,hl,hgo⟩:=bind_some hgo
   have hgo:((i:Int),CurvePiece.mk p v r.1 start)::l=L.drop i:=lC hgo
   have hLi:L[i]? =some ((i:Int),CurvePiece.mk p v r.1 start):=by
     have:=congrArg (fun z=>z[0]?) hgo
     simpa using this.symm
   have hLd:L.drop (i+1)=l:=by
     have:=congrArg (fun z=>z.drop 1) hgo
     simpa using this.symm
   have hin: ∀(p:Spot) (n:Int) (j:Nat),n=j→pts[j]? =some p→(List.map Q3 pts)[n.toNat]? =some (Q3 p):=fun p n j=>cK pts n j p
   refine Ob ?_
   refine HV ?_
   refine Ob<|Ro fun u hu=> ?_
   refine F1 (.d _) W W ?_
   refine F1 (.d _) W W ?_
   refine Ag ?_
   refine Ob<|VJ W fun u hu=> ?_
   refine F1 (.d _) W W ?_
   refine F1 (.d _) W W ?_
   refine F1 (.d _) W W ?_
   refine TM _ _ _ _ W W (Int.natCast_nonneg i) (hin p _ i W hp) W ?_
   refine EC _ _ _ _ _ W (hin p _ i W hp) (by simp) W ?_
   refine F1 (.d _) W W ?_
   refine F1 (.d _) W W ?_
   refine F1 (.d _) W W ?_
   refine F1 (.d _) W W ?_
   refine TM _ _ _ _ W W (by rw [hw1];omega) (hin q _ (i+1) (by rw [hw1];rfl) hq) W ?_
   refine EC _ _ _ _ _ W (hin q _ (i+1) (by rw [hw1];rfl) hq) (by simp) W ?_
   refine Zg W W (Kx p q _ hv) (.inl W) ?_
   refine TL (.ptr _ _) _ W W ?_
   refine QB _ _ _ _ _ W W W (by simp only [Af,if_true];rfl) (by simp) ?_
   refine Ag ?_
   refine Ob<|Ro fun u' hu'=> ?_
   refine IA _ _ _ _ (.d (.agg [i64 v.x,i64 v.y])) W (by simp only [Af,if_true];rfl) (by simp [Jr]) W ?_
   refine IA _ _ _ _ (.d (.agg [i64 v.x,i64 v.y])) W (by simp only [Af,if_true];rfl) (by simp [Jr]) W ?_
   refine Zg W W (Fg v v _ hd) (.inl W) ?_
   refine Zg W W (Zx d _ hr) (.inl W) ?_
   refine F1 (.d _) W W ?_
   refine F1 (.d _) W W ?_
   refine F1 (.d _) W W ?_
   refine F1 (.d _) W W ?_
   refine F1 (.d _) W W ?_
   refine Ag ?_
   refine Ob<|Ob ?_
   refine aD W fun _ _=> ?_
   simp only [List.take,List.drop]
   refine F1 (.yld _) W W ?_
   refine F1 (.d _) W W ?_
   refine F1 (.d _) W W ?_
   refine F1 (.d _) W W ?_
   refine F1 (.d _) W W ?_
   refine TM _ _ _ _ W W (Int.natCast_nonneg i) (hin p _ i W hp) W ?_
   refine EC _ _ _ _ _ W (hin p _ i W hp) (by simp) W ?_
   refine IA _ _ _ _ (.d (.agg [i64 v.x,i64 v.y])) W (by simp only [Af,if_true];rfl) (by simp [Jr]) W ?_
   refine F1 (.d _) W W ?_
   refine F1 (.d _) W W ?_
   refine F1 (.d _) W W ?_
   refine Ag ?_
   intro u3 hu3
   refine aK k ((IM ((i:Int),CurvePiece.mk p v r.1 start)).map .d) W W ?_
   refine YCall.weak (VK hu<|VK hu fun _ _ h=>h) ((hy i hh _ (by rw [lI,hLi];rfl) hinv).mono ?_)
   rintro v' h' (⟨rfl,hin⟩|⟨rfl,hst⟩)
   ·intro u4 hu4
    refine F1 (.d _) W W ?_
    refine Ag ?_
    refine CK (t:=false) W (fun h=>by cases h) (fun _=> ?_)
    refine NM ?_
    refine Ro fun u hu=> ?_
    refine F1 (.d _) W W ?_
    refine F1 (.d _) W W ?_
    refine F1 (.d _) W W ?_
    refine F1 (.d _) W W ?_
    refine Ag ?_
    refine Ro fun u hu=> ?_
    refine F1 (.d _) W W ?_
    refine F1 (.d _) W W ?_
    refine Ag ?_
    refine ⟨(i+1,C9 (start+r.1),h'),⟨hin,by dsimp only;omega,?_⟩,by dsimp only;omega,Xp ⟨rfl,rfl,rfl,rfl,?_,trivial⟩ fun _ _ h=>h⟩
    ·dsimp only
     rw [hLd,show pts.length - 1 - (i+1)=m by omega];exact hl
    ·show AV.d (i64 (IntKind.i64.wrap ((i:Int)+1)))=_
     rw [hw1];rfl
   ·intro u4 hu4
    refine F1 (.d _) W W ?_
    refine Ag ?_
    refine CK (t:=true) W (fun _=> ?_) (fun h=>by cases h)
    refine TH ?_
    dsimp only
    exact ⟨Or.inr trivial,AV.tup [],W,Or.inr hst⟩
  ·refine NN ?_
   have hlen1:1≤pts.length→C9 ((pts.length:Int) - 1)=pts.length - 1:=fun _=>TX (by omega)
   have:i=pts.length - 1:=by
     by_cases h:1≤pts.length
     ·rw [hlen1 h]at hlt;omega
     ·omega
   subst this
   rw [Nat.sub_self,Hj]at hgo
   have hL:(L.map IM).length=pts.length - 1:=by
     have h1:L.drop (pts.length - 1)= []:=(lC hgo).symm
     have h2:=List.drop_eq_nil_iff.1 h1
     rw [lP]
     refine Nat.le_antisymm h2 ?_
     exact Nat.le_of_eq (GG _ _ _ _ _ h).symm
   exact ⟨.inl W,_,W, .inl (by rw [hL];exact hinv)⟩
def Ds (x1:(List Int))(a1:(Int×CurvePiece)):Option (Stp (List Int) (List Int)):=
  (Fk x1 [a1.2.l]).bind fun v3=>some (.go v3)
def Ed [Lp](p1:Curve):Option (List Int):=
  (Cc p1).bind fun v1=>cond (v1 !=0) (some []) (((Oq p1.Pts).bind fun v2=>loopL (Ds) (fun (x1:(List Int))=>x1) v2 []).bind fun y1=>some y1)
theorem GH(p1 r)(h:Ed p1=some r):PCall prog 261 [(.agg [(.list (List.map Q3 p1.Pts))])] (.list (List.map A5 r)):=by
 refine C0 (fk func261 ntmps261 (fun r=>if r==6 then [1003]else []) (by with_unfolding_all rfl)) (nl W) ?_
 unfold Ed at h
 refine B5 (s0:=⟨T [(0,(.d _))],G []⟩) (E3 W W) ?_
 refine B1<|sm W<|sv W<|A1<|A4<|B1<|sd W (A6 W G_hit W W)<|bs h fun _ hv1 h=>B0 W W A2 (Ru _ _ hv1) (.inl W) (sv W<|A1<|cc W h (fun c1 h=> ?_)<|fun c1 h=> ?_)
 refine B1<|sv W<|A1<|B2 ?_
 cases h
 exact A7 (.inr W) (B4 (B3 W) B8) DLe.nil
 refine A8<|lr<|fun u4 _=>sm W<|A1<|A4<|B1<|sd W (A6 W (gq W) W W)<|B0 W W A2 (FO p1) (.inl W) (A1<|bs h fun y1 hy1 h=>D3 (fun s=> ∃g1:Nat,Sb ⟨T [(3,(.ptr (3,u4) 0))],G [((3,u4),some<|.box 48 [(oS y1 (17,g1))]),((17,g1),oB 2 1 A5 y1)]⟩ s) ?_ ?_)
 refine A9<|bs hy1 fun v2 hv2 hy1=>B5 (s0:=⟨T [(3,(.ptr _ _)),(10,(.d _))],G [((3,u4),some<|.box 48 _)]⟩) (E3 W W) ?_
 refine QH (.fn (.func 260) [] [(.bp [(.list (List.map Q3 p1.Pts))] 0)]) IM v2 (Ds) (fun (x1:(List Int))=>x1) (fun (x1:(List Int)) (g2:Nat)=> [((3,u4),some<|.box 48 [(oS x1 (17,g2))]),((17,g2),oB 2 1 A5 x1)]) [] 0 _ W (FP hv2) (fun _=>W) hy1 (D2 trivial<|B6 G_hit (.of W)<|O9 trivial) nofun ?_ ?_
 intro u7 hu7 hku7
 refine ⟨fun x1 g2=>(C4 W<|C4 W W),?_⟩
 intro r1 x1 g2 a1 z1 hrr1 hz1 ez1
 unfold Ds at hz1
 show Bt _ _ _ _ _ _ ⟨T [(12,(.d (.agg (Ya a1.2)))),(11,(di a1.1)),(3,(.ptr (3,u4) 0)),(10,(.d (.fn (.func 260) [] [(.bp [(.list (List.map Q3 p1.Pts))] 0)])))],G [((1000000,u7),some (.obj (T [(3,(.ptr (3,u4) 0)),(10,(.d (.fn (.func 260) [] [(.bp [(.list (List.map Q3 p1.Pts))] 0)])))]) r1)),((3,u4),some (.box 48 [(oS x1 (17,g2))])),((17,g2),oB 2 1 A5 x1)]⟩
 refine C1<|sm W<|Q4 W G_hit (Gj a1.2) W (A1<|T4<|NS (gq W) ?_)
 refine A9<|Be fun u9 _=>B9 (oS x1 (17,g2)) W (N8 W (gq W) W) (sq W<|sl W (gq W) W (B9 (dl A5 [a1.2.l]) W W (bs hz1 fun _ hv3 hz1=>O1 A5 (17,g2) x1 a1.2.l [] _ (M0<|fun _=>W) W (gq W) hv3 (Q4 W (gq W) [(.sl (17,u9))] W (A1<|D4<|D6 ?_)))))
 cases hz1
 exact NT (gq W) u9 (B6 G_hit (.box (.cons (.of (S5<|T0 hv3).symm) .nil))<|L9 (gq W) trivial)
 rintro x1 g2 _ rfl qx1
 refine D4<|T4 ?_
 exact ⟨g2,(Sb.after qx1<|D2 ⟨.of W,trivial⟩<|B6 G_hit (.of W)<|B7 (gq W) trivial)⟩
 rintro _ ⟨g1,q1⟩
 refine B5 q1<|B1<|B9 (oS y1 (17,g1)) W (N8 W G_hit W) (B9 (oS y1 (17,g1)) W W (A1<|B2 ?_))
 cases h
 exact A7 (.inr W) (B4 (B3 W)<|U4<|gq W) U3
def Z7 (v1:(List Int))(x1:(Int×Int)):Option (Stp (Int×Int) Int):=
  cond (decide (x1.2< (v1.length:Int))) ((C8 v1 x1.2).bind fun v2=>some (.go ((C9 (x1.1+v2)),(C9 (x1.2+1))))) (some (.out x1.1))
def Bv [Lp](p1:Curve):Option Int:=
  (Ed p1).bind fun v1=>(loop (Z7 v1) (0,0)).bind fun y1=>some y1
theorem GI(p1 r)(h:Bv p1=some r):PCall prog 242 [(.agg [(.list (List.map Q3 p1.Pts))])] (i64 r):=by
 refine C0 (fk func242 ntmps242 m0 (by with_unfolding_all rfl)) (nl W) ?_
 unfold Bv at h
 refine B5 (s0:=⟨T [(0,(.d _))],G []⟩) (E3 W W) ?_
 refine B1<|sm W<|sv W<|A1<|B1<|sv W<|A1<|A4<|B1<|sd W (A6 W G_hit W W)<|bs h fun v1 hv1 h=>B0 W W A2 (GH _ _ hv1) (.inl W) (sd W (D0 W)<|sv W<|A1<|bs h fun y1 hy1 h=>D3 (fun s=> ∃g1:Unit,Sb ⟨T [(3,(di y1))],G []⟩ s) ?_ ?_)
 refine A9<|D7 (Z7 v1) (fun (x1:(Int×Int)) (g2:Unit)=>⟨T [(3,(di x1.1)),(7,(dl A5 v1)),(8,(di (v1.length:Int))),(9,(di x1.2))],G []⟩) (0,0) () _ hy1 (E3 W W) ?_
 intro x1 g2 z1 hz1 ez1
 unfold Z7 at hz1
 refine B1<|sv W<|A1<|A4<|cc W hz1 (fun c1 hz1=> ?_)<|fun c1 hz1=> ?_
 refine A8<|A4<|A9<|B1<|bs hz1 fun _ hv2 hz1=>sd W (C5 W W hv2 W)<|sd W (D1 W hv2 W)<|sv W<|A1<|C1<|sv W<|sv W<|sv W<|sv W<|A1<|D4<|C1<|sv W<|sv W<|A1<|D6 ?_
 cases hz1
 exact ⟨W,(),(E3 W W)⟩
 refine C6 W ?_
 cases hz1
 obtain rfl:=ez1 _ rfl
 refine ⟨nofun,C3 W<|T4 ?_⟩
 exact ⟨(),(E3 W W)⟩
 rintro _ ⟨g1,q1⟩
 refine B5 q1<|B1<|sv W<|sv W<|A1<|B2 ?_
 cases h
 exact A7 (.inr W) (B4 (B3 W) B8) (.refl _)
def Bn [Lp](p1:Map)(p2:Int):Option Int:=
  (C8 p1.Lanes p2).bind fun v1=>(Bv v1.Curve_).bind fun v2=>some v2
theorem Ot(p1 p2 r)(h:Bn p1 p2=some r):PCall prog 207 [(.agg (O8 p1)),(i64 p2)] (i64 r):=by
 refine C0 (fk func207 ntmps207 m0 (by with_unfolding_all rfl)) (nl W) ?_
 unfold Bn at h
 refine B5 (s0:=⟨T [(0,(.d _)),(1,(.d _))],G []⟩) (E3 W W) ?_
 refine B1<|sm W<|sv W<|A1<|B1<|sq W<|sl W G_hit W<|sv W<|bs h fun _ hv1 h=>sd W (C5 W W hv1 W)<|sv W<|sd W (C7 W hv1 W W)<|bs h fun _ hv2 h=>B0 W W A2 (GI _ _ hv2) (.inl W) (sv W<|A1<|B2 ?_)
 cases h
 exact A7 (.inr W) (B4 (B3 W) B8) (.refl _)
def P6 [Lp](p1:RoadsCheck)(v1:Zone)(x3:Int):Option (Stp Int (Sum Unit Int)):=
  cond (decide (x3< (v1.Parts.length:Int))) ((C8 v1.Parts x3).bind fun v5=>((cond (!((decide (v5.From<0))||(decide (v5.From≥v5.To)))) (Bn p1.Map_ v5.Lane_) (some default))).bind fun v6=>cond (((((decide (v5.From<0))||(decide (v5.From≥v5.To)))||(decide (v5.To>v6)))||(decide (v5.Rank<0)))||(decide (v5.Rank>100))) (some (.out (.inr 2))) (some (.go (C9 (x3+1))))) (some (.out (.inl ())))
def Ee (v1:Zone)(x2:((List Int)×Int)):Option (Stp ((List Int)×Int) (List Int)):=
  cond (decide (x2.2< (v1.Parts.length:Int))) ((C8 v1.Parts x2.2).bind fun v2=>(Fk x2.1 [v2.Lane_]).bind fun v3=>some (.go (v3,(C9 (x2.2+1))))) (some (.out x2.1))
def P7 [Lp](p1:RoadsCheck)(x1:Int):Option (Stp Int (Sum Unit Int)):=
  cond (decide (x1< (p1.Map_.Zones.length:Int))) ((C8 p1.Map_.Zones x1).bind fun v1=>cond (decide ((v1.Parts.length:Int)<2)) (some (.out (.inr 6))) (cond (decide ((v1.Parts.length:Int)>6)) (some (.out (.inr 8))) (cond ((decide (v1.Signal_<0))||(decide (v1.Signal_>(p1.Map_.Signals.length:Int)))) (some (.out (.inr 2))) ((loop (Ee v1) ([],0)).bind fun y2=>(Ar y2 0 (p1.Map_.Lanes.length:Int)).bind fun v4=>cond (!v4) (some (.out (.inr 11))) (thenS (loop (P6 p1 v1) 0) (fun _=>some (.go (C9 (x1+1)))) (fun r=>some (.out (.inr r)))))))) (some (.out (.inl ())))
def T6 [Lp](p1:RoadsCheck):Option Int:=
  thenS (loop (P7 p1) 0) (fun _=>some 0) (fun r=>some r)
theorem Ye(p1 r)(h:T6 p1=some r):PCall prog 152 [(.agg (O8 p1.Map_))] (i64 r):=by
 refine C0 (fk func152 ntmps152 (fun r=>if r==15 then [1003]else []) (by with_unfolding_all rfl)) (nl W) ?_
 unfold T6 at h
 refine B5 (s0:=⟨T [(0,(.d _))],G []⟩) (E3 W W) ?_
 refine lr<|fun u1 _=>sm W<|sv W<|A1<|A4<|B1<|sq W<|sp W W<|sl W G_hit W<|sd W (D0 W)<|sv W<|A1<|js h fun z1 hz1 h=>D3 (fun s=> ∃(y1:Unit) (g1:Unit),z1= .inl y1∧Sb ⟨T [],G []⟩ s) ?_ ?_
 refine A9<|D7 (P7 p1) (fun (x1:Int) (g2:Unit)=>⟨T [(1,(.ptr (1,u1) 0)),(13,(dl Dp p1.Map_.Zones)),(14,(di (p1.Map_.Zones.length:Int))),(15,(di x1))],G [((1,u1),some<|.box 212 (K7 p1.Map_))]⟩) 0 () _ hz1 (E3 W W) ?_
 intro x1 g2 z2 hz2 ez2
 unfold P7 at hz2
 refine B1<|sv W<|A1<|A4<|cc W hz2 (fun c1 hz2=> ?_)<|fun c1 hz2=> ?_
 refine A8<|A4<|A9<|lr<|fun u4 _=>bs hz2 fun v1 hv1 hz2=>sd W (C5 W W hv1 W)<|sd W (C7 W hv1 W W)<|sm W<|Q4 W G_hit [(dl Cs v1.Parts),(di v1.Signal_)] W (A1<|A4<|B1<|sq W<|sl W G_hit W<|sd W (D0 W)<|sv W<|A1<|A9<|B1<|sv W<|sv W<|sv W<|A1<|cc W hz2 (fun c2 hz2=> ?_)<|fun c2 hz2=> ?_)
 refine B1<|sv W<|A1<|B2 ?_
 cases hz2
 obtain rfl:=ez2 _ rfl
 refine ⟨nofun,E5 ?_⟩
 rw [bT]at h
 cases h
 exact A7 (.inr W) (B4 (B3 W) B8) (.refl _)
 refine B1<|sv W<|sv W<|sv W<|A1<|cc W hz2 (fun c3 hz2=> ?_)<|fun c3 hz2=> ?_
 refine B1<|sv W<|A1<|B2 ?_
 cases hz2
 obtain rfl:=ez2 _ rfl
 refine ⟨nofun,E5 ?_⟩
 rw [bT]at h
 cases h
 exact A7 (.inr W) (B4 (B3 W) B8) (.refl _)
 refine B1<|sq W<|sl W G_hit W<|sv W<|sv W<|gp W (H8 W) (fun _=>W) (gf W (vl W G_hit W)<|gp W (H8 W) (fun _=>W) ?_)
 refine M5 _ (.ptr _ _) W (H8 W) (fun w4=>(by simp only [A3 w4];rfl)) ?_
 refine gf W (vl W (gq W) W)<|gf W (fun w6=>(D0<|A3 w6))<|gf W (fun w7=>(L4 (A3 w7) (A3 w7) W))<|sd W (L8 W W<|fun hc=>A3<|G0 hc)<|sv W<|A1<|cc W hz2 (fun c4 hz2=> ?_)<|fun c4 hz2=> ?_
 refine B1<|sv W<|A1<|B2 ?_
 cases hz2
 obtain rfl:=ez2 _ rfl
 refine ⟨nofun,E5 ?_⟩
 rw [bT]at h
 cases h
 exact A7 (.inr W) (B4 (B3 W) B8) (.refl _)
 refine A8<|D4<|B1<|sv W<|A1<|A4<|B1<|sq W<|sl W G_hit W<|sd W (D0 W)<|sv W<|A1<|bs hz2 fun y2 hy2 hz2=>D3 (fun s=> ∃g3:Nat,Sb ⟨T [(1,(.ptr (1,u1) 0)),(4,(.ptr (4,u4) 0)),(6,(oS y2 (52,g3))),(13,(dl Dp p1.Map_.Zones)),(14,(di (p1.Map_.Zones.length:Int))),(15,(di x1))],G [((1,u1),some<|.box 212 (K7 p1.Map_)),((4,u4),some<|.box 117 [(dl Cs v1.Parts),(di v1.Signal_)]),((52,g3),oB 3 1 A5 y2)]⟩ s) ?_ ?_
 refine A9<|D7 (Ee v1) (fun (x2:((List Int)×Int)) (g4:Nat)=>⟨T [(1,(.ptr (1,u1) 0)),(4,(.ptr (4,u4) 0)),(6,(oS x2.1 (52,g4))),(13,(dl Dp p1.Map_.Zones)),(14,(di (p1.Map_.Zones.length:Int))),(15,(di x1)),(42,(dl Cs v1.Parts)),(43,(di (v1.Parts.length:Int))),(44,(di x2.2))],G [((1,u1),some<|.box 212 (K7 p1.Map_)),((4,u4),some<|.box 117 [(dl Cs v1.Parts),(di v1.Signal_)]),((52,g4),oB 3 1 A5 x2.1)]⟩) ([],0) 0 _ hy2 (D2 (X5 W)<|sg W<|B6 G_hit (.of W)<|O9 trivial) ?_
 intro x2 g4 z3 hz3 ez3
 unfold Ee at hz3
 refine B1<|sv W<|A1<|A4<|cc W hz3 (fun c5 hz3=> ?_)<|fun c5 hz3=> ?_
 refine A8<|A4<|A9<|B1<|bs hz3 fun v2 hv2 hz3=>sd W (C5 W W hv2 W)<|sd W (C7 W hv2 W W)<|sm W<|Q4 W G_hit (IK v2) W (A1<|Be fun u16 _=>B9 (oS x2.1 (52,g4)) W W (sq W<|sl W G_hit W<|B9 (dl A5 [v2.Lane_]) W W (bs hz3 fun _ hv3 hz3=>O1 A5 (52,g4) x2.1 v2.Lane_ [] _ (M0<|fun _=>W) W (gq W) hv3 (ss W<|A1<|D4<|C1<|sv W<|sv W<|A1<|D6 ?_))))
 cases hz3
 exact ⟨W,u16,(D2 ⟨.of W, .of W,(.of (S5<|T0 hv3).symm), .of W, .of W, .of W, .of W, .of W, .of W,trivial⟩<|sg W<|sg W<|L9 G_hit trivial)⟩
 refine C6 W ?_
 cases hz3
 obtain rfl:=ez3 _ rfl
 refine ⟨nofun,C3 W<|T4 ?_⟩
 exact ⟨g4,(D2 (X5 W)<|B6 G_hit (.of W)<|sg W<|B7 (gq W) trivial)⟩
 rintro _ ⟨g3,q1⟩
 refine B5 q1<|A4<|B1<|B9 (oS y2 (52,g3)) W W (sq W<|sp W W<|sl W G_hit W<|sd W (D0 W)<|bs hz2 fun v4 hv4 hz2=>B0 W (E0 (U4<|gq W)<|rD<|rD F0) (.cons U3 (.cons (.refl _) A2)) (Pz _ _ _ _ hv4) (.inr W) (B9 (.d (bo (!v4))) W W (A1<|cc W hz2 (fun c6 hz2=> ?_)<|fun c6 hz2=> ?_)))
 refine B1<|sv W<|A1<|B2 ?_
 cases hz2
 obtain rfl:=ez2 _ rfl
 refine ⟨nofun,E5 ?_⟩
 rw [bT]at h
 cases h
 exact A7 (.inr W) (B4 (B3 W) B8) (.refl _)
 refine A8<|B1<|sq W<|sl W (gq W) W (sd W (D0 W)<|sv W<|A1<|js hz2 fun z4 hz4 hz2=>D3 (fun s=> ∃(y3:Unit) (g5:Unit),z4= .inl y3∧Sb ⟨T [(1,(.ptr (1,u1) 0)),(13,(dl Dp p1.Map_.Zones)),(14,(di (p1.Map_.Zones.length:Int))),(15,(di x1))],G [((1,u1),some<|.box 212 (K7 p1.Map_))]⟩ s) ?_ ?_)
 refine A9<|D7 (P6 p1 v1) (fun (x3:Int) (g6:Unit)=>⟨T [(1,(.ptr (1,u1) 0)),(13,(dl Dp p1.Map_.Zones)),(14,(di (p1.Map_.Zones.length:Int))),(15,(di x1)),(62,(dl Cs v1.Parts)),(63,(di (v1.Parts.length:Int))),(64,(di x3))],G [((1,u1),some<|.box 212 (K7 p1.Map_))]⟩) 0 () _ hz4 (E3 W W) ?_
 intro x3 g6 z5 hz5 ez5
 unfold P6 at hz5
 refine B1<|sv W<|A1<|A4<|cc W hz5 (fun c7 hz5=> ?_)<|fun c7 hz5=> ?_
 refine A8<|A4<|A9<|B1<|bs hz5 fun v5 hv5 hz5=>sd W (C5 W W hv5 W)<|sd W (C7 W hv5 W W)<|sm W<|Q4 W G_hit (IK v5) W (A1<|A4<|D5 W<|sq W<|sl W G_hit W<|sv W<|sv W<|gp W (H8 W) (fun _=>W) (gf W (vl W G_hit W)<|gp W (H8 W) (fun _=>W) (gf W (vl W G_hit W)<|gf W (fun w12=>(L4 (A3 w12) (A3 w12) W))<|sd W (L8 W W<|fun hc=>A3<|G0 hc)<|sv W<|gp W (H8 W) (fun _=>W) (gf W (vl W G_hit W)<|gp W (H8 W) (fun _=>W) (gf W (fun w16=>(A6 (A3 w16) (gq W) W W))<|gp W (H8 W) (fun _=>W) (gf W (vl W G_hit W)<|bs hz5 fun v6 hv6 hz5=> ?_))))))
 refine I9 _ (i64 v6) (H8 W) (fun w19=>⟨_,[(.d (.agg (O8 p1.Map_))),(di v5.Lane_)],_,_,(by simp only [A3 w19];rfl),W,A2,Ot _ _ _<|C2 w19 hv6,(.inl W)⟩) ?_
 refine gf W (fun w20=>(L4 (A3 w20) (A3 w20) W))<|sd W (L8 W W<|fun hc=>A3<|G0 hc)<|sv W<|gp W (H8 W) (fun _=>W) (gf W (vl W G_hit W)<|gf W (vb W W W)<|sd W (L8 W W<|fun hc=>A3<|G0 hc)<|sv W<|gp W (H8 W) (fun _=>W) (gf W (vl W G_hit W)<|gf W (vb W W W)<|sd W (L8 W W<|fun hc=>A3<|G0 hc)<|A1<|cc W hz5 (fun c8 hz5=> ?_)<|fun c8 hz5=> ?_))
 refine B1<|sv W<|A1<|B2 ?_
 cases hz5
 obtain rfl:=ez5 _ rfl
 refine ⟨nofun,E5 ?_⟩
 rw [bT]at hz2
 cases hz2
 obtain rfl:=ez2 _ rfl
 refine ⟨nofun,E5 ?_⟩
 rw [bT]at h
 cases h
 exact A7 (.inr W) (B4 (B3 W) B8) (.refl _)
 refine A8<|D4<|C1<|sv W<|sv W<|A1<|D6 ?_
 cases hz5
 exact ⟨W,(),(E3 W W)⟩
 refine C6 W ?_
 cases hz5
 obtain rfl:=ez5 _ rfl
 refine ⟨nofun,C3 W<|T4 ?_⟩
 exact ⟨_,(),W,(E3 W W)⟩
 rintro _ ⟨y3,g5,rfl,q2⟩
 rw [bS]at hz2
 refine D4<|B5 q2<|C1<|sv W<|sv W<|A1<|D6 ?_
 cases hz2
 exact ⟨W,(),(E3 W W)⟩
 refine C6 W ?_
 cases hz2
 obtain rfl:=ez2 _ rfl
 refine ⟨nofun,C3 W<|T4 ?_⟩
 exact ⟨_,(),W,(E3 W W)⟩
 rintro _ ⟨y1,g1,rfl,q3⟩
 rw [bS]at h
 refine B5 q3<|B1<|sv W<|A1<|B2 ?_
 cases h
 exact A7 (.inr W) (B4 (B3 W) B8) (.refl _)
def P8 [Lp](p1:RoadsCheck)(x1:Int):Option (Stp Int (Sum Unit Int)):=
  cond (decide (x1< (p1.Map_.Works.length:Int))) ((C8 p1.Map_.Works x1).bind fun v1=>cond ((decide (v1.Lane_<0))||(decide (v1.Lane_≥(p1.Map_.Lanes.length:Int)))) (some (.out (.inr 7))) ((C8 p1.Map_.Lanes v1.Lane_).bind fun v2=>(Ec v2.Kind).bind fun v3=>((cond (!((decide (v1.From<0))||(decide (v1.From>v1.To)))) (Bn p1.Map_ v1.Lane_) (some default))).bind fun v4=>((cond (!((((((decide (v1.From<0))||(decide (v1.From>v1.To)))||(decide (v1.To>v4)))||(decide (v1.Begin<0)))||(decide (v1.Begin≥v1.End)))||(decide (v1.End>1099511627776)))) (Aq v1.Limit 0 v3.1) (some default))).bind fun v5=>cond (((((((decide (v1.From<0))||(decide (v1.From>v1.To)))||(decide (v1.To>v4)))||(decide (v1.Begin<0)))||(decide (v1.Begin≥v1.End)))||(decide (v1.End>1099511627776)))||(!v5)) (some (.out (.inr 2))) (some (.go (C9 (x1+1)))))) (some (.out (.inl ())))
def T7 [Lp](p1:RoadsCheck):Option Int:=
  thenS (loop (P8 p1) 0) (fun _=>some 0) (fun r=>some r)
theorem Yf(p1 r)(h:T7 p1=some r):PCall prog 153 [(.agg (O8 p1.Map_))] (i64 r):=by
 refine C0 (fk func153 ntmps153 m0 (by with_unfolding_all rfl)) (nl W) ?_
 unfold T7 at h
 refine B5 (s0:=⟨T [(0,(.d _))],G []⟩) (E3 W W) ?_
 refine lr<|fun u1 _=>sm W<|sv W<|A1<|A4<|B1<|sq W<|sp W W<|sl W G_hit W<|sd W (D0 W)<|sv W<|A1<|js h fun z1 hz1 h=>D3 (fun s=> ∃(y1:Unit) (g1:Unit),z1= .inl y1∧Sb ⟨T [],G []⟩ s) ?_ ?_
 refine A9<|D7 (P8 p1) (fun (x1:Int) (g2:Unit)=>⟨T [(1,(.ptr (1,u1) 0)),(10,(dl Rt p1.Map_.Works)),(11,(di (p1.Map_.Works.length:Int))),(12,(di x1))],G [((1,u1),some<|.box 212 (K7 p1.Map_))]⟩) 0 () _ hz1 (E3 W W) ?_
 intro x1 g2 z2 hz2 ez2
 unfold P8 at hz2
 refine B1<|sv W<|A1<|A4<|cc W hz2 (fun c1 hz2=> ?_)<|fun c1 hz2=> ?_
 refine A8<|A4<|A9<|B1<|bs hz2 fun v1 hv1 hz2=>sd W (C5 W W hv1 W)<|sd W (C7 W hv1 W W)<|sm W<|Q4 W G_hit (kK v1) W (A1<|A4<|B1<|sq W<|sl W G_hit W<|sv W<|sv W<|gp W (H8 W) (fun _=>W) (gf W (vl W G_hit W)<|gp W (H8 W) (fun _=>W) ?_))
 refine M5 _ (.ptr _ _) W (H8 W) (fun w4=>(by simp only [A3 w4];rfl)) ?_
 refine gf W (vl W (gq W) W)<|gf W (fun w6=>(D0<|A3 w6))<|gf W (fun w7=>(L4 (A3 w7) (A3 w7) W))<|sd W (L8 W W<|fun hc=>A3<|G0 hc)<|A1<|cc W hz2 (fun c2 hz2=> ?_)<|fun c2 hz2=> ?_
 refine B1<|sv W<|A1<|B2 ?_
 cases hz2
 obtain rfl:=ez2 _ rfl
 refine ⟨nofun,E5 ?_⟩
 rw [bT]at h
 cases h
 exact A7 (.inr W) (B4 (B3 W) B8) (.refl _)
 refine A8<|B1<|sq W<|sp W W<|sl W (gq W) W (sq W<|sl W G_hit W<|bs hz2 fun _ hv2 hz2=>sd W (C5 W W hv2 W)<|sv W<|sd W (D1 W hv2 W)<|bs hz2 fun v3 hv3 hz2=>B0 W W A2 (Lq _ _ hv3) (.inl W) (sv W<|sv W<|sv W<|sv W<|sv W<|sv W<|sv W<|A1<|A4<|D5 W<|sq W<|sl W G_hit W<|sv W<|sv W<|gp W (H8 W) (fun _=>W) (gf W (vl W G_hit W)<|gp W (H8 W) (fun _=>W) (gf W (vl W G_hit W)<|gf W (fun w12=>(L4 (A3 w12) (A3 w12) W))<|sd W (L8 W W<|fun hc=>A3<|G0 hc)<|sv W<|gp W (H8 W) (fun _=>W) (gf W (vl W G_hit W)<|gp W (H8 W) (fun _=>W) (gf W (fun w16=>(A6 (A3 w16) (gq W) W W))<|gp W (H8 W) (fun _=>W) (gf W (vl W G_hit W)<|bs hz2 fun v4 hv4 hz2=> ?_)))))))
 refine I9 _ (i64 v4) (H8 W) (fun w19=>⟨_,[(.d (.agg (O8 p1.Map_))),(di v1.Lane_)],_,_,(by simp only [A3 w19];rfl),W,A2,Ot _ _ _<|C2 w19 hv4,(.inl W)⟩) ?_
 refine gf W (fun w20=>(L4 (A3 w20) (A3 w20) W))<|sd W (L8 W W<|fun hc=>A3<|G0 hc)<|sv W<|gp W (H8 W) (fun _=>W) (gf W (vl W G_hit W)<|gf W (vb W W W)<|sd W (L8 W W<|fun hc=>A3<|G0 hc)<|sv W<|gp W (H8 W) (fun _=>W) (gf W (vl W G_hit W)<|gp W (H8 W) (fun _=>W) (gf W (vl W G_hit W)<|gf W (fun w28=>(L4 (A3 w28) (A3 w28) W))<|sd W (L8 W W<|fun hc=>A3<|G0 hc)<|sv W<|gp W (H8 W) (fun _=>W) (gf W (vl W G_hit W)<|gf W (vb W W W)<|sd W (L8 W W<|fun hc=>A3<|G0 hc)<|sv W<|gp W (H8 W) (fun _=>W) (gf W (vl W G_hit W)<|gf W (fun _=>W)<|bs hz2 fun v5 hv5 hz2=> ?_)))))
 refine I9 _ (bo v5) (H8 W) (fun w35=>⟨_,[(di v1.Limit),(di 0),(di v3.1)],_,_,(by simp only [A3 w35];rfl),W,A2,Bj _ _ _ _<|C2 w35 hv5,(.inl W)⟩) ?_
 refine M5 _ (.d (bo (!v5))) W (H8 W) (fun w36=>(by simp only [A3 w36];rfl)) ?_
 refine sd W (L8 W W<|fun hc=>A3<|G0 hc)<|A1<|cc W hz2 (fun c3 hz2=> ?_)<|fun c3 hz2=> ?_
 refine B1<|sv W<|A1<|B2 ?_
 cases hz2
 obtain rfl:=ez2 _ rfl
 refine ⟨nofun,E5 ?_⟩
 rw [bT]at h
 cases h
 exact A7 (.inr W) (B4 (B3 W) B8) (.refl _)
 refine A8<|D4<|C1<|sv W<|sv W<|A1<|D6 ?_
 cases hz2
 exact ⟨W,(),(E3 W W)⟩
 refine C6 W ?_
 cases hz2
 obtain rfl:=ez2 _ rfl
 refine ⟨nofun,C3 W<|T4 ?_⟩
 exact ⟨_,(),W,(E3 W W)⟩
 rintro _ ⟨y1,g1,rfl,q1⟩
 rw [bS]at h
 refine B5 q1<|B1<|sv W<|A1<|B2 ?_
 cases h
 exact A7 (.inr W) (B4 (B3 W) B8) (.refl _)
def R3 [Lp](v:Nat)(p1:RoadsCheck):Option Int:=
  cond (Nat.beq v 148) (Z5 p1) (cond (Nat.beq v 149) (T5 p1) (cond (Nat.beq v 150) (T1 p1) (cond (Nat.beq v 151) (Q9 p1) (cond (Nat.beq v 152) (T6 p1) (cond (Nat.beq v 153) (T7 p1) (none))))))
theorem Pm(v p1 r)(h:R3 v p1=some r):PCall prog v [(.agg [(i64 p1.Map_.Version),(.list (List.map Do p1.Map_.Lanes)),(.list (List.map Dp p1.Map_.Zones)),(.list (List.map Ju p1.Map_.Signals)),(.list (List.map Rt p1.Map_.Works))])] (i64 r):=by
  unfold R3 at h
  rcases EM h with ⟨rfl,h⟩|⟨_,h⟩
  ·exact Ve _ r h
  rcases EM h with ⟨rfl,h⟩|⟨_,h⟩
  ·exact Yd _ r h
  rcases EM h with ⟨rfl,h⟩|⟨_,h⟩
  ·exact Ws _ r h
  rcases EM h with ⟨rfl,h⟩|⟨_,h⟩
  ·exact Vf _ r h
  rcases EM h with ⟨rfl,h⟩|⟨_,h⟩
  ·exact Ye _ r h
  rcases EM h with ⟨rfl,h⟩|⟨_,h⟩
  ·exact Yf _ r h
  cases h
def N2 [Lp](p1:Map)(x1:Int):Option (Stp Int (Sum Unit Int)):=
  cond (decide (x1< ([148,149,150,151,152,153].length:Int))) ((C8 [148,149,150,151,152,153] x1).bind fun v1=>(R3 v1 (RoadsCheck.mk p1)).bind fun v2=>cond (v2 !=0) (some (.out (.inr v2))) (some (.go (C9 (x1+1))))) (some (.out (.inl ())))
def Az [Lp](p1:Map):Option Int:=
  thenS (loop (N2 p1) 0) (fun _=>some 0) (fun r=>some r)
theorem Rw(p1 r)(h:Az p1=some r):PCall prog 71 [(.agg (O8 p1))] (i64 r):=by
 refine C0 (fk func71 ntmps71 (fun r=>if r==1 then [1000]else []) (by with_unfolding_all rfl)) (nl W) ?_
 unfold Az at h
 refine B5 (s0:=⟨T [(0,(.d _))],G []⟩) (E3 W W) ?_
 refine lr<|fun u1 _=>sm W<|sv W<|A1<|A4<|B1<|B9 (dl mP [148,149,150,151,152,153]) W W (sd W (D0 W)<|sv W<|A1<|js h fun z1 hz1 h=>D3 (fun s=> ∃(y1:Unit) (g1:Unit),z1= .inl y1∧Sb ⟨T [],G []⟩ s) ?_ ?_)
 refine A9<|D7 (N2 p1) (fun (x1:Int) (g2:Unit)=>⟨T [(1,(.ptr (1,u1) 0)),(6,(dl mP [148,149,150,151,152,153])),(7,(di ([148,149,150,151,152,153].length:Int))),(8,(di x1))],G [((1,u1),some<|.box 33 (K7 p1))]⟩) 0 () _ hz1 (E3 W W) ?_
 intro x1 g2 z2 hz2 ez2
 unfold N2 at hz2
 refine B1<|sv W<|A1<|A4<|cc W hz2 (fun c1 hz2=> ?_)<|fun c1 hz2=> ?_
 refine A8<|A4<|A9<|B1<|bs hz2 fun _ hv1 hz2=>sd W (C5 W W hv1 W)<|sd W (D1 W hv1 W)<|sv W<|A1<|B1<|sv W<|sd W (A6 W G_hit W W)<|sv W<|bs hz2 fun _ hv2 hz2=>B0 W W A2 (Pm _ _ _ hv2) (.inl W) (sv W<|A1<|B1<|sv W<|sv W<|A1<|cc W hz2 (fun c2 hz2=> ?_)<|fun c2 hz2=> ?_)
 refine B1<|sv W<|sv W<|A1<|B2 ?_
 cases hz2
 obtain rfl:=ez2 _ rfl
 refine ⟨nofun,E5 ?_⟩
 rw [bT]at h
 cases h
 exact A7 (.inr W) (B4 (B3 W) B8) (.refl _)
 refine A8<|D4<|C1<|sv W<|sv W<|A1<|D6 ?_
 cases hz2
 exact ⟨W,(),(E3 W W)⟩
 refine C6 W ?_
 cases hz2
 obtain rfl:=ez2 _ rfl
 refine ⟨nofun,C3 W<|T4 ?_⟩
 exact ⟨_,(),W,(E3 W W)⟩
 rintro _ ⟨y1,g1,rfl,q1⟩
 rw [bS]at h
 refine B5 q1<|B1<|sv W<|A1<|B2 ?_
 cases h
 exact A7 (.inr W) (B4 (B3 W) B8) (.refl _)
def Y2 (p1:(List Int))(p2:Int)(x1:Int):Option (Stp Int (Sum Unit Int)):=
  cond (decide (x1< (p1.length:Int))) ((C8 p1 x1).bind fun v1=>cond (p2==v1) (some (.out (.inr x1))) (some (.go (C9 (x1+1))))) (some (.out (.inl ())))
def S7 [Lp](p1:(List Int))(p2:Int):Option Int:=
  thenS (loop (Y2 p1 p2) 0) (fun _=>some (-1)) (fun r=>some r)
theorem Mi(p1 p2 r)(h:S7 p1 p2=some r):PCall prog 244 [(.list (List.map A5 p1)),(i64 p2)] (i64 r):=by
 refine C0 (fk func244 ntmps244 m0 (by with_unfolding_all rfl)) (nl W) ?_
 unfold S7 at h
 refine B5 (s0:=⟨T [(0,(.d _)),(1,(.d _))],G []⟩) (E3 W W) ?_
 refine B1<|sv W<|A1<|A4<|B1<|sv W<|sd W (D0 W)<|sv W<|A1<|js h fun z1 hz1 h=>D3 (fun s=> ∃(y1:Unit) (g1:Unit),z1= .inl y1∧Sb ⟨T [],G []⟩ s) ?_ ?_
 refine A9<|D7 (Y2 p1 p2) (fun (x1:Int) (g2:Unit)=>⟨T [(0,(dl A5 p1)),(1,(di p2)),(7,(di (p1.length:Int))),(8,(di x1))],G []⟩) 0 () _ hz1 (E3 W W) ?_
 intro x1 g2 z2 hz2 ez2
 unfold Y2 at hz2
 refine B1<|sv W<|A1<|A4<|cc W hz2 (fun c1 hz2=> ?_)<|fun c1 hz2=> ?_
 refine A8<|A4<|A9<|B1<|sv W<|sv W<|A1<|B1<|sv W<|sv W<|sv W<|bs hz2 fun _ hv1 hz2=>sd W (C5 W W hv1 W)<|sd W (D1 W hv1 W)<|sv W<|A1<|cc W hz2 (fun c2 hz2=> ?_)<|fun c2 hz2=> ?_
 refine B1<|sv W<|sv W<|A1<|B2 ?_
 cases hz2
 obtain rfl:=ez2 _ rfl
 refine ⟨nofun,E5 ?_⟩
 rw [bT]at h
 cases h
 exact A7 (.inr W) (B4 (B3 W) B8) (.refl _)
 refine A8<|D4<|C1<|sv W<|sv W<|A1<|D6 ?_
 cases hz2
 exact ⟨W,(),(E3 W W)⟩
 refine C6 W ?_
 cases hz2
 obtain rfl:=ez2 _ rfl
 refine ⟨nofun,C3 W<|T4 ?_⟩
 exact ⟨_,(),W,(E3 W W)⟩
 rintro _ ⟨y1,g1,rfl,q1⟩
 rw [bS]at h
 refine B5 q1<|B1<|sv W<|A1<|B2 ?_
 cases h
 exact A7 (.inr W) (B4 (B3 W) B8) (.refl _)
def M2 [Lp](p1:(List Int))(p2:Int):Option Bool:=
  (S7 p1 p2).bind fun v1=>some (decide (v1≥0))
theorem Ct(p1 p2 r)(h:M2 p1 p2=some r):PCall prog 215 [(.list (List.map A5 p1)),(i64 p2)] (bo r):=by
 refine C0 (fk func215 ntmps215 m0 (by with_unfolding_all rfl)) (nl W) ?_
 unfold M2 at h
 refine B5 (s0:=⟨T [(0,(.d _)),(1,(.d _))],G []⟩) (E3 W W) ?_
 refine B1<|sv W<|A1<|B1<|sv W<|sv W<|bs h fun _ hv1 h=>B0 W W A2 (Mi _ _ _ hv1) (.inl W) (sv W<|sv W<|A1<|B2 ?_)
 cases h
 exact A7 (.inr W) (B4 (B3 W) B8) (.refl _)
def Z8 [Lp](p1:Map)(p2:Int)(x1:((List Int)×Int)):Option (Stp ((List Int)×Int) (List Int)):=
  cond (decide (x1.2< (p1.Lanes.length:Int))) ((C8 p1.Lanes x1.2).bind fun v1=>(M2 v1.Next p2).bind fun v2=>cond v2 ((Fk x1.1 [x1.2]).bind fun v3=>some (.go (v3,(C9 (x1.2+1))))) (some (.go (x1.1,(C9 (x1.2+1)))))) (some (.out x1.1))
def Ef [Lp](p1:Map)(p2:Int):Option (List Int):=
  (loop (Z8 p1 p2) ([],0)).bind fun y1=>some y1
theorem GJ(p1 p2 r)(h:Ef p1 p2=some r):PCall prog 214 [(.agg (O8 p1)),(i64 p2)] (.list (List.map A5 r)):=by
 refine C0 (fk func214 ntmps214 (fun r=>if r==6 then [1002]else []) (by with_unfolding_all rfl)) (nl W) ?_
 unfold Ef at h
 refine B5 (s0:=⟨T [(0,(.d _)),(1,(.d _))],G []⟩) (E3 W W) ?_
 refine B1<|sm W<|sv W<|A1<|B1<|sv W<|A1<|A4<|B1<|sq W<|sl W G_hit W<|sd W (D0 W)<|sv W<|A1<|bs h fun y1 hy1 h=>D3 (fun s=> ∃g1:Nat,Sb ⟨T [(5,(oS y1 (23,g1)))],G [((23,g1),oB 3 1 A5 y1)]⟩ s) ?_ ?_
 refine A9<|D7 (Z8 p1 p2) (fun (x1:((List Int)×Int)) (g2:Nat)=>⟨T [(1,(di p2)),(5,(oS x1.1 (23,g2))),(9,(dl Do p1.Lanes)),(10,(di (p1.Lanes.length:Int))),(11,(di x1.2))],G [((23,g2),oB 3 1 A5 x1.1)]⟩) ([],0) 0 _ hy1 (D2 (X5 W)<|O9 trivial) ?_
 intro x1 g2 z1 hz1 ez1
 unfold Z8 at hz1
 refine B1<|sv W<|A1<|A4<|cc W hz1 (fun c1 hz1=> ?_)<|fun c1 hz1=> ?_
 refine A8<|A4<|A9<|B1<|sv W<|bs hz1 fun v1 hv1 hz1=>sd W (C5 W W hv1 W)<|sd W (C7 W hv1 W W)<|sm W<|sv W<|Q4 W G_hit (CY v1) W (A1<|B1<|sq W<|sl W G_hit W<|sv W<|bs hz1 fun _ hv2 hz1=>B0 W W A2 (Ct _ _ _ hv2) (.inl W) (A1<|cc W hz1 (fun c2 hz1=> ?_)<|fun c2 hz1=> ?_))
 refine Be fun u7 _=>B9 (oS x1.1 (23,g2)) W W (sv W<|B9 (dl A5 [x1.2]) W W (bs hz1 fun _ hv3 hz1=>O1 A5 (23,g2) x1.1 x1.2 [] _ (M0<|fun _=>W) W (gq W) hv3 (ss W<|A1<|D4<|C1<|sv W<|sv W<|A1<|D6 ?_)))
 cases hz1
 exact ⟨W,u7,(D2 ⟨.of W,(.of (S5<|T0 hv3).symm), .of W, .of W, .of W,trivial⟩<|L9 G_hit trivial)⟩
 refine A8<|D4<|C1<|sv W<|sv W<|A1<|D6 ?_
 cases hz1
 exact ⟨W,g2,(D2 (X5 W)<|B7 (gq W) trivial)⟩
 refine C6 W ?_
 cases hz1
 obtain rfl:=ez1 _ rfl
 refine ⟨nofun,C3 W<|T4 ?_⟩
 exact ⟨g2,(D2 ⟨.of W,trivial⟩<|B7 G_hit trivial)⟩
 rintro _ ⟨g1,q1⟩
 refine B5 q1<|B1<|B9 (oS y1 (23,g1)) W W (B9 (oS y1 (23,g1)) W W (A1<|B2 ?_))
 cases h
 exact A7 (.inr W) (B4 (B3 W)<|U4 G_hit) U3
def O7 [Lp](p1:Map)(v7:List Int)(x1:(Int×Int)):Option (Stp (Int×Int) (Sum Unit Int)):=
  cond (decide (x1.2< (v7.length:Int))) ((C8 v7 x1.2).bind fun v8=>(C8 p1.Lanes x1.1).bind fun v9=>(M2 v9.Next v8).bind fun v10=>cond (!v10) (some (.out (.inr 13))) (some (.go (v8,(C9 (x1.2+1)))))) (some (.out (.inl ())))
def V4 [Lp](p1:Map)(p2:(List Int)):Option Int:=
  (Az p1).bind fun v1=>cond (v1 !=0) (some v1) (((cond (!(((p2.length:Int)==0)||(decide ((p2.length:Int)>8)))) (C8 p2 0) (some default))).bind fun v2=>((cond (!((((p2.length:Int)==0)||(decide ((p2.length:Int)>8)))||(decide (v2<0)))) (C8 p2 0) (some default))).bind fun v3=>((cond (!(((((p2.length:Int)==0)||(decide ((p2.length:Int)>8)))||(decide (v2<0)))||(decide (v3≥(p1.Lanes.length:Int))))) (C8 p2 0) (some default))).bind fun v4=>((cond (!(((((p2.length:Int)==0)||(decide ((p2.length:Int)>8)))||(decide (v2<0)))||(decide (v3≥(p1.Lanes.length:Int))))) (Ef p1 v4) (some default))).bind fun v5=>cond ((((((p2.length:Int)==0)||(decide ((p2.length:Int)>8)))||(decide (v2<0)))||(decide (v3≥(p1.Lanes.length:Int))))||(decide ((v5.length:Int)>0))) (some 13) ((C8 p2 0).bind fun v6=>(QD p2 1 (p2.length:Int)).bind fun v7=>thenS (loop (O7 p1 v7) (v6,0)) (fun _=>some 0) (fun r=>some r)))
theorem Qn(p1 p2 r)(h:V4 p1 p2=some r):PCall prog 154 [(.agg (O8 p1)),(.list (List.map A5 p2))] (i64 r):=by
 refine C0 (fk func154 ntmps154 m0 (by with_unfolding_all rfl)) (nl W) ?_
 unfold V4 at h
 refine B5 (s0:=⟨T [(0,(.d _)),(1,(.d _))],G []⟩) (E3 W W) ?_
 refine lr<|fun u1 _=>sm W<|sv W<|A1<|A4<|B1<|sd W (A6 W G_hit W W)<|bs h fun _ hv1 h=>B0 W W A2 (Rw _ _ hv1) (.inl W) (sv W<|A1<|B1<|sv W<|sv W<|A1<|cc W h (fun c1 h=> ?_)<|fun c1 h=> ?_)
 refine B1<|sv W<|sv W<|A1<|B2 ?_
 cases h
 exact A7 (.inr W) (B4 (B3 W) B8) (.refl _)
 refine A8<|A4<|A4<|D5 W<|sv W<|sd W (D0 W)<|sv W<|sv W<|gf W (fun _=>W)<|gf W (fun w2=>(D0<|A3 w2))<|gf W (vb W W W)<|sd W (L8 W W<|fun hc=>A3<|G0 hc)<|sv W<|gf W (fun _=>W)<|bs h fun _ hv2 h=>gf W (fun w5=>(C5 (A3 w5) W (C2 w5 hv2) W))<|gf W (fun w6=>(D1 (A3 w6) (C2 w6 hv2) W))<|gf W (vb W W W)<|sd W (L8 W W<|fun hc=>A3<|G0 hc)<|sv W<|gf W (fun _=>W)<|bs h fun _ hv3 h=>gf W (fun w9=>(C5 (A3 w9) W (C2 w9 hv3) W))<|gf W (fun w10=>(D1 (A3 w10) (C2 w10 hv3) W))<|gp W (H8 W) (fun _=>W) (gf W (vl W G_hit W)<|gf W (fun w13=>(D0<|A3 w13))<|gf W (fun w14=>(L4 (A3 w14) (A3 w14) W))<|sd W (L8 W W<|fun hc=>A3<|G0 hc)<|sv W<|gf W (fun _=>(A6 W G_hit W W))<|gf W (fun _=>W)<|bs h fun v4 hv4 h=>gf W (fun w17=>(C5 (A3 w17) W (C2 w17 hv4) W))<|gf W (fun w18=>(D1 (A3 w18) (C2 w18 hv4) W))<|bs h fun v5 hv5 h=> ?_)
 refine I9 _ (.list (List.map A5 v5)) (H8 W) (fun w19=>⟨_,[(.d (.agg (O8 p1))),(di v4)],_,_,(by simp only [A3 w19];rfl),W,A2,GJ _ _ _<|C2 w19 hv5,(.inl W)⟩) ?_
 refine gf W (fun w20=>(D0<|A3 w20))<|gf W (vb W W W)<|sd W (L8 W W<|fun hc=>A3<|G0 hc)<|A1<|cc W h (fun c2 h=> ?_)<|fun c2 h=> ?_
 refine B1<|sv W<|A1<|B2 ?_
 cases h
 exact A7 (.inr W) (B4 (B3 W) B8) (.refl _)
 refine A8<|B1<|sv W<|bs h fun v6 hv6 h=>sd W (C5 W W hv6 W)<|sd W (D1 W hv6 W)<|sv W<|A1<|A4<|B1<|sv W<|bs h fun v7 hv7 h=>sd W (gZ W (fun _=>W) (kC W) aU hv7)<|sd W (D0 W)<|sv W<|A1<|js h fun z1 hz1 h=>D3 (fun s=> ∃(y1:Unit) (g1:Unit),z1= .inl y1∧Sb ⟨T [],G []⟩ s) ?_ ?_
 refine A9<|D7 (O7 p1 v7) (fun (x1:(Int×Int)) (g2:Unit)=>⟨T [(2,(.ptr (2,u1) 0)),(6,(di x1.1)),(50,(dl A5 v7)),(51,(di (v7.length:Int))),(52,(di x1.2))],G [((2,u1),some<|.box 33 (K7 p1))]⟩) (v6,0) () _ hz1 (E3 W W) ?_
 intro x1 g2 z2 hz2 ez2
 unfold O7 at hz2
 refine B1<|sv W<|A1<|A4<|cc W hz2 (fun c3 hz2=> ?_)<|fun c3 hz2=> ?_
 refine A8<|A4<|A9<|B1<|bs hz2 fun _ hv8 hz2=>sd W (C5 W W hv8 W)<|sd W (D1 W hv8 W)<|sv W<|A1<|A4<|B1<|sq W<|sl W G_hit W<|sv W<|bs hz2 fun _ hv9 hz2=>sd W (C5 W W hv9 W)<|sv W<|sd W (D1 W hv9 W)<|sv W<|bs hz2 fun v10 hv10 hz2=>B0 W W A2 (Ct _ _ _ hv10) (.inl W) (B9 (.d (bo (!v10))) W W (A1<|cc W hz2 (fun c4 hz2=> ?_)<|fun c4 hz2=> ?_))
 refine B1<|sv W<|A1<|B2 ?_
 cases hz2
 obtain rfl:=ez2 _ rfl
 refine ⟨nofun,E5 ?_⟩
 rw [bT]at h
 cases h
 exact A7 (.inr W) (B4 (B3 W) B8) (.refl _)
 refine A8<|C1<|sv W<|sv W<|A1<|D4<|C1<|sv W<|sv W<|A1<|D6 ?_
 cases hz2
 exact ⟨W,(),(E3 W W)⟩
 refine C6 W ?_
 cases hz2
 obtain rfl:=ez2 _ rfl
 refine ⟨nofun,C3 W<|T4 ?_⟩
 exact ⟨_,(),W,(E3 W W)⟩
 rintro _ ⟨y1,g1,rfl,q1⟩
 rw [bS]at h
 refine B5 q1<|B1<|sv W<|A1<|B2 ?_
 cases h
 exact A7 (.inr W) (B4 (B3 W) B8) (.refl _)
def V1 [Lp](p1:Map)(p2:(List Int))(x1:(Int× ((List Int)×Int))):Option (Stp (Int× ((List Int)×Int)) ((List Int)×Int)):=
  cond (decide (x1.1< (p2.length:Int))) ((C8 p2 x1.1).bind fun v2=>(Fk x1.2.1 [x1.2.2]).bind fun v3=>(Bn p1 v2).bind fun v4=>some (.go ((C9 (x1.1+1)),(v3,(C9 (x1.2.2+v4)))))) (some (.out x1.2))
def X6 [Lp](p1:Map)(p2:(List Int)):Option RoadsWay:=
  (V4 p1 p2).bind fun v1=>cond (v1 !=0) (some (RoadsWay.mk (Map.mk 0 [] [] [] []) [] [] 0)) ((loop (V1 p1 p2) (0,([],0))).bind fun y1=>some (RoadsWay.mk p1 p2 y1.1 y1.2))
theorem Hl(p1 p2 r)(h:X6 p1 p2=some r):PCall prog 205 [(.agg (O8 p1)),(.list (List.map A5 p2))] (.agg (XF r)):=by
 refine C0 (fk func205 ntmps205 (fun r=>if r==7 then [1004]else []) (by with_unfolding_all rfl)) (nl W) ?_
 unfold X6 at h
 refine B5 (s0:=⟨T [(0,(.d _)),(1,(.d _))],G []⟩) (E3 W W) ?_
 refine lr<|fun u1 _=>sm W<|sm W<|A1<|A4<|B1<|sd W (A6 W (gq W) W W)<|sv W<|bs h fun _ hv1 h=>B0 W W A2 (Qn _ _ _ hv1) (.inl W) (sv W<|A1<|cc W h (fun c1 h=> ?_)<|fun c1 h=> ?_)
 refine B1<|sv W<|Q4 W G_hit [(di 0),(.d .nilS),(.d .nilS),(.d .nilS),(.d .nilS),(.d .nilS),(.d .nilS),(di 0)] W (A1<|B2 ?_)
 cases h
 exact A7 (.inr W) (B4 (G5 W G_hit (nl W) W) B8) (.agg (ca W<|.cons ⟨DLe.nil,W⟩ (.cons ⟨DLe.nil,W⟩ (.cons ⟨DLe.nil,W⟩ (.cons ⟨DLe.nil,W⟩ (.cons ⟨DLe.nil,W⟩ (.cons ⟨DLe.nil,W⟩ (cz W))))))))
 refine A8<|lr<|fun u4 _=>sd W (A6 W (gq W) W W)<|sv W<|sv W<|sm W<|Q4 W G_hit ((K7 p1)++ [(dl A5 p2),(.d .nilS),(di 0)]) W (A1<|A4<|B1<|sv W<|sd W (D0 W)<|sv W<|A1<|bs h fun y1 hy1 h=>D3 (fun s=> ∃g1:Nat,Sb ⟨T [(4,(.ptr (4,u1) 0)),(5,(.ptr (5,u4) 0))],G [((4,u1),some<|.box 260 [(di 0),(.d .nilS),(.d .nilS),(.d .nilS),(.d .nilS),(.d .nilS),(.d .nilS),(di 0)]),((5,u4),some<|.box 260 ((K7 p1)++ [(dl A5 p2),(oS y1.1 (27,g1)),(di y1.2)])),((27,g1),oB 2 1 A5 y1.1)]⟩ s) ?_ ?_)
 refine A9<|D7 (V1 p1 p2) (fun (x1:(Int× ((List Int)×Int))) (g2:Nat)=>⟨T [(2,(.ptr (2,u1) 0)),(4,(.ptr (4,u1) 0)),(5,(.ptr (5,u4) 0)),(16,(dl A5 p2)),(17,(di (p2.length:Int))),(18,(di x1.1))],G [((2,u1),some<|.box 33 (K7 p1)),((4,u1),some<|.box 260 [(di 0),(.d .nilS),(.d .nilS),(.d .nilS),(.d .nilS),(.d .nilS),(.d .nilS),(di 0)]),((5,u4),some<|.box 260 ((K7 p1)++ [(dl A5 p2),(oS x1.2.1 (27,g2)),(di x1.2.2)])),((27,g2),oB 2 1 A5 x1.2.1)]⟩) (0,([],0)) 0 _ hy1 (D2 (X5 W)<|sg W<|sg W<|B6 G_hit (.of W)<|O9 trivial) ?_
 intro x1 g2 z1 hz1 ez1
 unfold V1 at hz1
 refine B1<|sv W<|A1<|A4<|cc W hz1 (fun c2 hz1=> ?_)<|fun c2 hz1=> ?_
 refine A8<|A4<|A9<|B1<|bs hz1 fun _ hv2 hz1=>sd W (C5 W W hv2 W)<|sd W (D1 W hv2 W)<|sv W<|A1<|lr<|fun u8 _=>sq W<|B9 (oS x1.2.1 (27,g2)) W (N8 W (gq W) W) (sq W<|sl W (gq W) W (B9 (dl A5 [x1.2.2]) W W (bs hz1 fun _ hv3 hz1=>O1 A5 (27,g2) x1.2.1 x1.2.2 [] _ (M0<|fun _=>W) W (gq W) hv3 (sq W<|Q4 W (gq W) ((K7 p1)++ [(dl A5 p2),(.sl (27,u8)),(di x1.2.2)]) W (A1<|D5 W<|sq W<|sl W G_hit W<|sd W (A6 W (gq W) W W)<|sv W<|bs hz1 fun v4 hv4 hz1=>B0 W W A2 (Ot _ _ _ hv4) (.inl W) (sv W<|sq W<|Q4 W G_hit ((K7 p1)++ [(dl A5 p2),(.sl (27,u8)),(di<|C9 (x1.2.2+v4))]) W (A1<|D4<|C1<|sv W<|sv W<|A1<|D6 ?_)))))))
 cases hz1
 exact ⟨W,u8,(D2 (X5 W)<|sg W<|sg W<|B6 G_hit (.box (cv<|cv<|cv<|cv<|cv<|cv<|.cons (.of (S5<|T0 hv3).symm) cw))<|L9 (gq W) trivial)⟩
 refine C6 W ?_
 cases hz1
 obtain rfl:=ez1 _ rfl
 refine ⟨nofun,C3 W<|T4 ?_⟩
 exact ⟨g2,(D2 (X5 W)<|sg W<|sg W<|B7 (gq W) trivial)⟩
 rintro _ ⟨g1,q1⟩
 refine B5 q1<|B1<|B9 (Y6 ((K7 p1)++ [(dl A5 p2),(oS y1.1 (27,g1)),(di y1.2)])) W (A6 W (gq W) W W) (Ll _ _ _ _ _ (X4 _) W W G_hit (nl W) ((K7 p1)++ [(dl A5 p2),(oS y1.1 (27,g1)),(di y1.2)]) W (A1<|B2 ?_))
 cases h
 exact A7 (.inr W) (B4 (G5 W G_hit (nl W) W)<|Mz<|rD<|rD<|rD<|rD<|rD<|rD<|E0 (U4<|gq W)<|rD F0) (.agg (ca W<|ca W<|ca W<|ca W<|ca W<|ca W<|.cons ⟨U3,W⟩ (cz W)))
def R5 [Lp](p1:Map)(p2:(List Int)):Option Int:=
  (X6 p1 p2).bind fun v1=>some v1.length
theorem Jb(p1 p2 r)(h:R5 p1 p2=some r):PCall prog 155 [(.agg (O8 p1)),(.list (List.map A5 p2))] (i64 r):=by
 refine C0 (fk func155 ntmps155 m0 (by with_unfolding_all rfl)) (nl W) ?_
 unfold R5 at h
 refine B5 (s0:=⟨T [(0,(.d _)),(1,(.d _))],G []⟩) (E3 W W) ?_
 refine B1<|sm W<|sv W<|A1<|B1<|sd W (A6 W G_hit W W)<|sv W<|bs h fun _ hv1 h=>B0 W W A2 (Hl _ _ _ hv1) (.inl W) (sv W<|sv W<|A1<|B2 ?_)
 cases h
 exact A7 (.inr W) (B4 (B3 W) B8) (.refl _)
def Au [Lp](p1:Map)(p2:(List Int)):Option (List Int):=
  (X6 p1 p2).bind fun v1=>some v1.starts
theorem Qa(p1 p2 r)(h:Au p1 p2=some r):PCall prog 139 [(.agg (O8 p1)),(.list (List.map A5 p2))] (.list (List.map A5 r)):=by
 refine C0 (fk func139 ntmps139 m0 (by with_unfolding_all rfl)) (nl W) ?_
 unfold Au at h
 refine B5 (s0:=⟨T [(0,(.d _)),(1,(.d _))],G []⟩) (E3 W W) ?_
 refine B1<|sm W<|sv W<|A1<|B1<|sd W (A6 W G_hit W W)<|sv W<|bs h fun _ hv1 h=>B0 W W A2 (Hl _ _ _ hv1) (.inl W) (sv W<|sv W<|A1<|B2 ?_)
 cases h
 exact A7 (.inr W) (B4 (B3 W) B8) (.refl _)
def Hy (p2:Agent)(v1:(List Int))(x1:Int):Option (Stp Int Int):=
  (C8 v1 x1).bind fun v2=>cond (decide (v2>p2.S)) (some (.go (C9 (x1 - 1)))) (some (.out x1))
def Gr [Lp](p1:Map)(p2:Agent):Option (Int×Int):=
  (Au p1 p2.Route).bind fun v1=>(loop (Hy p2 v1) (C9 ((v1.length:Int) - 1))).bind fun y1=>(C8 p2.Route y1).bind fun v3=>(C8 v1 y1).bind fun v4=>some (v3,(C9 (p2.S - v4)))
theorem Zy(p1 p2 r)(h:Gr p1 p2=some r):PCall prog 156 [(.agg (O8 p1)),(.agg (E4 p2))] (.tup [(i64 r.1),(i64 r.2)]):=by
 refine C0 (fk func156 ntmps156 m0 (by with_unfolding_all rfl)) (nl W) ?_
 unfold Gr at h
 refine B5 (s0:=⟨T [(0,(.d _)),(1,(.d _))],G []⟩) (E3 W W) ?_
 refine lr<|fun u1 _=>sm W<|sm W<|sv W<|sv W<|A1<|B1<|sd W (A6 W (gq W) W W)<|sq W<|sl W G_hit W<|bs h fun v1 hv1 h=>B0 W W A2 (Qa _ _ _ hv1) (.inl W) (sv W<|A1<|B1<|sv W<|sd W (D0 W)<|sv W<|sv W<|A1<|A4<|bs h fun y1 hy1 h=>D3 (fun s=> ∃g1:Unit,Sb ⟨T [(3,(.ptr (3,u1) 0)),(6,(dl A5 v1)),(7,(di y1))],G [((3,u1),some<|.box 45 (W9 p2))]⟩ s) ?_ ?_)
 refine A9<|D7 (Hy p2 v1) (fun (x1:Int) (g2:Unit)=>⟨T [(3,(.ptr (3,u1) 0)),(6,(dl A5 v1)),(7,(di x1))],G [((3,u1),some<|.box 45 (W9 p2))]⟩) (C9 ((v1.length:Int) - 1)) () _ hy1 (E3 W W) ?_
 intro x1 g2 z1 hz1 ez1
 unfold Hy at hz1
 refine A4<|A4<|D5 W<|sv W<|sv W<|bs hz1 fun _ hv2 hz1=>sd W (C5 W W hv2 W)<|sd W (D1 W hv2 W)<|sq W<|sl W G_hit W<|sv W<|A1<|cc W hz1 (fun c1 hz1=> ?_)<|fun c1 hz1=> ?_
 refine A8<|A9<|C1<|sv W<|sv W<|sv W<|A1<|D4<|D6 ?_
 cases hz1
 exact ⟨W,(),(E3 W W)⟩
 refine C6 W ?_
 cases hz1
 obtain rfl:=ez1 _ rfl
 refine ⟨nofun,C3 W<|T4 ?_⟩
 exact ⟨(),(E3 W W)⟩
 rintro _ ⟨g1,q1⟩
 refine B5 q1<|A4<|D5 W<|sq W<|sl W G_hit W<|sv W<|bs h fun _ hv3 h=>sd W (C5 W W hv3 W)<|sd W (D1 W hv3 W)<|sq W<|sl W G_hit W<|sv W<|sv W<|bs h fun _ hv4 h=>sd W (C5 W W hv4 W)<|sd W (D1 W hv4 W)<|sv W<|sv W<|sv W<|A1<|B2 ?_
 cases h
 exact A7 (.inr W) (Iz (B3 W) (B3 W) B8 B8) (.refl _)
def Es (p1:Agent):Option WorldSpan:=
  some (WorldSpan.mk (C9 (p1.S - p1.Len)) p1.S)
theorem Hz(p1 r)(h:Es p1=some r):PCall prog 140 [(.agg (E4 p1))] (.agg [(i64 r.from_),(i64 r.to)]):=by
 refine C0 (fk func140 ntmps140 m0 (by with_unfolding_all rfl)) (nl W) ?_
 unfold Es at h
 refine B5 (s0:=⟨T [(0,(.d _))],G []⟩) (E3 W W) ?_
 refine B1<|sm W<|sn W W<|A1<|B1<|sq W<|sl W (gq W) W (sq W<|sl W (gq W) W (sv W<|sq W<|sl W (gq W) W (sv W<|Q4 W G_hit [(di<|C9 (p1.S - p1.Len)),(di p1.S)] W (A1<|B2 ?_))))
 cases h
 exact A7 (.inr W) (B4 (G5 W G_hit (nl W) W) B8) (.refl _)
def Gs [Lp](p1:Map)(p2:Agent):Option Bool:=
  (Es p2).bind fun v1=>(R5 p1 p2.Route).bind fun v2=>some (decide (v1.from_>v2))
theorem Zz(p1 p2 r)(h:Gs p1 p2=some r):PCall prog 158 [(.agg (O8 p1)),(.agg (E4 p2))] (bo r):=by
 refine C0 (fk func158 ntmps158 m0 (by with_unfolding_all rfl)) (nl W) ?_
 unfold Gs at h
 refine B5 (s0:=⟨T [(0,(.d _)),(1,(.d _))],G []⟩) (E3 W W) ?_
 refine B1<|sm W<|sn W W<|sv W<|A1<|A4<|D5 W<|sd W (A6 W G_hit W W)<|bs h fun _ hv1 h=>B0 W W A2 (Hz _ _ hv1) (.inl W) (sv W<|sd W (A6 W (gq W) W W)<|sq W<|sl W G_hit W<|bs h fun _ hv2 h=>B0 W W A2 (Jb _ _ _ hv2) (.inl W) (sv W<|sv W<|A1<|B2 ?_))
 cases h
 exact A7 (.inr W) (B4 (B3 W) B8) (.refl _)
def Y3 [Lp](p1:Map)(p2:State)(p3:Int):Option Int:=
  (C8 p2.Agents p3).bind fun v1=>(V4 p1 v1.Route).bind fun v2=>cond (v2 !=0) (some 13) (((cond (!(((((decide (v1.Len<300))||(decide (v1.Len>20000)))||(decide (v1.Begin<0)))||(decide (v1.Begin>1099511627776)))||(decide (v1.S<0)))) (R5 p1 v1.Route) (some default))).bind fun v3=>cond ((((((decide (v1.Len<300))||(decide (v1.Len>20000)))||(decide (v1.Begin<0)))||(decide (v1.Begin>1099511627776)))||(decide (v1.S<0)))||(decide (v1.S>(C9 ((C9 (v3+v1.Len))+2000))))) (some 2) ((Gr p1 v1).bind fun v4=>(C8 p1.Lanes v4.1).bind fun v5=>(Ec v5.Kind).bind fun v6=>cond ((decide (v1.V<0))||(decide (v1.V>v6.1))) (some 2) ((Gs p1 v1).bind fun v7=>cond ((!(v1.Gone==v7))||(((decide (v1.Begin>p2.Tick))&& (v1.S !=0))||((p3==0)&& (v1.Begin !=0)))) (some 10) (some 0))))
theorem Zp(p1 p2 p3 r)(h:Y3 p1 p2 p3=some r):PCall prog 72 [(.agg (O8 p1)),(.agg (U5 p2)),(i64 p3)] (i64 r):=by
 refine C0 (fk func72 ntmps72 m0 (by with_unfolding_all rfl)) (nl W) ?_
 unfold Y3 at h
 refine B5 (s0:=⟨T [(0,(.d _)),(1,(.d _)),(2,(.d _))],G []⟩) (E3 W W) ?_
 refine B1<|sm W<|sn W W<|sv W<|A1<|B1<|sq W<|sl W G_hit W<|sv W<|bs h fun v1 hv1 h=>sd W (C5 W W hv1 W)<|sd W (C7 W hv1 W W)<|sm W<|Q4 W G_hit (W9 v1) W (A1<|A4<|B1<|sd W (A6 W (gq W) W W)<|sq W<|sl W G_hit W<|bs h fun _ hv2 h=>B0 W W A2 (Qn _ _ _ hv2) (.inl W) (sv W<|A1<|cc W h (fun c1 h=> ?_)<|fun c1 h=> ?_))
 refine B1<|sv W<|A1<|B2 ?_
 cases h
 exact A7 (.inr W) (B4 (B3 W) B8) (.refl _)
 refine A8<|A4<|A4<|D5 W<|sq W<|sl W G_hit W<|sv W<|sv W<|gp W (H8 W) (fun _=>W) (gf W (vl W G_hit W)<|gf W (vb W W W)<|sd W (L8 W W<|fun hc=>A3<|G0 hc)<|sv W<|gp W (H8 W) (fun _=>W) (gf W (vl W G_hit W)<|gf W (vb W W W)<|sd W (L8 W W<|fun hc=>A3<|G0 hc)<|sv W<|gp W (H8 W) (fun _=>W) (gf W (vl W G_hit W)<|gf W (vb W W W)<|sd W (L8 W W<|fun hc=>A3<|G0 hc)<|sv W<|gp W (H8 W) (fun _=>W) (gf W (vl W G_hit W)<|gf W (vb W W W)<|sd W (L8 W W<|fun hc=>A3<|G0 hc)<|sv W<|gp W (H8 W) (fun _=>W) (gf W (vl W G_hit W)<|gf W (fun _=>(A6 W (gq W) W W))<|gp W (H8 W) (fun _=>W) (gf W (vl W G_hit W)<|bs h fun v3 hv3 h=> ?_))))))
 refine I9 _ (i64 v3) (H8 W) (fun w18=>⟨_,[(.d (.agg (O8 p1))),(dl A5 v1.Route)],_,_,(by simp only [A3 w18];rfl),W,A2,Jb _ _ _<|C2 w18 hv3,(.inl W)⟩) ?_
 refine gp W (H8 W) (fun _=>W) (gf W (vl W G_hit W)<|gf W (fun w21=>(L4 (A3 w21) (A3 w21) W))<|gf W (vb W W W)<|gf W (fun w23=>(L4 (A3 w23) (A3 w23) W))<|sd W (L8 W W<|fun hc=>A3<|G0 hc)<|A1<|cc W h (fun c2 h=> ?_)<|fun c2 h=> ?_)
 refine B1<|sv W<|A1<|B2 ?_
 cases h
 exact A7 (.inr W) (B4 (B3 W) B8) (.refl _)
 refine A8<|B1<|sd W (A6 W (gq W) W W)<|sd W (A6 W G_hit W W)<|bs h fun _ hv4 h=>B0 W W A2 (Zy _ _ _ hv4) (.inl W) (sv W<|sv W<|sv W<|sv W<|sv W<|A1<|A4<|B1<|sq W<|sl W (gq W) W (sv W<|bs h fun _ hv5 h=>sd W (C5 W W hv5 W)<|sv W<|sd W (D1 W hv5 W)<|bs h fun _ hv6 h=>B0 W W A2 (Lq _ _ hv6) (.inl W) (sv W<|sv W<|sv W<|sv W<|sv W<|sv W<|sv W<|A1<|B1<|sq W<|sl W G_hit W<|sv W<|sv W<|gp W (H8 W) (fun _=>W) (gf W (vl W G_hit W)<|gf W (fun _=>W)<|gf W (fun w27=>(L4 (A3 w27) (A3 w27) W))<|sd W (L8 W W<|fun hc=>A3<|G0 hc)<|A1<|cc W h (fun c3 h=> ?_)<|fun c3 h=> ?_))))
 refine B1<|sv W<|A1<|B2 ?_
 cases h
 exact A7 (.inr W) (B4 (B3 W) B8) (.refl _)
 refine A8<|B1<|sq W<|sl W G_hit W<|sq W<|sl W (gq W) W (sv W<|sv W<|gp W (I8 W) (fun _=>W) (gt W (vl W G_hit W)<|gt W (vb W W W)<|sa W W W<|sv W<|gf W (fun _=>W)<|gf W (vb W W W)<|gf W (fun w33=>(ED<|A3 w33))<|M5 _ (.ptr _ _) W (O2 W) (fun _=>W) (gv W (O2 W) (vl W G_hit W) (gv W (O2 W) (vb W W W) (gf W (fun w37=>(Uh (A3 w37) (fun hc=>A3<|Ui w37 hc) W))<|sd W (L8 W W<|fun hc=>A3<|G0 hc)<|sv W<|A1<|A4<|A4<|D5 W<|sq W<|sl W G_hit W<|sd W (A6 W (gq W) W W)<|sd W (A6 W G_hit W W)<|bs h fun v7 hv7 h=>B0 W W A2 (Zz _ _ _ hv7) (.inl W) (B9 (.d (bo (!(v1.Gone==v7)))) W W (sv W<|gf W (fun _=>W)<|sd W (L8 W W<|fun hc=>A3<|G0 hc)<|A1<|cc W h (fun c4 h=> ?_)<|fun c4 h=> ?_)))))))
 refine B1<|sv W<|A1<|B2 ?_
 cases h
 exact A7 (.inr W) (B4 (B3 W) B8) (.refl _)
 refine A8<|B1<|sv W<|A1<|B2 ?_
 cases h
 exact A7 (.inr W) (B4 (B3 W) B8) (.refl _)
def Ia (p1:Int):Option Bool:=
  some (p1 !=p1)
theorem Uk(p1 r)(h:Ia p1=some r):PCall prog 216 [(i64 p1)] (bo r):=by
 refine C0 (fk func216 ntmps216 m0 (by with_unfolding_all rfl)) (nl W) ?_
 unfold Ia at h
 refine B5 (s0:=⟨T [(0,(.d _))],G []⟩) (E3 W W) ?_
 refine B1<|sv W<|A1<|B1<|sv W<|sv W<|sv W<|sv W<|A1<|B2 ?_
 cases h
 exact A7 (.inr W) (B4 (B3 W) B8) (.refl _)
def Z9 (p1:Int)(p2:Int):Option Int:=
  (Ia p1).bind fun v1=>(Ia p2).bind fun v2=>cond v1 (cond v2 (some 0) (some (-1))) (cond v2 (some 1) (cond (decide (p1<p2)) (some (-1)) (cond (decide (p1>p2)) (some 1) (some 0))))
theorem Gu(p1 p2 r)(h:Z9 p1 p2=some r):PCall prog 160 [(i64 p1),(i64 p2)] (i64 r):=by
 refine C0 (fk func160 ntmps160 m0 (by with_unfolding_all rfl)) (nl W) ?_
 unfold Z9 at h
 refine B5 (s0:=⟨T [(0,(.d _)),(1,(.d _))],G []⟩) (E3 W W) ?_
 refine B1<|sv W<|A1<|B1<|sv W<|bs h fun _ hv1 h=>B0 W W A2 (Uk _ _ hv1) (.inl W) (sv W<|A1<|B1<|sv W<|bs h fun _ hv2 h=>B0 W W A2 (Uk _ _ hv2) (.inl W) (sv W<|A1<|A4<|B1<|sv W<|A1<|cc W h (fun c1 h=> ?_)<|fun c1 h=> ?_))
 refine A4<|B1<|sv W<|A1<|cc W h (fun c2 h=> ?_)<|fun c2 h=> ?_
 refine B1<|sv W<|A1<|B2 ?_
 cases h
 exact A7 (.inr W) (B4 (B3 W) B8) (.refl _)
 refine A8<|B1<|sv W<|A1<|B2 ?_
 cases h
 exact A7 (.inr W) (B4 (B3 W) B8) (.refl _)
 refine A8<|A4<|B1<|sv W<|A1<|cc W h (fun c3 h=> ?_)<|fun c3 h=> ?_
 refine B1<|sv W<|A1<|B2 ?_
 cases h
 exact A7 (.inr W) (B4 (B3 W) B8) (.refl _)
 refine A8<|A4<|B1<|sv W<|sv W<|sv W<|A1<|cc W h (fun c4 h=> ?_)<|fun c4 h=> ?_
 refine B1<|sv W<|A1<|B2 ?_
 cases h
 exact A7 (.inr W) (B4 (B3 W) B8) (.refl _)
 refine A8<|A4<|B1<|sv W<|sv W<|sv W<|A1<|cc W h (fun c5 h=> ?_)<|fun c5 h=> ?_
 refine B1<|sv W<|A1<|B2 ?_
 cases h
 exact A7 (.inr W) (B4 (B3 W) B8) (.refl _)
 refine A8<|B1<|sv W<|A1<|B2 ?_
 cases h
 exact A7 (.inr W) (B4 (B3 W) B8) (.refl _)
def Kz (p1:(List Int))(x1:Int):Option (Stp Int (Sum Unit Int)):=
  cond (decide (x1< (p1.length:Int))) ((C8 p1 x1).bind fun v1=>cond (v1 !=0) (some (.out (.inr v1))) (some (.go (C9 (x1+1))))) (some (.out (.inl ())))
def Et [Lp](p1:(List Int)):Option Int:=
  thenS (loop (Kz p1) 0) (fun _=>some 0) (fun r=>some r)
theorem Tp(p1 r)(h:Et p1=some r):PCall prog 159 [(.list (List.map A5 p1))] (i64 r):=by
 refine C0 (fk func159 ntmps159 m0 (by with_unfolding_all rfl)) (nl W) ?_
 unfold Et at h
 refine B5 (s0:=⟨T [(0,(.d _))],G []⟩) (E3 W W) ?_
 refine B1<|sv W<|A1<|B1<|sv W<|A1<|A4<|B1<|sv W<|sd W (D0 W)<|sv W<|A1<|js h fun z1 hz1 h=>D3 (fun s=> ∃(y1:Unit) (g1:Unit),z1= .inl y1∧Sb ⟨T [(3,(di 0))],G []⟩ s) ?_ ?_
 refine A9<|D7 (Kz p1) (fun (x1:Int) (g2:Unit)=>⟨T [(3,(di 0)),(6,(dl A5 p1)),(7,(di (p1.length:Int))),(8,(di x1))],G []⟩) 0 () _ hz1 (E3 W W) ?_
 intro x1 g2 z2 hz2 ez2
 unfold Kz at hz2
 refine B1<|sv W<|A1<|A4<|cc W hz2 (fun c1 hz2=> ?_)<|fun c1 hz2=> ?_
 refine A8<|A4<|A9<|B1<|bs hz2 fun _ hv1 hz2=>sd W (C5 W W hv1 W)<|sd W (D1 W hv1 W)<|sv W<|A1<|B1<|sv W<|sv W<|sv W<|A1<|cc W hz2 (fun c2 hz2=> ?_)<|fun c2 hz2=> ?_
 refine B1<|sv W<|sv W<|A1<|B2 ?_
 cases hz2
 obtain rfl:=ez2 _ rfl
 refine ⟨nofun,E5 ?_⟩
 rw [bT]at h
 cases h
 exact A7 (.inr W) (B4 (B3 W) B8) (.refl _)
 refine A8<|D4<|C1<|sv W<|sv W<|A1<|D6 ?_
 cases hz2
 exact ⟨W,(),(E3 W W)⟩
 refine C6 W ?_
 cases hz2
 obtain rfl:=ez2 _ rfl
 refine ⟨nofun,C3 W<|T4 ?_⟩
 exact ⟨_,(),W,(E3 W W)⟩
 rintro _ ⟨y1,g1,rfl,q1⟩
 rw [bS]at h
 refine B5 q1<|B1<|sv W<|sv W<|A1<|B2 ?_
 cases h
 exact A7 (.inr W) (B4 (B3 W) B8) (.refl _)
def Cd [Lp](p1:Stay)(p2:Stay):Option Int:=
  (Z9 p1.Agent_ p2.Agent_).bind fun v1=>(Z9 p1.Zone_ p2.Zone_).bind fun v2=>(Et [v1,v2]).bind fun v3=>some v3
theorem Rx(p1 p2 r)(h:Cd p1 p2=some r):PCall prog 73 [(.agg (J5 p1)),(.agg (J5 p2))] (i64 r):=by
 refine C0 (fk func73 ntmps73 (fun r=>if r==1 then [1010]else []) (by with_unfolding_all rfl)) (nl W) ?_
 unfold Cd at h
 refine B5 (s0:=⟨T [(0,(.d _)),(1,(.d _))],G []⟩) (E3 W W) ?_
 refine B1<|sm W<|sn W W<|sv W<|A1<|A4<|D5 W<|sq W<|sl W (gq W) W (sq W<|sl W G_hit W<|bs h fun v1 hv1 h=>B0 W W A2 (Gu _ _ _ hv1) (.inl W) (sq W<|sl W (gq W) W (sq W<|sl W G_hit W<|bs h fun v2 hv2 h=>B0 W W A2 (Gu _ _ _ hv2) (.inl W) (B9 (dl A5 [v1,v2]) W W (bs h fun _ hv3 h=>B0 W W A2 (Tp _ _ hv3) (.inl W) (sv W<|A1<|B2 ?_))))))
 cases h
 exact A7 (.inr W) (B4 (B3 W) B8) (.refl _)
def Lr (p1:Stay)(p2:State):Option Bool:=
  some ((((decide (p1.Since<0))||(decide (p1.Since>p2.Tick)))||(decide (p1.Rank<0)))||(decide (p1.Rank>100)))
theorem BD(p1 p2 r)(h:Lr p1 p2=some r):PCall prog 75 [(.agg (J5 p1)),(.bp (U5 p2) 0)] (bo r):=by
 refine C0 (fk func75 ntmps75 m0 (by with_unfolding_all rfl)) (nl W) ?_
 unfold Lr at h
 refine B5 (s0:=⟨T [(0,(.d _)),(1,(.d _))],G []⟩) (E3 W W) ?_
 refine B1<|sm W<|sv W<|A1<|B1<|sq W<|sl W G_hit W<|sv W<|sv W<|gp W (H8 W) (fun _=>W) (gf W (vl W G_hit W)<|gf W (fun _=>W) ?_)
 refine gf W (fun w4=>(by simp only [A3 w4];rfl)) ?_
 refine gf W (fun w5=>(L4 (A3 w5) (A3 w5) W))<|sd W (L8 W W<|fun hc=>A3<|G0 hc)<|sv W<|gp W (H8 W) (fun _=>W) (gf W (vl W G_hit W)<|gf W (vb W W W)<|sd W (L8 W W<|fun hc=>A3<|G0 hc)<|sv W<|gp W (H8 W) (fun _=>W) (gf W (vl W G_hit W)<|gf W (vb W W W)<|sd W (L8 W W<|fun hc=>A3<|G0 hc)<|sv W<|A1<|B2 ?_))
 cases h
 exact A7 (.inr W) (B4 (B3 W) B8) (.refl _)
def K9 (p1:(List Stay))(p2:State)(x1:Int):Option (Stp Int (Sum Unit Int)):=
  cond (decide (x1< (p1.length:Int))) ((C8 p1 x1).bind fun v1=>(Lr v1 p2).bind fun v2=>cond v2 (some (.out (.inr x1))) (some (.go (C9 (x1+1))))) (some (.out (.inl ())))
def H7 [Lp](p1:(List Stay))(p2:State):Option Int:=
  thenS (loop (K9 p1 p2) 0) (fun _=>some (-1)) (fun r=>some r)
theorem Fm(p1 p2 r)(h:H7 p1 p2=some r):PCall prog 161 [(.list (List.map J5 p1)),(.fn (.func 75) [] [(.bp (U5 p2) 0)])] (i64 r):=by
 refine C0 (fk func161 ntmps161 m0 (by with_unfolding_all rfl)) (nl W) ?_
 unfold H7 at h
 refine B5 (s0:=⟨T [(0,(.d _)),(1,(.d _))],G []⟩) (E3 W W) ?_
 refine B1<|sv W<|A1<|A4<|B1<|sv W<|sd W (D0 W)<|sv W<|A1<|js h fun z1 hz1 h=>D3 (fun s=> ∃(y1:Unit) (g1:Unit),z1= .inl y1∧Sb ⟨T [],G []⟩ s) ?_ ?_
 refine A9<|D7 (K9 p1 p2) (fun (x1:Int) (g2:Unit)=>⟨T [(0,(dl J5 p1)),(1,(.d (.fn (.func 75) [] [(.bp (U5 p2) 0)]))),(7,(di (p1.length:Int))),(8,(di x1))],G []⟩) 0 () _ hz1 (E3 W W) ?_
 intro x1 g2 z2 hz2 ez2
 unfold K9 at hz2
 refine B1<|sv W<|A1<|A4<|cc W hz2 (fun c1 hz2=> ?_)<|fun c1 hz2=> ?_
 refine A8<|A4<|A9<|B1<|sv W<|sv W<|A1<|B1<|sv W<|sv W<|sv W<|bs hz2 fun _ hv1 hz2=>sd W (C5 W W hv1 W)<|sd W (C7 W hv1 W W)<|bs hz2 fun _ hv2 hz2=>B0 W W A2 (BD _ _ _ hv2) (.inl W) (A1<|cc W hz2 (fun c2 hz2=> ?_)<|fun c2 hz2=> ?_)
 refine B1<|sv W<|sv W<|A1<|B2 ?_
 cases hz2
 obtain rfl:=ez2 _ rfl
 refine ⟨nofun,E5 ?_⟩
 rw [bT]at h
 cases h
 exact A7 (.inr W) (B4 (B3 W) B8) (.refl _)
 refine A8<|D4<|C1<|sv W<|sv W<|A1<|D6 ?_
 cases hz2
 exact ⟨W,(),(E3 W W)⟩
 refine C6 W ?_
 cases hz2
 obtain rfl:=ez2 _ rfl
 refine ⟨nofun,C3 W<|T4 ?_⟩
 exact ⟨_,(),W,(E3 W W)⟩
 rintro _ ⟨y1,g1,rfl,q1⟩
 rw [bS]at h
 refine B5 q1<|B1<|sv W<|A1<|B2 ?_
 cases h
 exact A7 (.inr W) (B4 (B3 W) B8) (.refl _)
def E8 [Lp](p1:(List Stay))(p2:State):Option Bool:=
  (H7 p1 p2).bind fun v1=>some (decide (v1≥0))
theorem Eg(p1 p2 r)(h:E8 p1 p2=some r):PCall prog 74 [(.list (List.map J5 p1)),(.fn (.func 75) [] [(.bp (U5 p2) 0)])] (bo r):=by
 refine C0 (fk func74 ntmps74 m0 (by with_unfolding_all rfl)) (nl W) ?_
 unfold E8 at h
 refine B5 (s0:=⟨T [(0,(.d _)),(1,(.d _))],G []⟩) (E3 W W) ?_
 refine B1<|sv W<|A1<|B1<|sv W<|sv W<|bs h fun _ hv1 h=>B0 W W A2 (Fm _ _ _ hv1) (.inl W) (sv W<|sv W<|A1<|B2 ?_)
 cases h
 exact A7 (.inr W) (B4 (B3 W) B8) (.refl _)
def Y9 [Lp](p1:Map)(p2:State)(x2:Int):Option (Stp Int (Sum Unit Int)):=
  cond (decide (x2< (p2.In.length:Int))) ((C8 p2.In x2).bind fun v3=>((cond ((!((((decide (v3.Agent_<0))||(decide (v3.Agent_≥(p2.Agents.length:Int))))||(decide (v3.Zone_<0)))||(decide (v3.Zone_≥(p1.Zones.length:Int)))))&& (decide (x2>0))) (C8 p2.In (C9 (x2 - 1))) (some default))).bind fun v4=>((cond ((!((((decide (v3.Agent_<0))||(decide (v3.Agent_≥(p2.Agents.length:Int))))||(decide (v3.Zone_<0)))||(decide (v3.Zone_≥(p1.Zones.length:Int)))))&& (decide (x2>0))) (Cd v4 v3) (some default))).bind fun v5=>cond (((((decide (v3.Agent_<0))||(decide (v3.Agent_≥(p2.Agents.length:Int))))||(decide (v3.Zone_<0)))||(decide (v3.Zone_≥(p1.Zones.length:Int))))||((decide (x2>0))&& (decide (v5≥0)))) (some (.out (.inr 11))) (some (.go (C9 (x2+1))))) (some (.out (.inl ())))
def Z0 [Lp](p1:Map)(p2:State)(x1:Int):Option (Stp Int (Sum Unit Int)):=
  cond (decide (x1< (p2.Agents.length:Int))) ((Y3 p1 p2 x1).bind fun v2=>cond (v2 !=0) (some (.out (.inr v2))) (some (.go (C9 (x1+1))))) (some (.out (.inl ())))
def Ba [Lp](p1:Map)(p2:State):Option Int:=
  (Az p1).bind fun v1=>cond (v1 !=0) (some v1) (cond ((decide (p2.Tick<0))||(decide (p2.Tick>1099511627776))) (some 2) (cond ((p2.Agents.length:Int)==0) (some 6) (cond (decide ((p2.Agents.length:Int)>8)) (some 8) (thenS (loop (Z0 p1 p2) 0) (fun _=>thenS (loop (Y9 p1 p2) 0) (fun _=>(E8 p2.In p2).bind fun v6=>cond v6 (some 2) (some 0)) (fun r=>some r)) (fun r=>some r)))))
theorem Nd(p1 p2 r)(h:Ba p1 p2=some r):PCall prog 24 [(.agg (O8 p1)),(.agg (U5 p2))] (i64 r):=by
 refine C0 (fk func24 ntmps24 m0 (by with_unfolding_all rfl)) (nl W) ?_
 unfold Ba at h
 refine B5 (s0:=⟨T [(0,(.d _)),(1,(.d _))],G []⟩) (E3 W W) ?_
 refine lr<|fun u1 _=>sm W<|sm W<|sv W<|A1<|A4<|B1<|sd W (A6 W (gq W) W W)<|bs h fun _ hv1 h=>B0 W W A2 (Rw _ _ hv1) (.inl W) (sv W<|A1<|B1<|sv W<|sv W<|A1<|cc W h (fun c1 h=> ?_)<|fun c1 h=> ?_)
 refine B1<|sv W<|sv W<|A1<|B2 ?_
 cases h
 exact A7 (.inr W) (B4 (B3 W) B8) (.refl _)
 refine A8<|A4<|B1<|sq W<|sl W G_hit W<|sd W (D0 W)<|sv W<|A1<|A9<|B1<|sq W<|sl W G_hit W<|sv W<|sv W<|gp W (H8 W) (fun _=>W) (gf W (vl W G_hit W)<|gf W (vb W W W)<|sd W (L8 W W<|fun hc=>A3<|G0 hc)<|sv W<|A1<|cc W h (fun c2 h=> ?_)<|fun c2 h=> ?_)
 refine B1<|sv W<|A1<|B2 ?_
 cases h
 exact A7 (.inr W) (B4 (B3 W) B8) (.refl _)
 refine B1<|sv W<|sv W<|sv W<|A1<|cc W h (fun c3 h=> ?_)<|fun c3 h=> ?_
 refine B1<|sv W<|A1<|B2 ?_
 cases h
 exact A7 (.inr W) (B4 (B3 W) B8) (.refl _)
 refine B1<|sv W<|sv W<|sv W<|A1<|cc W h (fun c4 h=> ?_)<|fun c4 h=> ?_
 refine B1<|sv W<|A1<|B2 ?_
 cases h
 exact A7 (.inr W) (B4 (B3 W) B8) (.refl _)
 refine A8<|D4<|A4<|B1<|sq W<|sl W G_hit W<|sd W (D0 W)<|sv W<|A1<|js h fun z1 hz1 h=>D3 (fun s=> ∃(y1:Unit) (g1:Unit),z1= .inl y1∧Sb ⟨T [(2,(.ptr (2,u1) 0)),(3,(.ptr (3,u1) 0))],G [((2,u1),some<|.box 33 (K7 p1)),((3,u1),some<|.box 25 (J8 p2))]⟩ s) ?_ ?_
 refine A9<|D7 (Z0 p1 p2) (fun (x1:Int) (g2:Unit)=>⟨T [(2,(.ptr (2,u1) 0)),(3,(.ptr (3,u1) 0)),(36,(di (p2.Agents.length:Int))),(37,(di x1))],G [((2,u1),some<|.box 33 (K7 p1)),((3,u1),some<|.box 25 (J8 p2))]⟩) 0 () _ hz1 (E3 W W) ?_
 intro x1 g2 z2 hz2 ez2
 unfold Z0 at hz2
 refine B1<|sv W<|A1<|A4<|cc W hz2 (fun c5 hz2=> ?_)<|fun c5 hz2=> ?_
 refine A8<|A4<|A9<|B1<|sv W<|sv W<|A1<|B1<|sd W (A6 W G_hit W W)<|sd W (A6 W (gq W) W W)<|sv W<|bs hz2 fun _ hv2 hz2=>B0 W W A2 (Zp _ _ _ _ hv2) (.inl W) (sv W<|A1<|B1<|sv W<|sv W<|A1<|cc W hz2 (fun c6 hz2=> ?_)<|fun c6 hz2=> ?_)
 refine B1<|sv W<|sv W<|A1<|B2 ?_
 cases hz2
 obtain rfl:=ez2 _ rfl
 refine ⟨nofun,E5 ?_⟩
 rw [bT]at h
 cases h
 exact A7 (.inr W) (B4 (B3 W) B8) (.refl _)
 refine A8<|D4<|C1<|sv W<|sv W<|A1<|D6 ?_
 cases hz2
 exact ⟨W,(),(E3 W W)⟩
 refine C6 W ?_
 cases hz2
 obtain rfl:=ez2 _ rfl
 refine ⟨nofun,C3 W<|T4 ?_⟩
 exact ⟨_,(),W,(E3 W W)⟩
 rintro _ ⟨y1,g1,rfl,q1⟩
 rw [bS]at h
 refine B5 q1<|A4<|B1<|sq W<|sl W (gq W) W (sd W (D0 W)<|sv W<|A1<|js h fun z3 hz3 h=>D3 (fun s=> ∃(y2:Unit) (g3:Unit),z3= .inl y2∧Sb ⟨T [(3,(.ptr (3,u1) 0))],G [((3,u1),some<|.box 25 (J8 p2))]⟩ s) ?_ ?_)
 refine A9<|D7 (Y9 p1 p2) (fun (x2:Int) (g4:Unit)=>⟨T [(2,(.ptr (2,u1) 0)),(3,(.ptr (3,u1) 0)),(49,(dl J5 p2.In)),(50,(di (p2.In.length:Int))),(51,(di x2))],G [((2,u1),some<|.box 33 (K7 p1)),((3,u1),some<|.box 25 (J8 p2))]⟩) 0 () _ hz3 (E3 W W) ?_
 intro x2 g4 z4 hz4 ez4
 unfold Y9 at hz4
 refine B1<|sv W<|A1<|A4<|cc W hz4 (fun c7 hz4=> ?_)<|fun c7 hz4=> ?_
 refine A8<|A4<|A9<|B1<|sv W<|bs hz4 fun v3 hv3 hz4=>sd W (C5 W W hv3 W)<|sd W (C7 W hv3 W W)<|sm W<|sv W<|Q4 W G_hit (Vx v3) W (A1<|A4<|D5 W<|sq W<|sl W G_hit W<|sv W<|sv W<|gp W (H8 W) (fun _=>W) (gf W (vl W G_hit W)<|gp W (H8 W) (fun _=>W) (gf W (vl W (gq W) W)<|gf W (fun w8=>(D0<|A3 w8))<|gf W (fun w9=>(L4 (A3 w9) (A3 w9) W))<|sd W (L8 W W<|fun hc=>A3<|G0 hc)<|sv W<|gp W (H8 W) (fun _=>W) (gf W (vl W G_hit W)<|gf W (vb W W W)<|sd W (L8 W W<|fun hc=>A3<|G0 hc)<|sv W<|gp W (H8 W) (fun _=>W) (gf W (vl W G_hit W)<|gp W (H8 W) (fun _=>W) (gf W (vl W (gq W) W)<|gf W (fun w17=>(D0<|A3 w17))<|gf W (fun w18=>(L4 (A3 w18) (A3 w18) W))<|sd W (L8 W W<|fun hc=>A3<|G0 hc)<|sv W<|gf W (fun _=>W)<|gf W (vb W W W)<|gf W (fun w21=>(ED<|A3 w21))<|M5 _ (.ptr _ _) W (O2 W) (fun _=>W) (gv W (O2 W) (vl W (gq W) W) (gv W (O2 W) (fun _=>W) (gv W (O2 W) (vb W W W) (bs hz4 fun v4 hv4 hz4=>gv W (O2 W) (fun w26=>(C5 (A3 w26) (A3 w26) (C2 w26 hv4) W)) (gv W (O2 W) (fun w27=>(C7 (A3 w27) (C2 w27 hv4) W W)) (gv W (O2 W) (fun _=>(A6 W G_hit W W)) (bs hz4 fun v5 hv5 hz4=> ?_)))))))))))))
 refine I9 _ (i64 v5) (O2 W) (fun w29=>⟨_,[(.d (.agg (J5 v4))),(.d (.agg (J5 v3)))],_,_,(by simp only [A3 w29];rfl),W,A2,Rx _ _ _<|C2 w29 hv5,(.inl W)⟩) ?_
 refine gv W (O2 W) (vb W W W) (gf W (fun w31=>(Uh (A3 w31) (fun hc=>A3<|Ui w31 hc) W))<|sd W (L8 W W<|fun hc=>A3<|G0 hc)<|A1<|cc W hz4 (fun c8 hz4=> ?_)<|fun c8 hz4=> ?_)
 refine B1<|sv W<|A1<|B2 ?_
 cases hz4
 obtain rfl:=ez4 _ rfl
 refine ⟨nofun,E5 ?_⟩
 rw [bT]at h
 cases h
 exact A7 (.inr W) (B4 (B3 W) B8) (.refl _)
 refine A8<|D4<|C1<|sv W<|sv W<|A1<|D6 ?_
 cases hz4
 exact ⟨W,(),(E3 W W)⟩
 refine C6 W ?_
 cases hz4
 obtain rfl:=ez4 _ rfl
 refine ⟨nofun,C3 W<|T4 ?_⟩
 exact ⟨_,(),W,(E3 W W)⟩
 rintro _ ⟨y2,g3,rfl,q2⟩
 rw [bS]at h
 refine B5 q2<|A4<|B1<|sq W<|sl W G_hit W<|B9 (.fn _ _ _) W W (bs h fun _ hv6 h=>B0 W (rD<|E0 (Zu F0<|E0 (Ab G_hit<|rD<|rD<|rD F0) F0) F0) A2 (Eg _ _ _ hv6) (.inr W) (A1<|cc W h (fun c9 h=> ?_)<|fun c9 h=> ?_))
 refine B1<|sv W<|A1<|B2 ?_
 cases h
 exact A7 (.inr W) (B4 (B3 W) B8) (.refl _)
 refine A8<|B1<|sv W<|A1<|B2 ?_
 cases h
 exact A7 (.inr W) (B4 (B3 W) B8) (.refl _)
def Yg (p1:Agent):Option Bool:=
  some p1.Gone
theorem IN(p1 r)(h:Yg p1=some r):PCall prog 79 [(.agg (E4 p1))] (bo r):=by
 refine C0 (fk func79 ntmps79 m0 (by with_unfolding_all rfl)) (nl W) ?_
 unfold Yg at h
 refine B5 (s0:=⟨T [(0,(.d _))],G []⟩) (E3 W W) ?_
 refine B1<|sm W<|sv W<|A1<|B1<|sq W<|sl W G_hit W<|sv W<|A1<|B2 ?_
 cases h
 exact A7 (.inr W) (B4 (B3 W) B8) (.refl _)
def R6 (p1:(List Agent))(x1:Int):Option (Stp Int (Sum Unit Int)):=
  cond (decide (x1< (p1.length:Int))) ((C8 p1 x1).bind fun v1=>(Yg v1).bind fun v2=>cond v2 (some (.out (.inr x1))) (some (.go (C9 (x1+1))))) (some (.out (.inl ())))
def K2 [Lp](p1:(List Agent)):Option Int:=
  thenS (loop (R6 p1) 0) (fun _=>some (-1)) (fun r=>some r)
theorem Gd(p1 r)(h:K2 p1=some r):PCall prog 170 [(.list (List.map E4 p1)),(.fn (.func 79) [] [])] (i64 r):=by
 refine C0 (fk func170 ntmps170 m0 (by with_unfolding_all rfl)) (nl W) ?_
 unfold K2 at h
 refine B5 (s0:=⟨T [(0,(.d _)),(1,(.d _))],G []⟩) (E3 W W) ?_
 refine B1<|sv W<|A1<|A4<|B1<|sv W<|sd W (D0 W)<|sv W<|A1<|js h fun z1 hz1 h=>D3 (fun s=> ∃(y1:Unit) (g1:Unit),z1= .inl y1∧Sb ⟨T [],G []⟩ s) ?_ ?_
 refine A9<|D7 (R6 p1) (fun (x1:Int) (g2:Unit)=>⟨T [(0,(dl E4 p1)),(1,(.d (.fn (.func 79) [] []))),(7,(di (p1.length:Int))),(8,(di x1))],G []⟩) 0 () _ hz1 (E3 W W) ?_
 intro x1 g2 z2 hz2 ez2
 unfold R6 at hz2
 refine B1<|sv W<|A1<|A4<|cc W hz2 (fun c1 hz2=> ?_)<|fun c1 hz2=> ?_
 refine A8<|A4<|A9<|B1<|sv W<|sv W<|A1<|B1<|sv W<|sv W<|sv W<|bs hz2 fun _ hv1 hz2=>sd W (C5 W W hv1 W)<|sd W (C7 W hv1 W W)<|bs hz2 fun _ hv2 hz2=>B0 W W A2 (IN _ _ hv2) (.inl W) (A1<|cc W hz2 (fun c2 hz2=> ?_)<|fun c2 hz2=> ?_)
 refine B1<|sv W<|sv W<|A1<|B2 ?_
 cases hz2
 obtain rfl:=ez2 _ rfl
 refine ⟨nofun,E5 ?_⟩
 rw [bT]at h
 cases h
 exact A7 (.inr W) (B4 (B3 W) B8) (.refl _)
 refine A8<|D4<|C1<|sv W<|sv W<|A1<|D6 ?_
 cases hz2
 exact ⟨W,(),(E3 W W)⟩
 refine C6 W ?_
 cases hz2
 obtain rfl:=ez2 _ rfl
 refine ⟨nofun,C3 W<|T4 ?_⟩
 exact ⟨_,(),W,(E3 W W)⟩
 rintro _ ⟨y1,g1,rfl,q1⟩
 rw [bS]at h
 refine B5 q1<|B1<|sv W<|A1<|B2 ?_
 cases h
 exact A7 (.inr W) (B4 (B3 W) B8) (.refl _)
def J3 [Lp](p1:(List Agent)):Option Bool:=
  (K2 p1).bind fun v1=>some (decide (v1≥0))
theorem Eu(p1 r)(h:J3 p1=some r):PCall prog 78 [(.list (List.map E4 p1)),(.fn (.func 79) [] [])] (bo r):=by
 refine C0 (fk func78 ntmps78 m0 (by with_unfolding_all rfl)) (nl W) ?_
 unfold J3 at h
 refine B5 (s0:=⟨T [(0,(.d _)),(1,(.d _))],G []⟩) (E3 W W) ?_
 refine B1<|sv W<|A1<|B1<|sv W<|sv W<|bs h fun _ hv1 h=>B0 W W A2 (Gd _ _ hv1) (.inl W) (sv W<|sv W<|A1<|B2 ?_)
 cases h
 exact A7 (.inr W) (B4 (B3 W) B8) (.refl _)
def Ce (p1:State)(p2:Int):Option Bool:=
  ((cond ((decide (p2≥0))&& (decide (p2< (p1.Agents.length:Int)))) (C8 p1.Agents p2) (some default))).bind fun v1=>((cond (((decide (p2≥0))&& (decide (p2< (p1.Agents.length:Int))))&& (!v1.Gone)) (C8 p1.Agents p2) (some default))).bind fun v2=>some ((((decide (p2≥0))&& (decide (p2< (p1.Agents.length:Int))))&& (!v1.Gone))&& (decide (v2.Begin≤p1.Tick)))
theorem Fo(p1 p2 r)(h:Ce p1 p2=some r):PCall prog 36 [(.agg (U5 p1)),(i64 p2)] (bo r):=by
 refine C0 (fk func36 ntmps36 m0 (by with_unfolding_all rfl)) (nl W) ?_
 unfold Ce at h
 refine B5 (s0:=⟨T [(0,(.d _)),(1,(.d _))],G []⟩) (E3 W W) ?_
 refine B1<|sm W<|sv W<|A1<|A4<|D5 W<|sv W<|sv W<|sv W<|gt W (fun _=>W)<|gp W (I8 W) (fun _=>W) (gt W (vl W G_hit W)<|gt W (fun w4=>(D0<|A3 w4))<|gt W (fun w5=>(L4 (A3 w5) (A3 w5) W))<|sa W W W<|sv W<|gp W (I8 W) (fun _=>W) (gt W (vl W G_hit W)<|gt W (fun _=>W)<|bs h fun v1 hv1 h=>gt W (fun w9=>(C5 (A3 w9) (A3 w9) (C2 w9 hv1) W)) ?_))
 refine gt W (fun w10=>(by simp only [A3 w10];rfl)) ?_
 refine gt W (fun w11=>(D1 (A3 w11) (C2 w11 hv1) W)) ?_
 refine M5 _ (.d (bo (!v1.Gone))) W (I8 W) (fun w12=>(by simp only [A3 w12];rfl)) ?_
 refine sa W W W<|sv W<|gp W (I8 W) (fun _=>W) (gt W (vl W G_hit W)<|gt W (fun _=>W)<|bs h fun _ hv2 h=>gt W (fun w16=>(C5 (A3 w16) (A3 w16) (C2 w16 hv2) W)) ?_)
 refine gt W (fun w17=>(by simp only [A3 w17];rfl)) ?_
 refine gt W (fun w18=>(D1 (A3 w18) (C2 w18 hv2) W))<|gp W (I8 W) (fun _=>W) (gt W (vl W G_hit W)<|gt W (fun w21=>(L4 (A3 w21) (A3 w21) W))<|sa W W W<|sv W<|A1<|B2 ?_)
 cases h
 exact A7 (.inr W) (B4 (B3 W) B8) (.refl _)
def Oc (p1:Agent):Option Bool:=
  some ((((decide (p1.S≥0))&& (decide (p1.S≤1099511627776)))&& (decide (p1.Len≥0)))&& (decide (p1.Len≤1099511627776)))
theorem Tq(p1 r)(h:Oc p1=some r):PCall prog 138 [(.agg (E4 p1))] (bo r):=by
 refine C0 (fk func138 ntmps138 m0 (by with_unfolding_all rfl)) (nl W) ?_
 unfold Oc at h
 refine B5 (s0:=⟨T [(0,(.d _))],G []⟩) (E3 W W) ?_
 refine B1<|sm W<|sv W<|A1<|B1<|sq W<|sl W G_hit W<|sv W<|sv W<|gp W (I8 W) (fun _=>W) (gt W (vl W G_hit W)<|gt W (vb W W W)<|sa W W W<|sv W<|gp W (I8 W) (fun _=>W) (gt W (vl W G_hit W)<|gt W (vb W W W)<|sa W W W<|sv W<|gp W (I8 W) (fun _=>W) (gt W (vl W G_hit W)<|gt W (vb W W W)<|sa W W W<|sv W<|A1<|B2 ?_)))
 cases h
 exact A7 (.inr W) (B4 (B3 W) B8) (.refl _)
def Dt (p1:Int):Option Bool:=
  some (p1 !=p1)
theorem Gv(p1 r)(h:Dt p1=some r):PCall prog 255 [(i64 p1)] (bo r):=by
 refine C0 (fk func255 ntmps255 m0 (by with_unfolding_all rfl)) (nl W) ?_
 unfold Dt at h
 refine B5 (s0:=⟨T [(0,(.d _))],G []⟩) (E3 W W) ?_
 refine B1<|sv W<|A1<|B1<|sv W<|sv W<|sv W<|sv W<|A1<|B2 ?_
 cases h
 exact A7 (.inr W) (B4 (B3 W) B8) (.refl _)
def Iv (p1:Int)(p2:Int):Option Int:=
  (Dt p1).bind fun v1=>(Dt p2).bind fun v2=>cond v1 (cond v2 (some 0) (some (-1))) (cond v2 (some 1) (cond (decide (p1<p2)) (some (-1)) (cond (decide (p1>p2)) (some 1) (some 0))))
theorem Pn(p1 p2 r)(h:Iv p1 p2=some r):PCall prog 229 [(i64 p1),(i64 p2)] (i64 r):=by
 refine C0 (fk func229 ntmps229 m0 (by with_unfolding_all rfl)) (nl W) ?_
 unfold Iv at h
 refine B5 (s0:=⟨T [(0,(.d _)),(1,(.d _))],G []⟩) (E3 W W) ?_
 refine B1<|sv W<|A1<|B1<|sv W<|bs h fun _ hv1 h=>B0 W W A2 (Gv _ _ hv1) (.inl W) (sv W<|A1<|B1<|sv W<|bs h fun _ hv2 h=>B0 W W A2 (Gv _ _ hv2) (.inl W) (sv W<|A1<|A4<|B1<|sv W<|A1<|cc W h (fun c1 h=> ?_)<|fun c1 h=> ?_))
 refine A4<|B1<|sv W<|A1<|cc W h (fun c2 h=> ?_)<|fun c2 h=> ?_
 refine B1<|sv W<|A1<|B2 ?_
 cases h
 exact A7 (.inr W) (B4 (B3 W) B8) (.refl _)
 refine A8<|B1<|sv W<|A1<|B2 ?_
 cases h
 exact A7 (.inr W) (B4 (B3 W) B8) (.refl _)
 refine A8<|A4<|B1<|sv W<|A1<|cc W h (fun c3 h=> ?_)<|fun c3 h=> ?_
 refine B1<|sv W<|A1<|B2 ?_
 cases h
 exact A7 (.inr W) (B4 (B3 W) B8) (.refl _)
 refine A8<|A4<|B1<|sv W<|sv W<|sv W<|A1<|cc W h (fun c4 h=> ?_)<|fun c4 h=> ?_
 refine B1<|sv W<|A1<|B2 ?_
 cases h
 exact A7 (.inr W) (B4 (B3 W) B8) (.refl _)
 refine A8<|A4<|B1<|sv W<|sv W<|sv W<|A1<|cc W h (fun c5 h=> ?_)<|fun c5 h=> ?_
 refine B1<|sv W<|A1<|B2 ?_
 cases h
 exact A7 (.inr W) (B4 (B3 W) B8) (.refl _)
 refine A8<|B1<|sv W<|A1<|B2 ?_
 cases h
 exact A7 (.inr W) (B4 (B3 W) B8) (.refl _)
def Fp [Lp](p1:Pass)(p2:Pass):Option Int:=
  (Iv p1.From p2.From).bind fun v1=>(Z9 p1.Zone_ p2.Zone_).bind fun v2=>(Et [v1,v2]).bind fun v3=>some v3
theorem DA(p1 p2 r)(h:Fp p1 p2=some r):PCall prog 264 [(.agg (Y0 p1)),(.agg (Y0 p2))] (i64 r):=by
 refine C0 (fk func264 ntmps264 (fun r=>if r==1 then [1010]else []) (by with_unfolding_all rfl)) (nl W) ?_
 unfold Fp at h
 refine B5 (s0:=⟨T [(0,(.d _)),(1,(.d _))],G []⟩) (E3 W W) ?_
 refine B1<|sm W<|sn W W<|sv W<|A1<|A4<|D5 W<|sq W<|sl W (gq W) W (sq W<|sl W G_hit W<|bs h fun v1 hv1 h=>B0 W W A2 (Pn _ _ _ hv1) (.inl W) (sq W<|sl W (gq W) W (sq W<|sl W G_hit W<|bs h fun v2 hv2 h=>B0 W W A2 (Gu _ _ _ hv2) (.inl W) (B9 (dl A5 [v1,v2]) W W (bs h fun _ hv3 h=>B0 W W A2 (Tp _ _ hv3) (.inl W) (sv W<|A1<|B2 ?_))))))
 cases h
 exact A7 (.inr W) (B4 (B3 W) B8) (.refl _)
end
end Go.Abs.World
