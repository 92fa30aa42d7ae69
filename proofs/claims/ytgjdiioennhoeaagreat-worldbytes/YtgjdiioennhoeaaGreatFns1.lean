/-
  The Go functions that WorldBytes reaches, as plain Lean functions, and the proofs that the program computes them.
-/
import Derived.Test.YtgjdiioennhoeaaGreatCoreD
import Derived.Test.YtgjdiioennhoeaaGreatProg
import Derived.KernelRfl
import Derived.IntWalk
import Derived.Shelf.SlicesE.Compact
set_option maxRecDepth 20000
set_option maxHeartbeats 4000000
set_option linter.unusedVariables false
namespace Go.Abs.World
noncomputable section
open Go Go.Abs Go.Proofs Tryz
attribute [local irreducible] K1 Di Z9
structure Spot where
  X:Int
  Y:Int
  deriving Inhabited
structure CurveVector where
  x:Int
  y:Int
  deriving Inhabited
structure CurvePiece where
  p:Spot
  v:CurveVector
  l:Int
  start:Int
  deriving Inhabited
abbrev Ee:Spot→List D:=fun x=> [(i64 x.X),(i64 x.Y)]
structure Curve where
  Pts:(List Spot)
  deriving Inhabited
abbrev dJ:Curve→List D:=fun x=> [(.list (List.map Ee x.Pts))]
structure Stay where
  Agent_:Int
  Zone_:Int
  Since:Int
  Rank:Int
  deriving Inhabited
abbrev F8:Stay→List D:=fun x=> [(i64 x.Agent_),(i64 x.Zone_),(i64 x.Since),(i64 x.Rank)]
abbrev A4:Int→List D:=fun x=> [.v (.int .i64 x)]
structure Agent where
  Route:(List Int)
  S:Int
  V:Int
  Len:Int
  Begin:Int
  Obey:Bool
  Gone:Bool
  deriving Inhabited
structure State where
  Tick:Int
  Agents:(List Agent)
  In:(List Stay)
  deriving Inhabited
abbrev C4:Agent→List D:=fun x=> [(.list (List.map A4 x.Route)),(i64 x.S),(i64 x.V),(i64 x.Len),(i64 x.Begin),(bo x.Obey),(bo x.Gone)]
abbrev N9:State→List D:=fun x=> [(i64 x.Tick),(.list (List.map C4 x.Agents)),(.list (List.map F8 x.In))]
abbrev SX:(List Agent)→List D:=fun x=> [.list (List.map C4 x)]
abbrev KY:(List Int)→List D:=fun x=> [.list (List.map A4 x)]
abbrev cB:Bool→List D:=fun x=> [bo x]
abbrev WK:(List Stay)→List D:=fun x=> [.list (List.map F8 x)]
abbrev dK:ByteArray→List D:=fun x=> [Al x]
structure Lane where
  Kind:Int
  Curve_:Curve
  Half:Int
  Limit:Int
  Next:(List Int)
  deriving Inhabited
structure Part where
  Lane_:Int
  From:Int
  To:Int
  Rank:Int
  deriving Inhabited
structure Zone where
  Parts:(List Part)
  Signal_:Int
  deriving Inhabited
structure Phase where
  Ticks:Int
  Green:(List Int)
  deriving Inhabited
structure Signal where
  Offset:Int
  Phases:(List Phase)
  deriving Inhabited
structure Work where
  Lane_:Int
  From:Int
  To:Int
  Begin:Int
  End:Int
  Limit:Int
  deriving Inhabited
structure Map where
  Version:Int
  Lanes:(List Lane)
  Zones:(List Zone)
  Signals:(List Signal)
  Works:(List Work)
  deriving Inhabited
abbrev Mb:Lane→List D:=fun x=> [(i64 x.Kind),(.list (List.map Ee x.Curve_.Pts)),(i64 x.Half),(i64 x.Limit),(.list (List.map A4 x.Next))]
abbrev Gz:Part→List D:=fun x=> [(i64 x.Lane_),(i64 x.From),(i64 x.To),(i64 x.Rank)]
abbrev If:Zone→List D:=fun x=> [(.list (List.map Gz x.Parts)),(i64 x.Signal_)]
abbrev Hq:Phase→List D:=fun x=> [(i64 x.Ticks),(.list (List.map A4 x.Green))]
abbrev Oj:Signal→List D:=fun x=> [(i64 x.Offset),(.list (List.map Hq x.Phases))]
abbrev Xy:Work→List D:=fun x=> [(i64 x.Lane_),(i64 x.From),(i64 x.To),(i64 x.Begin),(i64 x.End),(i64 x.Limit)]
abbrev eB:Nat→List D:=fun x=> [.fn (.func x) [] []]
structure RoadsCheck where
  Map_:Map
  deriving Inhabited
abbrev cC:(Int×Int×Int)→List D:=fun x=> [(i64 x.1),(i64 x.2.1),(i64 x.2.2)]
structure RoadsWay where
  Map_:Map
  lanes:(List Int)
  starts:(List Int)
  length:Int
  deriving Inhabited
structure WorldSpan where
  from_:Int
  to:Int
  deriving Inhabited
structure Crash where
  Tick:Int
  A:Int
  B:Int
  Lane_:Int
  Zone_:Int
  Who:(List Int)
  deriving Inhabited
structure WorldScene where
  m:Map
  before:State
  after:State
  acts:(List Int)
  crashes:(List Crash)
  deriving Inhabited
abbrev Bf:Crash→List D:=fun x=> [(i64 x.Tick),(i64 x.A),(i64 x.B),(i64 x.Lane_),(i64 x.Zone_),(.list (List.map A4 x.Who))]
structure Pass where
  Zone_:Int
  Part_:Int
  From:Int
  To:Int
  deriving Inhabited
abbrev V3:Pass→List D:=fun x=> [(i64 x.Zone_),(i64 x.Part_),(i64 x.From),(i64 x.To)]
structure Span where
  Lane_:Int
  From:Int
  To:Int
  deriving Inhabited
abbrev Gj:Span→List D:=fun x=> [(i64 x.Lane_),(i64 x.From),(i64 x.To)]
structure WorldReader where
  s:ByteArray
  bad:Bool
  deriving Inhabited
structure Ref04Reader where
  s:ByteArray
  bad:Bool
  deriving Inhabited
abbrev H4:Int→List D:=fun x=> [.v (.int .u8 x)]
structure Anon7 where
  x:Int
  y:Int
  signed:Bool
  code:Int
  deriving Inhabited
structure RuntimeBoundsError where
  x:Int
  y:Int
  signed:Bool
  code:Int
  deriving Inhabited
structure Anon13 where
  msg:ByteArray
  addr:Int
  deriving Inhabited
structure RuntimeErrorAddressString where
  msg:ByteArray
  addr:Int
  deriving Inhabited
structure Anon24 where
  Tick:Int
  Agents:(List Agent)
  In:(List Stay)
  deriving Inhabited
structure Anon32 where
  Version:Int
  Lanes:(List Lane)
  Zones:(List Zone)
  Signals:(List Signal)
  Works:(List Work)
  deriving Inhabited
structure Anon44 where
  Route:(List Int)
  S:Int
  V:Int
  Len:Int
  Begin:Int
  Obey:Bool
  Gone:Bool
  deriving Inhabited
structure Anon60 where
  Pts:(List Spot)
  deriving Inhabited
structure Anon62 where
  Kind:Int
  Curve_:Curve
  Half:Int
  Limit:Int
  Next:(List Int)
  deriving Inhabited
structure Anon72 where
  R:Int
  S:Int
  V:Int
  Len:Int
  Begin:Int
  Disobeys:Bool
  deriving Inhabited
structure KitActor where
  R:Int
  S:Int
  V:Int
  Len:Int
  Begin:Int
  Disobeys:Bool
  deriving Inhabited
structure Anon76 where
  Tick:Int
  A:Int
  B:Int
  Lane_:Int
  Zone_:Int
  Who:(List Int)
  deriving Inhabited
structure Anon82 where
  Stamp:Int
  Lo:Int
  Hi:Int
  deriving Inhabited
structure Mark where
  Stamp:Int
  Lo:Int
  Hi:Int
  deriving Inhabited
structure Anon92 where
  Lane_:Int
  From:Int
  To:Int
  deriving Inhabited
structure Point where
  X:Int
  Y:Int
  V:Int
  deriving Inhabited
structure Anon98 where
  Stamp:Int
  Seen:(List Span)
  Points:(List Point)
  deriving Inhabited
structure Scan where
  Stamp:Int
  Seen:(List Span)
  Points:(List Point)
  deriving Inhabited
structure Anon103 where
  X:Int
  Y:Int
  deriving Inhabited
structure Anon106 where
  X:Int
  Y:Int
  V:Int
  deriving Inhabited
structure Anon113 where
  Lane_:Int
  From:Int
  To:Int
  Rank:Int
  deriving Inhabited
structure Anon116 where
  Parts:(List Part)
  Signal_:Int
  deriving Inhabited
structure Anon119 where
  Offset:Int
  Phases:(List Phase)
  deriving Inhabited
structure Anon122 where
  Lane_:Int
  From:Int
  To:Int
  Begin:Int
  End:Int
  Limit:Int
  deriving Inhabited
structure Anon126 where
  Agent_:Int
  Zone_:Int
  Since:Int
  Rank:Int
  deriving Inhabited
structure Anon134 where
  m:Map
  before:State
  after:State
  acts:(List Int)
  crashes:(List Crash)
  deriving Inhabited
structure Anon164 where
  s:ByteArray
  bad:Bool
  deriving Inhabited
structure Anon171 where
  s:ByteArray
  bad:Bool
  deriving Inhabited
structure Anon190 where
  from_:Int
  to:Int
  deriving Inhabited
structure Anon207 where
  Ticks:Int
  Green:(List Int)
  deriving Inhabited
structure Anon211 where
  Map_:Map
  deriving Inhabited
structure Anon228 where
  Zone_:Int
  Part_:Int
  From:Int
  To:Int
  deriving Inhabited
structure WorldBar where
  front:Spot
  rear:Spot
  deriving Inhabited
structure Anon245 where
  m:Map
  eye:Spot
  view:Int
  bodies:(List (List Span))
  bars:(List WorldBar)
  deriving Inhabited
structure WorldLooks where
  m:Map
  eye:Spot
  view:Int
  bodies:(List (List Span))
  bars:(List WorldBar)
  deriving Inhabited
structure Anon247 where
  front:Spot
  rear:Spot
  deriving Inhabited
structure Anon252 where
  x:Int
  y:Int
  deriving Inhabited
structure Anon254 where
  p:Spot
  v:CurveVector
  l:Int
  start:Int
  deriving Inhabited
structure Anon259 where
  Map_:Map
  lanes:(List Int)
  starts:(List Int)
  length:Int
  deriving Inhabited
abbrev Ko:WorldScene→List D:=fun x=> [(i64 x.m.Version),(.list (List.map Mb x.m.Lanes)),(.list (List.map If x.m.Zones)),(.list (List.map Oj x.m.Signals)),(.list (List.map Xy x.m.Works)),(i64 x.before.Tick),(.list (List.map C4 x.before.Agents)),(.list (List.map F8 x.before.In)),(i64 x.after.Tick),(.list (List.map C4 x.after.Agents)),(.list (List.map F8 x.after.In)),(.list (List.map A4 x.acts)),(.list (List.map Bf x.crashes))]
abbrev R8:WorldScene→List AV:=fun x=> [(.d (i64 x.m.Version)),(.d (.list (List.map Mb x.m.Lanes))),(.d (.list (List.map If x.m.Zones))),(.d (.list (List.map Oj x.m.Signals))),(.d (.list (List.map Xy x.m.Works))),(.d (i64 x.before.Tick)),(.d (.list (List.map C4 x.before.Agents))),(.d (.list (List.map F8 x.before.In))),(.d (i64 x.after.Tick)),(.d (.list (List.map C4 x.after.Agents))),(.d (.list (List.map F8 x.after.In))),(.d (.list (List.map A4 x.acts))),(.d (.list (List.map Bf x.crashes)))]
abbrev OV:RoadsWay→List D:=fun x=> [(i64 x.Map_.Version),(.list (List.map Mb x.Map_.Lanes)),(.list (List.map If x.Map_.Zones)),(.list (List.map Oj x.Map_.Signals)),(.list (List.map Xy x.Map_.Works)),(.list (List.map A4 x.lanes)),(.list (List.map A4 x.starts)),(i64 x.length)]
abbrev Jp:RoadsWay→List AV:=fun x=> [(.d (i64 x.Map_.Version)),(.d (.list (List.map Mb x.Map_.Lanes))),(.d (.list (List.map If x.Map_.Zones))),(.d (.list (List.map Oj x.Map_.Signals))),(.d (.list (List.map Xy x.Map_.Works))),(.d (.list (List.map A4 x.lanes))),(.d (.list (List.map A4 x.starts))),(.d (i64 x.length))]
abbrev M5:Agent→List AV:=fun x=> [(.d (.list (List.map A4 x.Route))),(.d (i64 x.S)),(.d (i64 x.V)),(.d (i64 x.Len)),(.d (i64 x.Begin)),(.d (bo x.Obey)),(.d (bo x.Gone))]
abbrev cD:Work→List AV:=fun x=> [(.d (i64 x.Lane_)),(.d (i64 x.From)),(.d (i64 x.To)),(.d (i64 x.Begin)),(.d (i64 x.End)),(.d (i64 x.Limit))]
abbrev IB:CurvePiece→List D:=fun x=> [(i64 x.p.X),(i64 x.p.Y),(i64 x.v.x),(i64 x.v.y),(i64 x.l),(i64 x.start)]
abbrev IC:CurvePiece→List AV:=fun x=> [(.d (i64 x.p.X)),(.d (i64 x.p.Y)),(.d (i64 x.v.x)),(.d (i64 x.v.y)),(.d (i64 x.l)),(.d (i64 x.start))]
abbrev Y6:Map→List D:=fun x=> [(i64 x.Version),(.list (List.map Mb x.Lanes)),(.list (List.map If x.Zones)),(.list (List.map Oj x.Signals)),(.list (List.map Xy x.Works))]
abbrev Q9:Map→List AV:=fun x=> [(.d (i64 x.Version)),(.d (.list (List.map Mb x.Lanes))),(.d (.list (List.map If x.Zones))),(.d (.list (List.map Oj x.Signals))),(.d (.list (List.map Xy x.Works)))]
abbrev MU:Lane→List AV:=fun x=> [(.d (i64 x.Kind)),(.d (.list (List.map Ee x.Curve_.Pts))),(.d (i64 x.Half)),(.d (i64 x.Limit)),(.d (.list (List.map A4 x.Next)))]
abbrev DS:Part→List AV:=fun x=> [(.d (i64 x.Lane_)),(.d (i64 x.From)),(.d (i64 x.To)),(.d (i64 x.Rank))]
abbrev Si:Stay→List AV:=fun x=> [(.d (i64 x.Agent_)),(.d (i64 x.Zone_)),(.d (i64 x.Since)),(.d (i64 x.Rank))]
abbrev E1:State→List AV:=fun x=> [(.d (i64 x.Tick)),(.d (.list (List.map C4 x.Agents))),(.d (.list (List.map F8 x.In)))]
def Cv (p1:State)(x1:Int):Option (Stp Int (Sum Unit Bool)):=
  cond (decide (x1< (p1.Agents.length:Int))) ((F2 p1.Agents x1).bind fun v1=>cond (decide ((v1.Route.length:Int)>10)) (some (.out (.inr false))) (some (.go (J6 (x1+1))))) (some (.out (.inl ())))
def Ig [Lp](p1:State):Option Bool:=
  cond ((decide ((p1.Agents.length:Int)>10))||(decide ((p1.In.length:Int)>20))) (some false) (thenS (loop (Cv p1) 0) (fun _=>some true) (fun r=>some r))
theorem Sj(p1 r)(h:Ig p1=some r):PCall prog 20 [(.agg (N9 p1))] (bo r):=by
 refine C7 (fk func20 ntmps20 m0 (by with_unfolding_all rfl)) (nl W) ?_
 unfold Ig at h
 refine B6 (s0:=⟨T [(0,(.d _))],G []⟩) (G0 W W) ?_
 refine lr<|fun u1 _=>sm W<|sv W<|A1<|A6<|B3<|sq W<|sl W A2 W<|sd W (E3 W)<|sv W<|sv W<|gp W (N7 W) (fun _=>W) (gf W (vl W A2 W)<|gf W (fun w3=>(E3<|A5 w3))<|gf W (vb W W W)<|sd W (U2 W W<|fun hc=>A5<|N2 hc)<|A1<|cc W h (fun c1 h=> ?_)<|fun c1 h=> ?_)
 refine B3<|sv W<|A1<|B7 ?_
 cases h
 exact A9 (.inr W) (C0 (B8 W) C6) (.refl _)
 refine B0<|A6<|B3<|sv W<|A1<|js h fun z1 hz1 h=>D3 (fun s=> ∃(y1:Unit) (g1:Unit),z1= .inl y1∧Sb ⟨T [],G []⟩ s) ?_ ?_
 refine A7<|D7 (Cv p1) (fun (x1:Int) (g2:Unit)=>⟨T [(1,(.ptr (1,u1) 0)),(3,(di x1))],G [((1,u1),some<|.box 25 (E1 p1))]⟩) 0 () _ hz1 (G0 W W) ?_
 intro x1 g2 z2 hz2 ez2
 unfold Cv at hz2
 refine A6<|B3<|sv W<|sq W<|sl W A2 W<|sd W (E3 W)<|sv W<|A1<|cc W hz2 (fun c2 hz2=> ?_)<|fun c2 hz2=> ?_
 refine B0<|A6<|A7<|B3<|sq W<|sl W A2 W<|sv W<|bs hz2 fun _ hv1 hz2=>sd W (E7 W W hv1 W)<|sv W<|sd W (H8 W hv1 W)<|sd W (E3 W)<|sv W<|A1<|cc W hz2 (fun c3 hz2=> ?_)<|fun c3 hz2=> ?_
 refine B3<|sv W<|A1<|B7 ?_
 cases hz2
 obtain rfl:=ez2 _ rfl
 refine ⟨nofun,G4 ?_⟩
 rw [bI]at h
 cases h
 exact A9 (.inr W) (C0 (B8 W) C6) (.refl _)
 refine B0<|E5<|C3<|sv W<|sv W<|sv W<|A1<|E0 ?_
 cases hz2
 exact ⟨W,(),(G0 W W)⟩
 refine D1 W ?_
 cases hz2
 obtain rfl:=ez2 _ rfl
 refine ⟨nofun,C5 W<|U6 ?_⟩
 exact ⟨_,(),W,(G0 W W)⟩
 rintro _ ⟨y1,g1,rfl,q1⟩
 rw [bH]at h
 refine B6 q1<|B3<|sv W<|A1<|B7 ?_
 cases h
 exact A9 (.inr W) (C0 (B8 W) C6) (.refl _)
def Sk (p4:(List Int))(x1:(Int× (List Spot))):Option (Stp (Int× (List Spot)) (List Spot)):=
  cond (decide ((J6 (x1.1+1))< (p4.length:Int))) ((F2 p4 x1.1).bind fun v1=>(F2 p4 (J6 (x1.1+1))).bind fun v2=>(Y4 x1.2 [(Spot.mk v1 v2)]).bind fun v3=>some (.go ((J6 (x1.1+2)),v3))) (some (.out x1.2))
def Nf [Lp](p1:Int)(p2:Int)(p3:(List Int))(p4:(List Int)):Option Lane:=
  (loop (Sk p4) (0,[])).bind fun y1=>cond (p1==3) (some (Lane.mk p1 (Curve.mk y1) 500 p2 p3)) (some (Lane.mk p1 (Curve.mk y1) 1500 p2 p3))
theorem Xz(p1 p2 p3 p4 r)(h:Nf p1 p2 p3 p4=some r):PCall prog 69 [(i64 p1),(i64 p2),(.list (List.map A4 p3)),(.list (List.map A4 p4))] (.agg (Mb r)):=by
 refine C7 (fk func69 ntmps69 (fun r=>if r==5 then [1013]else []) (by with_unfolding_all rfl)) (nl W) ?_
 unfold Nf at h
 refine B6 (s0:=⟨T [(0,(.d _)),(1,(.d _)),(2,(.d _)),(3,(.d _))],G []⟩) (G0 W W) ?_
 refine lr<|fun u1 _=>sm W<|A1<|lr<|fun u2 _=>sv W<|sv W<|sv W<|sv W<|sm W<|T6 W A2 [(di p1),(.d .nilS),(di 1500),(di p2),(dl A4 p3)] W (A1<|A6<|B3<|sv W<|A1<|bs h fun y1 hy1 h=>D3 (fun s=> ∃g1:Nat,Sb ⟨T [(0,(di p1)),(8,(.ptr (8,u1) 0)),(9,(.ptr (9,u2) 0))],G [((8,u1),some<|.box 63 (((zs 4).set 1 (.d .nilS))++ [(.d .nilS)])),((9,u2),some<|.box 63 [(di p1),(oS y1 (36,g1)),(di 1500),(di p2),(dl A4 p3)]),((36,g1),oB 104 2 Ee y1)]⟩ s) ?_ ?_)
 refine A7<|D7 (Sk p4) (fun (x1:(Int× (List Spot))) (g2:Nat)=>⟨T [(0,(di p1)),(3,(dl A4 p4)),(8,(.ptr (8,u1) 0)),(9,(.ptr (9,u2) 0)),(10,(di x1.1))],G [((8,u1),some<|.box 63 (((zs 4).set 1 (.d .nilS))++ [(.d .nilS)])),((9,u2),some<|.box 63 [(di p1),(oS x1.2 (36,g2)),(di 1500),(di p2),(dl A4 p3)]),((36,g2),oB 104 2 Ee x1.2)]⟩) (0,[]) 0 _ hy1 (D0 (S5 W)<|sg W<|A8 A2 (.of W)<|Y5 trivial) ?_
 intro x1 g2 z1 hz1 ez1
 unfold Sk at hz1
 refine A6<|B3<|sv W<|sv W<|sv W<|sd W (E3 W)<|sv W<|A1<|cc W hz1 (fun c1 hz1=> ?_)<|fun c1 hz1=> ?_
 refine B0<|A6<|A7<|Na W fun u5 _=>sq W<|sq W<|C2 (oS x1.2 (36,g2)) W (O8 W (gq W) W) (sv W<|sv W<|bs hz1 fun v1 hv1 hz1=>sd W (E7 W W hv1 W)<|sd W (H8 W hv1 W)<|sv W<|sv W<|sv W<|bs hz1 fun v2 hv2 hz1=>sd W (E7 W W hv2 W)<|sd W (H8 W hv2 W)<|sv W<|C2 (dl Ee [(Spot.mk v1 v2)]) W W (bs hz1 fun _ hv3 hz1=>P1 Ee (36,g2) x1.2 (Spot.mk v1 v2) [] _ (J9<|fun _=>W) W (gq W) hv3 (sq W<|sp W W<|T6 W (gq W) [(di p1),(.sl (36,u5)),(di 1500),(di p2),(dl A4 p3)] W (A1<|E5<|C3<|sv W<|sv W<|sv W<|A1<|E0 ?_))))
 cases hz1
 exact ⟨W,u5,(D0 (S5 W)<|sg W<|A8 A2 (.box (cv<|.cons (.of (Ap<|S7 hv3).symm) cw))<|U5 (gq W) trivial)⟩
 refine D1 W ?_
 cases hz1
 obtain rfl:=ez1 _ rfl
 refine ⟨nofun,C5 W<|U6 ?_⟩
 exact ⟨g2,(D0 (S5 W)<|A8 A2 (.of W)<|sg W<|B4 (gq W) trivial)⟩
 rintro _ ⟨g1,q1⟩
 refine B6 q1<|A6<|B3<|sv W<|sv W<|A1<|cc W h (fun c2 h=> ?_)<|fun c2 h=> ?_
 refine C3<|sq W<|T6 W (gq W) [(di p1),(oS y1 (36,g1)),(di 500),(di p2),(dl A4 p3)] W (A1<|B3<|C2 (W1 [(di p1),(oS y1 (36,g1)),(di 500),(di p2),(dl A4 p3)]) W (C1 W A2 W W) (Fu _ _ _ _ _ (S8 _) W W (gq W) (nl W) [(di p1),(oS y1 (36,g1)),(di 500),(di p2),(dl A4 p3)] W (A1<|B7 ?_)))
 cases h
 exact A9 (.inr W) (C0 (K7 W A2 (nl W) W)<|Iu<|rD<|D4 (U8<|gq W)<|rD<|rD<|rD E4) (.agg (ca W<|.cons ⟨U7,W⟩ (cz W)))
 refine B0<|B3<|C2 (W1 [(di p1),(oS y1 (36,g1)),(di 1500),(di p2),(dl A4 p3)]) W (C1 W (gq W) W W) (Fu _ _ _ _ _ (S8 _) W W A2 (nl W) [(di p1),(oS y1 (36,g1)),(di 1500),(di p2),(dl A4 p3)] W (A1<|B7 ?_))
 cases h
 exact A9 (.inr W) (C0 (K7 W A2 (nl W) W)<|Iu<|rD<|D4 (U8<|gq W)<|rD<|rD<|rD E4) (.agg (ca W<|.cons ⟨U7,W⟩ (cz W)))
def Mq [Lp]:Option Map:=
  (Nf 1 1500 [] [0,0,100000,0]).bind fun v1=>(Nf 1 1500 [] [50000,(-50000),50000,50000]).bind fun v2=>some (Map.mk 0 [v1,v2] [(Zone.mk [(Part.mk 0 48000 52000 1),(Part.mk 1 48000 52000 0)] 0)] [] [])
theorem FH(r)(h:Mq=some r):PCall prog 65 [] (.agg (Y6 r)):=by
 refine C7 (fk func65 ntmps65 (fun r=>if r==1 then [1000,1002,1004,1007,1009]else []) (by with_unfolding_all rfl)) (nl W) ?_
 unfold Mq at h
 refine B6 (s0:=⟨T [],G []⟩) (G0 W W) ?_
 refine B3<|sm W<|A1<|B3<|C2 (dl A4 [0,0,100000,0]) W W (bs h fun v1 hv1 h=>B9 W W (.cons (.refl _) (.cons (.refl _) (.cons DLe.nil A3))) (Xz _ _ _ _ _ hv1) (.inl W) (C2 (dl A4 [50000,(-50000),50000,50000]) W W (bs h fun v2 hv2 h=>B9 W W (.cons (.refl _) (.cons (.refl _) (.cons DLe.nil A3))) (Xz _ _ _ _ _ hv2) (.inl W) (C2 (dl Mb [v1,v2]) W (DO Mb ([v1,v2]:List Lane) (fun _=>W) W W ⟨W,W,W,W,W,W,trivial⟩ (fun _=>W)) (sv W<|sv W<|C2 (dl Gz [(Part.mk 0 48000 52000 1),(Part.mk 1 48000 52000 0)]) W W (sv W<|C2 (dl If [(Zone.mk [(Part.mk 0 48000 52000 1),(Part.mk 1 48000 52000 0)] 0)]) W W (sv W<|T6 W A2 [(di 0),(dl Mb [v1,v2]),(dl If [(Zone.mk [(Part.mk 0 48000 52000 1),(Part.mk 1 48000 52000 0)] 0)]),(.d .nilS),(.d .nilS)] W (A1<|B7 ?_))))))))
 cases h
 exact A9 (.inr W) (C0 (K7 W A2 (nl W) W) C6) (.agg (ca W<|ca W<|ca W<|.cons ⟨DLe.nil,W⟩ (.cons ⟨DLe.nil,W⟩ .nil)))
def Ok (p1:Int)(p2:Int)(p3:Int):Option Agent:=
  some (Agent.mk [p1] p2 p3 4000 0 false false)
theorem Sl(p1 p2 p3 r)(h:Ok p1 p2 p3=some r):PCall prog 66 [(i64 p1),(i64 p2),(i64 p3)] (.agg (C4 r)):=by
 refine C7 (fk func66 ntmps66 (fun r=>if r==1 then [1001]else []) (by with_unfolding_all rfl)) (nl W) ?_
 unfold Ok at h
 refine B6 (s0:=⟨T [(0,(.d _)),(1,(.d _)),(2,(.d _))],G []⟩) (G0 W W) ?_
 refine B3<|sm W<|A1<|B3<|sv W<|C2 (dl A4 [p1]) W W (sv W<|sv W<|sv W<|T6 W A2 [(dl A4 [p1]),(di p2),(di p3),(di 4000),(di 0),(.d (bo false)),(.d (bo false))] W (A1<|B7 ?_))
 cases h
 exact A9 (.inr W) (C0 (K7 W A2 (nl W) W) C6) (.refl _)
def W8 (p1:List Stay):Option (List Stay):=Y4 [] p1
theorem Ey (p1:List Stay)(a0:D)(hl:Y4 ([]:List Stay) p1=some p1)(hn: ∀h,G7 (T [(3, .d a0),(2, .d .nilS),(0, .d a0)]) h (.isnil false (.t 3))=some (.d (bo false)))(he: ∀h,W4 h 4 (.d a0)=some (List.map F8 p1)):
    PCall prog 121 [a0] (.list (List.map F8 p1)):=by
  refine C7 (fk func121 ntmps121 m0 (by with_unfolding_all rfl)) (Nat.le_of_ble_eq_true W) ?_
  refine (B6 (s0:=⟨T [(0, .d a0)],G []⟩) (D0 ⟨.of W,trivial⟩ trivial) ?_)
  refine A6 ?_
  refine Ag fun _ _=> ?_
  refine C2 (.d .nilS) W W ?_
  refine A1 ?_
  refine A6 ?_
  refine A6 ?_
  refine Ag fun _ _=> ?_
  refine C2 (.d a0) W W ?_
  refine C2 (.d (bo false)) W (hn _) ?_
  refine A1 ?_
  refine Oh W ?_
  refine B0 ?_
  refine A6 ?_
  refine Ag fun _ _=> ?_
  refine DF (.sl _) (.arr 127 4 (List.map F8 ([]:List Stay))) W W ?_
  refine C2 (.d a0) W W ?_
  refine Sc F8 _ [] p1 _ (he _) W A2 hl ?_
  refine C2 (.sl _) W W ?_
  refine A1 ?_
  refine B7 ?_
  exact A9 (.inr W) (C0 (B8 W)<|HK A2) (.refl _)
theorem Gk(p1 r)(h:W8 p1=some r):PCall prog 121 [.list (List.map F8 p1)] (.list (List.map F8 r)):=by
  have hr:r=p1:=by obtain ⟨_,rfl⟩:=Cu h;rfl
  subst hr
  cases r with
  |cons x xs=>exact Ey (x::xs) _ h (fun _=>rfl) fun _=>J9 (fun _=>rfl)
  |nil=>
   refine PCall.nil fun A cap=> ?_
   cases A with
   |some A=>exact Ey [] (.v (.slice (some A) 0 cap)) h (fun _=>rfl) fun _=>rfl
   |none=>
    refine C7 (fk func121 ntmps121 m0 (by with_unfolding_all rfl)) (Nat.le_of_ble_eq_true W) ?_
    refine (B6 (s0:=⟨T [(0, .d (.v (.slice none 0 cap)))],G []⟩) (D0 ⟨.of W,trivial⟩ trivial) ?_)
    refine A6 ?_
    refine Ag fun _ _=> ?_
    refine C2 (.d .nilS) W W ?_
    refine A1 ?_
    refine A6 ?_
    refine A6 ?_
    refine Ag fun _ _=> ?_
    refine C2 (.d _) W W ?_
    refine C2 (.d (bo true)) W W ?_
    refine A1 ?_
    refine Ti W ?_
    refine A6 ?_
    refine Ag fun _ _=> ?_
    refine C2 (.d .nilS) W W ?_
    refine A1 ?_
    refine B7 ?_
    exact A9 (.inr W) (C0 (B8 W) C6) .nil
def Fe (p1:List Int):Option (List Int):=Y4 [] p1
theorem Gl (p1:List Int)(a0:D)(hl:Y4 ([]:List Int) p1=some p1)(hn: ∀h,G7 (T [(3, .d a0),(2, .d .nilS),(0, .d a0)]) h (.isnil false (.t 3))=some (.d (bo false)))(he: ∀h,W4 h 1 (.d a0)=some (List.map A4 p1)):
    PCall prog 178 [a0] (.list (List.map A4 p1)):=by
  refine C7 (fk func178 ntmps178 m0 (by with_unfolding_all rfl)) (Nat.le_of_ble_eq_true W) ?_
  refine (B6 (s0:=⟨T [(0, .d a0)],G []⟩) (D0 ⟨.of W,trivial⟩ trivial) ?_)
  refine A6 ?_
  refine Ag fun _ _=> ?_
  refine C2 (.d .nilS) W W ?_
  refine A1 ?_
  refine A6 ?_
  refine A6 ?_
  refine Ag fun _ _=> ?_
  refine C2 (.d a0) W W ?_
  refine C2 (.d (bo false)) W (hn _) ?_
  refine A1 ?_
  refine Oh W ?_
  refine B0 ?_
  refine A6 ?_
  refine Ag fun _ _=> ?_
  refine DF (.sl _) (.arr 3 1 (List.map A4 ([]:List Int))) W W ?_
  refine C2 (.d a0) W W ?_
  refine Sc A4 _ [] p1 _ (he _) W A2 hl ?_
  refine C2 (.sl _) W W ?_
  refine A1 ?_
  refine B7 ?_
  exact A9 (.inr W) (C0 (B8 W)<|HK A2) (.refl _)
theorem Ps(p1 r)(h:Fe p1=some r):PCall prog 178 [.list (List.map A4 p1)] (.list (List.map A4 r)):=by
  have hr:r=p1:=by obtain ⟨_,rfl⟩:=Cu h;rfl
  subst hr
  cases r with
  |cons x xs=>exact Gl (x::xs) _ h (fun _=>rfl) fun _=>J9 (fun _=>rfl)
  |nil=>
   refine PCall.nil fun A cap=> ?_
   cases A with
   |some A=>exact Gl [] (.v (.slice (some A) 0 cap)) h (fun _=>rfl) fun _=>rfl
   |none=>
    refine C7 (fk func178 ntmps178 m0 (by with_unfolding_all rfl)) (Nat.le_of_ble_eq_true W) ?_
    refine (B6 (s0:=⟨T [(0, .d (.v (.slice none 0 cap)))],G []⟩) (D0 ⟨.of W,trivial⟩ trivial) ?_)
    refine A6 ?_
    refine Ag fun _ _=> ?_
    refine C2 (.d .nilS) W W ?_
    refine A1 ?_
    refine A6 ?_
    refine A6 ?_
    refine Ag fun _ _=> ?_
    refine C2 (.d _) W W ?_
    refine C2 (.d (bo true)) W W ?_
    refine A1 ?_
    refine Ti W ?_
    refine A6 ?_
    refine Ag fun _ _=> ?_
    refine C2 (.d .nilS) W W ?_
    refine A1 ?_
    refine B7 ?_
    exact A9 (.inr W) (C0 (B8 W) C6) .nil
def Aq (p1:Agent):Option Agent:=
  (Fe p1.Route).bind fun v1=>some (Agent.mk v1 p1.S p1.V p1.Len p1.Begin p1.Obey p1.Gone)
theorem Iw(p1 r)(h:Aq p1=some r):PCall prog 87 [(.agg (C4 p1))] (.agg (C4 r)):=by
 refine C7 (fk func87 ntmps87 m0 (by with_unfolding_all rfl)) (nl W) ?_
 unfold Aq at h
 refine B6 (s0:=⟨T [(0,(.d _))],G []⟩) (G0 W W) ?_
 refine B3<|sm W<|sn W W<|A1<|B3<|sq W<|sl W (gq W) W (bs h fun v1 hv1 h=>B9 W W A3 (Ps _ _ hv1) (.inl W) (sq W<|T6 W (gq W) ((M5 p1).set 0 (dl A4 v1)) W (A1<|B3<|sd W (C1 W A2 W W)<|T6 W (gq W) ((M5 p1).set 0 (dl A4 v1)) W (A1<|B7 ?_))))
 cases h
 exact A9 (.inr W) (C0 (K7 W A2 (nl W) W) C6) (.refl _)
def Eg (p1:State)(x1:(Int×State)):Option (Stp (Int×State) State):=
  cond (decide (x1.1< (p1.Agents.length:Int))) ((F2 p1.Agents x1.1).bind fun v2=>(Aq v2).bind fun v3=>(Y4 x1.2.Agents [v3]).bind fun v4=>some (.go ((J6 (x1.1+1)),(State.mk x1.2.Tick v4 x1.2.In)))) (some (.out x1.2))
def Ci [Lp](p1:State):Option State:=
  (W8 p1.In).bind fun v1=>(loop (Eg p1) (0,(State.mk p1.Tick [] v1))).bind fun y1=>some y1
theorem Ox(p1 r)(h:Ci p1=some r):PCall prog 56 [(.agg (N9 p1))] (.agg (N9 r)):=by
 refine C7 (fk func56 ntmps56 (fun r=>if r==5 then [1004]else []) (by with_unfolding_all rfl)) (nl W) ?_
 unfold Ci at h
 refine B6 (s0:=⟨T [(0,(.d _))],G []⟩) (G0 W W) ?_
 refine lr<|fun u1 _=>sm W<|sm W<|A1<|A6<|Na W fun u2 _=>sq W<|sl W (gq W) W (sq W<|sl W (gq W) W (bs h fun v1 hv1 h=>B9 W W A3 (Gk _ _ hv1) (.inl W) (sv W<|sm W<|T6 W A2 [(di p1.Tick),(.d .nilS),(dl F8 v1)] W (A1<|A6<|B3<|sq W<|sl W (gq W) W (sd W (E3 W)<|sv W<|A1<|bs h fun y1 hy1 h=>D3 (fun s=> ∃g1:Nat,Sb ⟨T [(2,(.ptr (2,u1) 0)),(3,(.ptr (3,u2) 0))],G [((2,u1),some<|.box 25 [(di 0),(.d .nilS),(.d .nilS)]),((3,u2),some<|.box 25 [(di y1.Tick),(oS y1.Agents (24,g1)),(dl F8 y1.In)]),((24,g1),oB 45 7 C4 y1.Agents)]⟩ s) ?_ ?_)))))
 refine A7<|D7 (Eg p1) (fun (x1:(Int×State)) (g2:Nat)=>⟨T [(2,(.ptr (2,u1) 0)),(3,(.ptr (3,u2) 0)),(13,(dl C4 p1.Agents)),(14,(di (p1.Agents.length:Int))),(15,(di x1.1))],G [((2,u1),some<|.box 25 [(di 0),(.d .nilS),(.d .nilS)]),((3,u2),some<|.box 25 [(di x1.2.Tick),(oS x1.2.Agents (24,g2)),(dl F8 x1.2.In)]),((24,g2),oB 45 7 C4 x1.2.Agents)]⟩) (0,(State.mk p1.Tick [] v1)) 0 _ hy1 (D0 (S5 W)<|sg W<|A8 A2 (.of W)<|Y5 trivial) ?_
 intro x1 g2 z1 hz1 ez1
 unfold Eg at hz1
 refine B3<|sv W<|A1<|A6<|cc W hz1 (fun c1 hz1=> ?_)<|fun c1 hz1=> ?_
 refine B0<|A6<|A7<|B3<|bs hz1 fun v2 hv2 hz1=>sd W (E7 W W hv2 W)<|sd W (E6 W hv2 W W)<|sm W<|T6 W A2 (M5 v2) W (A1<|Na W fun u6 _=>sq W<|C2 (oS x1.2.Agents (24,g2)) W (O8 W (gq W) W) (sd W (C1 W A2 W W)<|bs hz1 fun v3 hv3 hz1=>B9 W W A3 (Iw _ _ hv3) (.inl W) (C2 (dl C4 [v3]) W W (bs hz1 fun _ hv4 hz1=>P1 C4 (24,g2) x1.2.Agents v3 [] _ (J9<|fun _=>W) W (gq W) hv4 (sq W<|T6 W (gq W) [(di x1.2.Tick),(.sl (24,u6)),(dl F8 x1.2.In)] W (A1<|E5<|C3<|sv W<|sv W<|A1<|E0 ?_))))))
 cases hz1
 exact ⟨W,u6,(D0 (S5 W)<|sg W<|A8 A2 (.box (cv<|.cons (.of (Ap<|S7 hv4).symm) cw))<|U5 (gq W) trivial)⟩
 refine D1 W ?_
 cases hz1
 obtain rfl:=ez1 _ rfl
 refine ⟨nofun,C5 W<|U6 ?_⟩
 exact ⟨g2,(D0 (S5 W)<|A8 A2 (.of W)<|sg W<|B4 (gq W) trivial)⟩
 rintro _ ⟨g1,q1⟩
 refine B6 q1<|B3<|C2 (W1 [(di y1.Tick),(oS y1.Agents (24,g1)),(dl F8 y1.In)]) W (C1 W (gq W) W W) (Fu _ _ _ _ _ (S8 _) W W A2 (nl W) [(di y1.Tick),(oS y1.Agents (24,g1)),(dl F8 y1.In)] W (A1<|B7 ?_))
 cases h
 exact A9 (.inr W) (C0 (K7 W A2 (nl W) W)<|Iu<|rD<|D4 (U8<|gq W)<|rD E4) (.agg (ca W<|.cons ⟨U7,W⟩ (cz W)))
def Bv (p1:Int)(p2:Int)(p3:Int):Option Bool:=
  some ((decide (p2≤p1))&& (decide (p1≤p3)))
theorem Bg(p1 p2 p3 r)(h:Bv p1 p2 p3=some r):PCall prog 209 [(i64 p1),(i64 p2),(i64 p3)] (bo r):=by
 refine C7 (fk func209 ntmps209 m0 (by with_unfolding_all rfl)) (nl W) ?_
 unfold Bv at h
 refine B6 (s0:=⟨T [(0,(.d _)),(1,(.d _)),(2,(.d _))],G []⟩) (G0 W W) ?_
 refine B3<|sv W<|A1<|B3<|sv W<|sv W<|sv W<|sv W<|gt W (fun _=>W)<|gt W (fun _=>W)<|gt W (fun w3=>(R1 (A5 w3) (A5 w3) W))<|sa W W W<|sv W<|A1<|B7 ?_
 cases h
 exact A9 (.inr W) (C0 (B8 W) C6) (.refl _)
def Gp (p1:RoadsCheck):Option Int:=
  (Bv p1.Map_.Version 0 1099511627776).bind fun v1=>cond (!v1) (some 2) (cond ((p1.Map_.Lanes.length:Int)==0) (some 6) (cond ((((decide ((p1.Map_.Lanes.length:Int)>12))||(decide ((p1.Map_.Zones.length:Int)>12)))||(decide ((p1.Map_.Signals.length:Int)>4)))||(decide ((p1.Map_.Works.length:Int)>8))) (some 8) (some 0)))
theorem Qm(p1 r)(h:Gp p1=some r):PCall prog 148 [(.agg (Y6 p1.Map_))] (i64 r):=by
 refine C7 (fk func148 ntmps148 m0 (by with_unfolding_all rfl)) (nl W) ?_
 unfold Gp at h
 refine B6 (s0:=⟨T [(0,(.d _))],G []⟩) (G0 W W) ?_
 refine B3<|sm W<|sv W<|A1<|A6<|A7<|B3<|sq W<|sp W W<|sl W A2 W<|bs h fun v1 hv1 h=>B9 W W A3 (Bg _ _ _ _ hv1) (.inl W) (C2 (.d (bo (!v1))) W W (sv W<|A1<|cc W h (fun c1 h=> ?_)<|fun c1 h=> ?_))
 refine B3<|sv W<|A1<|B7 ?_
 cases h
 exact A9 (.inr W) (C0 (B8 W) C6) (.refl _)
 refine B3<|sq W<|sp W W<|sl W A2 W<|sd W (E3 W)<|sv W<|sv W<|A1<|cc W h (fun c2 h=> ?_)<|fun c2 h=> ?_
 refine B3<|sv W<|A1<|B7 ?_
 cases h
 exact A9 (.inr W) (C0 (B8 W) C6) (.refl _)
 refine B3<|sq W<|sp W W<|sl W A2 W<|sd W (E3 W)<|sv W<|sv W<|gp W (N7 W) (fun _=>W) ?_
 refine P5 _ (.ptr _ _) W (N7 W) (fun w2=>(by simp only [A5 w2];rfl)) ?_
 refine gf W (vl W A2 W)<|gf W (fun w4=>(E3<|A5 w4))<|gf W (vb W W W)<|sd W (U2 W W<|fun hc=>A5<|N2 hc)<|sv W<|gp W (N7 W) (fun _=>W) ?_
 refine P5 _ (.ptr _ _) W (N7 W) (fun w7=>(by simp only [A5 w7];rfl)) ?_
 refine gf W (vl W A2 W)<|gf W (fun w9=>(E3<|A5 w9))<|gf W (vb W W W)<|sd W (U2 W W<|fun hc=>A5<|N2 hc)<|sv W<|gp W (N7 W) (fun _=>W) ?_
 refine P5 _ (.ptr _ _) W (N7 W) (fun w12=>(by simp only [A5 w12];rfl)) ?_
 refine gf W (vl W A2 W)<|gf W (fun w14=>(E3<|A5 w14))<|gf W (vb W W W)<|sd W (U2 W W<|fun hc=>A5<|N2 hc)<|sv W<|A1<|cc W h (fun c3 h=> ?_)<|fun c3 h=> ?_
 refine B3<|sv W<|A1<|B7 ?_
 cases h
 exact A9 (.inr W) (C0 (B8 W) C6) (.refl _)
 refine B0<|E5<|B3<|sv W<|A1<|B7 ?_
 cases h
 exact A9 (.inr W) (C0 (B8 W) C6) (.refl _)
def Fx (p1:Int):Option (Int×Int×Int):=
  cond ((decide (p1<0))||(decide (p1≥4))) (some (0,0,0)) ((F2 ([(0,0,0),(2000,30,90),(1000,20,60),(300,100,300)]:List (Int×Int×Int)) p1).bind fun v1=>some (v1.1,v1.2.1,v1.2.2))
theorem Hl(p1 r)(h:Fx p1=some r):PCall prog 157 [(i64 p1)] (.tup [(i64 r.1),(i64 r.2.1),(i64 r.2.2)]):=by
 refine C7 (fk func157 ntmps157 m0 (by with_unfolding_all rfl)) (nl W) ?_
 unfold Fx at h
 refine B6 (s0:=⟨T [(0,(.d _))],G []⟩) (G0 W W) ?_
 refine B3<|sv W<|sv W<|sv W<|A1<|B3<|sv W<|sv W<|sv W<|sv W<|sm W<|T6 W A2 [(di 0),(di 0),(di 0),(di 2000),(di 30),(di 90),(di 1000),(di 20),(di 60),(di 300),(di 100),(di 300)] W (A1<|A6<|B3<|sv W<|sv W<|sv W<|gf W (fun _=>W)<|gf W (vb W W W)<|sd W (U2 W W<|fun hc=>A5<|N2 hc)<|A1<|cc W h (fun c1 h=> ?_)<|fun c1 h=> ?_)
 refine B3<|sv W<|sv W<|sv W<|A1<|B7 ?_
 cases h
 exact A9 (.inr W) (HL (B8 W) (B8 W) (B8 W) C6 C6 C6) (.refl _)
 refine B0<|B3<|sv W<|bs h fun v1 hv1 h=>sp W (WH W W hv1 W)<|sd W (ST (f:=cC) W A2 hv1 (fun _=>W) W W)<|sm W<|T6 W A2 [(di v1.1),(di v1.2.1),(di v1.2.2)] W (A1<|A6<|K6 W<|sq W<|sl W A2 W<|sq W<|sl W A2 W<|sq W<|sl W A2 W<|sv W<|sv W<|sv W<|A1<|B7 ?_)
 cases h
 exact A9 (.inr W) (HL (B8 W) (B8 W) (B8 W) C6 C6 C6) (.refl _)
def Oy (p1:(List Spot))(x1:Int):Option (Stp Int (Sum Unit Bool)):=
  cond (decide (x1< (p1.length:Int))) ((F2 p1 x1).bind fun v1=>cond ((decide ((BT false v1.X v1.Y)< (-16777216)))||(decide ((BT true v1.X v1.Y)>16777216))) (some (.out (.inr false))) (some (.go (J6 (x1+1))))) (some (.out (.inl ())))
def Jq [Lp](p1:(List Spot)):Option Bool:=
  thenS (loop (Oy p1) 0) (fun _=>some true) (fun r=>some r)
theorem CF(p1 r)(h:Jq p1=some r):PCall prog 237 [(.list (List.map Ee p1))] (bo r):=by
 refine C7 (fk func237 ntmps237 m0 (by with_unfolding_all rfl)) (nl W) ?_
 unfold Jq at h
 refine B6 (s0:=⟨T [(0,(.d _))],G []⟩) (G0 W W) ?_
 refine B3<|sv W<|A1<|A6<|B3<|sv W<|sd W (E3 W)<|sv W<|A1<|js h fun z1 hz1 h=>D3 (fun s=> ∃(y1:Unit) (g1:Unit),z1= .inl y1∧Sb ⟨T [],G []⟩ s) ?_ ?_
 refine A7<|D7 (Oy p1) (fun (x1:Int) (g2:Unit)=>⟨T [(5,(dl Ee p1)),(6,(di (p1.length:Int))),(7,(di x1))],G []⟩) 0 () _ hz1 (G0 W W) ?_
 intro x1 g2 z2 hz2 ez2
 unfold Oy at hz2
 refine B3<|sv W<|A1<|A6<|cc W hz2 (fun c1 hz2=> ?_)<|fun c1 hz2=> ?_
 refine B0<|A6<|A7<|B3<|bs hz2 fun v1 hv1 hz2=>sd W (E7 W W hv1 W)<|sd W (E6 W hv1 W W)<|sm W<|T6 W A2 [(di v1.X),(di v1.Y)] W (A1<|B3<|sq W<|sl W A2 W<|sq W<|sl W A2 W<|sv W<|sv W<|sv W<|gp W (N7 W) (fun _=>W) (gf W (vl W A2 W)<|gp W (N7 W) (fun _=>W) (gf W (vl W A2 W) ?_)))
 refine gf W (fun w5=>(by simp only [A5 w5];rfl)) ?_
 refine gf W (vb W W W)<|sd W (U2 W W<|fun hc=>A5<|N2 hc)<|A1<|cc W hz2 (fun c2 hz2=> ?_)<|fun c2 hz2=> ?_
 refine B3<|sv W<|A1<|B7 ?_
 cases hz2
 obtain rfl:=ez2 _ rfl
 refine ⟨nofun,G4 ?_⟩
 rw [bI]at h
 cases h
 exact A9 (.inr W) (C0 (B8 W) C6) (.refl _)
 refine B0<|E5<|C3<|sv W<|sv W<|A1<|E0 ?_
 cases hz2
 exact ⟨W,(),(G0 W W)⟩
 refine D1 W ?_
 cases hz2
 obtain rfl:=ez2 _ rfl
 refine ⟨nofun,C5 W<|U6 ?_⟩
 exact ⟨_,(),W,(G0 W W)⟩
 rintro _ ⟨y1,g1,rfl,q1⟩
 rw [bH]at h
 refine B6 q1<|B3<|sv W<|A1<|B7 ?_
 cases h
 exact A9 (.inr W) (C0 (B8 W) C6) (.refl _)
def Qn (p1:Spot)(p2:Spot):Option CurveVector:=
  some (CurveVector.mk (J6 (p2.X - p1.X)) (J6 (p2.Y - p1.Y)))
theorem Ud(p1 p2 r)(h:Qn p1 p2=some r):PCall prog 238 [(.agg [(i64 p1.X),(i64 p1.Y)]),(.agg [(i64 p2.X),(i64 p2.Y)])] (.agg [(i64 r.x),(i64 r.y)]):=by
 refine C7 (fk func238 ntmps238 m0 (by with_unfolding_all rfl)) (nl W) ?_
 unfold Qn at h
 refine B6 (s0:=⟨T [(0,(.d _)),(1,(.d _))],G []⟩) (G0 W W) ?_
 refine B3<|sm W<|sn W W<|sm W<|A1<|B3<|sq W<|sl W (gq W) W (sq W<|sl W (gq W) W (sv W<|sq W<|sl W (gq W) W (sq W<|sl W (gq W) W (sv W<|sv W<|T6 W A2 [(di<|J6 (p2.X - p1.X)),(di<|J6 (p2.Y - p1.Y))] W (A1<|B7 ?_)))))
 cases h
 exact A9 (.inr W) (C0 (K7 W A2 (nl W) W) C6) (.refl _)
def Cw (p1:CurveVector)(p2:CurveVector):Option Int:=
  some (J6 ((J6 (p1.x*p2.x))+ (J6 (p1.y*p2.y))))
theorem Gq(p1 p2 r)(h:Cw p1 p2=some r):PCall prog 240 [(.agg [(i64 p1.x),(i64 p1.y)]),(.agg [(i64 p2.x),(i64 p2.y)])] (i64 r):=by
 refine C7 (fk func240 ntmps240 m0 (by with_unfolding_all rfl)) (nl W) ?_
 unfold Cw at h
 refine B6 (s0:=⟨T [(0,(.d _)),(1,(.d _))],G []⟩) (G0 W W) ?_
 refine B3<|sm W<|sn W W<|sv W<|A1<|B3<|sq W<|sl W (gq W) W (sq W<|sl W A2 W<|sv W<|sq W<|sl W (gq W) W (sq W<|sl W A2 W<|sv W<|sv W<|sv W<|A1<|B7 ?_))
 cases h
 exact A9 (.inr W) (C0 (B8 W) C6) (.refl _)
def Ha (p1:Int)(x1:(Int×Int)):Option (Stp (Int×Int) Int):=
  cond (decide (x1.1<x1.2)) (cond (decide ((J6 ((J6 ((J6 (x1.1+x1.2)).tdiv 2))* (J6 ((J6 (x1.1+x1.2)).tdiv 2))))<p1)) (some (.go ((J6 ((J6 ((J6 (x1.1+x1.2)).tdiv 2))+1)),x1.2))) (some (.go (x1.1,(J6 ((J6 (x1.1+x1.2)).tdiv 2)))))) (some (.out x1.1))
def Ds [Lp](p1:Int):Option (Int×Bool):=
  (loop (Ha p1) (0,67108864)).bind fun y1=>some (y1,((J6 (y1*y1))==p1))
theorem Ue(p1 r)(h:Ds p1=some r):PCall prog 239 [(i64 p1)] (.tup [(i64 r.1),(bo r.2)]):=by
 refine C7 (fk func239 ntmps239 m0 (by with_unfolding_all rfl)) (nl W) ?_
 unfold Ds at h
 refine B6 (s0:=⟨T [(0,(.d _))],G []⟩) (G0 W W) ?_
 refine B3<|sv W<|sv W<|A1<|B3<|sv W<|sv W<|A1<|A6<|bs h fun y1 hy1 h=>D3 (fun s=> ∃g1:Unit,Sb ⟨T [(0,(di p1)),(4,(di y1))],G []⟩ s) ?_ ?_
 refine A7<|D7 (Ha p1) (fun (x1:(Int×Int)) (g2:Unit)=>⟨T [(0,(di p1)),(4,(di x1.1)),(5,(di x1.2))],G []⟩) (0,67108864) () _ hy1 (G0 W W) ?_
 intro x1 g2 z1 hz1 ez1
 unfold Ha at hz1
 refine A6<|B3<|sv W<|sv W<|sv W<|A1<|cc W hz1 (fun c1 hz1=> ?_)<|fun c1 hz1=> ?_
 refine B0<|A7<|B3<|sv W<|sv W<|sv W<|sv W<|sv W<|A1<|B3<|sv W<|sv W<|sv W<|sv W<|sv W<|A1<|cc W hz1 (fun c2 hz1=> ?_)<|fun c2 hz1=> ?_
 refine C3<|sv W<|sv W<|sv W<|A1<|E5<|E0 ?_
 cases hz1
 exact ⟨W,(),(G0 W W)⟩
 refine C3<|sv W<|sv W<|A1<|E5<|E0 ?_
 cases hz1
 exact ⟨W,(),(G0 W W)⟩
 refine D1 W ?_
 cases hz1
 obtain rfl:=ez1 _ rfl
 refine ⟨nofun,C5 W<|U6 ?_⟩
 exact ⟨(),(G0 W W)⟩
 rintro _ ⟨g1,q1⟩
 refine B6 q1<|B3<|sv W<|sv W<|sv W<|sv W<|sv W<|sv W<|sv W<|sv W<|A1<|B7 ?_
 cases h
 exact A9 (.inr W) (Ic (B8 W) (B8 W) C6 C6) (.refl _)
def Cx [Lp](p1:Curve)(x1:(Int×CurveVector)):Option (Stp (Int×CurveVector) (Sum Unit Int)):=
  cond (decide (x1.1< (J6 ((p1.Pts.length:Int) - 1)))) ((F2 p1.Pts x1.1).bind fun v2=>(F2 p1.Pts (J6 (x1.1+1))).bind fun v3=>(Qn v2 v3).bind fun v4=>(Cw v4 v4).bind fun v5=>(Ds v5).bind fun v6=>cond (!v6.2) (some (.out (.inr 3))) (cond ((decide (v6.1<1000))||(decide (v6.1>1048576))) (some (.out (.inr 2))) (((cond (decide (x1.1>0)) (Cw x1.2 v4) (some default))).bind fun v7=>cond ((decide (x1.1>0))&& (decide (v7≤0))) (some (.out (.inr 12))) (some (.go ((J6 (x1.1+1)),v4)))))) (some (.out (.inl ())))
def Ff [Lp](p1:Curve):Option Int:=
  cond (decide ((p1.Pts.length:Int)<2)) (some 6) (cond (decide ((p1.Pts.length:Int)>16)) (some 5) ((Jq p1.Pts).bind fun v1=>cond (!v1) (some 2) (thenS (loop (Cx p1) (0,(CurveVector.mk 0 0))) (fun _=>some 0) (fun r=>some r))))
theorem Sm(p1 r)(h:Ff p1=some r):PCall prog 198 [(.agg [(.list (List.map Ee p1.Pts))])] (i64 r):=by
 refine C7 (fk func198 ntmps198 m0 (by with_unfolding_all rfl)) (nl W) ?_
 unfold Ff at h
 refine B6 (s0:=⟨T [(0,(.d _))],G []⟩) (G0 W W) ?_
 refine lr<|fun u1 _=>sm W<|sv W<|A1<|A6<|A7<|B3<|sq W<|sl W A2 W<|sd W (E3 W)<|sv W<|sv W<|A1<|cc W h (fun c1 h=> ?_)<|fun c1 h=> ?_
 refine B3<|sv W<|A1<|B7 ?_
 cases h
 exact A9 (.inr W) (C0 (B8 W) C6) (.refl _)
 refine B3<|sq W<|sl W A2 W<|sd W (E3 W)<|sv W<|sv W<|A1<|cc W h (fun c2 h=> ?_)<|fun c2 h=> ?_
 refine B3<|sv W<|A1<|B7 ?_
 cases h
 exact A9 (.inr W) (C0 (B8 W) C6) (.refl _)
 refine B3<|sq W<|sl W A2 W<|bs h fun v1 hv1 h=>B9 W W A3 (CF _ _ hv1) (.inl W) (C2 (.d (bo (!v1))) W W (sv W<|A1<|cc W h (fun c3 h=> ?_)<|fun c3 h=> ?_))
 refine B3<|sv W<|A1<|B7 ?_
 cases h
 exact A9 (.inr W) (C0 (B8 W) C6) (.refl _)
 refine B0<|E5<|lr<|fun u8 _=>sm W<|A1<|A6<|B3<|sq W<|sl W (gq W) W (sd W (E3 W)<|sv W<|sv W<|A1<|js h fun z1 hz1 h=>D3 (fun s=> ∃(y1:Unit) (g1:Unit),z1= .inl y1∧Sb ⟨T [],G []⟩ s) ?_ ?_)
 refine A7<|D7 (Cx p1) (fun (x1:(Int×CurveVector)) (g2:Unit)=>⟨T [(1,(.ptr (1,u1) 0)),(3,(.ptr (3,u8) 0)),(26,(di<|J6 ((p1.Pts.length:Int) - 1))),(27,(di x1.1))],G [((1,u1),some<|.box 61 [(dl Ee p1.Pts)]),((3,u8),some<|.box 253 [(di x1.2.x),(di x1.2.y)])]⟩) (0,(CurveVector.mk 0 0)) () _ hz1 (G0 W W) ?_
 intro x1 g2 z2 hz2 ez2
 unfold Cx at hz2
 refine B3<|sv W<|A1<|A6<|cc W hz2 (fun c4 hz2=> ?_)<|fun c4 hz2=> ?_
 refine B0<|A6<|A7<|B3<|sv W<|sv W<|A1<|A6<|K6 W<|sq W<|sl W A2 W<|sv W<|bs hz2 fun _ hv2 hz2=>sd W (E7 W W hv2 W)<|sd W (E6 W hv2 W W)<|sq W<|sl W A2 W<|sv W<|sv W<|bs hz2 fun _ hv3 hz2=>sd W (E7 W W hv3 W)<|sd W (E6 W hv3 W W)<|bs hz2 fun v4 hv4 hz2=>B9 W W A3 (Ud _ _ _ hv4) (.inl W) (sm W<|T6 W A2 [(di v4.x),(di v4.y)] W (A1<|B3<|sd W (C1 W A2 W W)<|sd W (C1 W A2 W W)<|bs hz2 fun _ hv5 hz2=>B9 W W A3 (Gq _ _ _ hv5) (.inl W) (bs hz2 fun v6 hv6 hz2=>B9 W W A3 (Ue _ _ hv6) (.inl W) (sv W<|sv W<|sv W<|sv W<|sv W<|A1<|A6<|A7<|B3<|sv W<|C2 (.d (bo (!v6.2))) W W (sv W<|A1<|cc W hz2 (fun c5 hz2=> ?_)<|fun c5 hz2=> ?_)))))
 refine B3<|sv W<|A1<|B7 ?_
 cases hz2
 obtain rfl:=ez2 _ rfl
 refine ⟨nofun,G4 ?_⟩
 rw [bI]at h
 cases h
 exact A9 (.inr W) (C0 (B8 W) C6) (.refl _)
 refine B3<|sv W<|sv W<|sv W<|gf W (fun _=>W)<|gf W (vb W W W)<|sd W (U2 W W<|fun hc=>A5<|N2 hc)<|sv W<|A1<|cc W hz2 (fun c6 hz2=> ?_)<|fun c6 hz2=> ?_
 refine B3<|sv W<|A1<|B7 ?_
 cases hz2
 obtain rfl:=ez2 _ rfl
 refine ⟨nofun,G4 ?_⟩
 rw [bI]at h
 cases h
 exact A9 (.inr W) (C0 (B8 W) C6) (.refl _)
 refine B3<|sv W<|sv W<|sv W<|gt W (fun _=>(C1 W (gq W) W W))<|gt W (fun _=>(C1 W A2 W W))<|bs hz2 fun v7 hv7 hz2=> ?_
 refine N8 _ (i64 v7) (M4 W) (fun w5=>⟨_,[(.d (.agg [(i64 x1.2.x),(i64 x1.2.y)])),(.d (.agg [(i64 v4.x),(i64 v4.y)]))],_,_,(by simp only [A5 w5];rfl),W,A3,Gq _ _ _<|D8 w5 hv7,(.inl W)⟩) ?_
 refine gt W (vb W W W)<|sa W W W<|sv W<|A1<|cc W hz2 (fun c7 hz2=> ?_)<|fun c7 hz2=> ?_
 refine B3<|sv W<|A1<|B7 ?_
 cases hz2
 obtain rfl:=ez2 _ rfl
 refine ⟨nofun,G4 ?_⟩
 rw [bI]at h
 cases h
 exact A9 (.inr W) (C0 (B8 W) C6) (.refl _)
 refine B0<|E5<|C3<|sd W (C1 W A2 W W)<|T6 W (gq W) [(di v4.x),(di v4.y)] W (A1<|E5<|C3<|sv W<|sv W<|A1<|E0 ?_)
 cases hz2
 exact ⟨W,(),(G0 W W)⟩
 refine D1 W ?_
 cases hz2
 obtain rfl:=ez2 _ rfl
 refine ⟨nofun,C5 W<|U6 ?_⟩
 exact ⟨_,(),W,(G0 W W)⟩
 rintro _ ⟨y1,g1,rfl,q1⟩
 rw [bH]at h
 refine B6 q1<|B3<|sv W<|A1<|B7 ?_
 cases h
 exact A9 (.inr W) (C0 (B8 W) C6) (.refl _)
def La (p1:(List Int))(p3:Int)(x1:(Int×Int)):Option (Stp (Int×Int) (Sum Unit Bool)):=
  cond (decide (x1.2< (p1.length:Int))) ((F2 p1 x1.2).bind fun v1=>cond ((decide (v1<x1.1))||(decide (v1≥p3))) (some (.out (.inr false))) (some (.go ((J6 (v1+1)),(J6 (x1.2+1)))))) (some (.out (.inl ())))
def Bw [Lp](p1:(List Int))(p2:Int)(p3:Int):Option Bool:=
  thenS (loop (La p1 p3) (p2,0)) (fun _=>some true) (fun r=>some r)
theorem Lb(p1 p2 p3 r)(h:Bw p1 p2 p3=some r):PCall prog 210 [(.list (List.map A4 p1)),(i64 p2),(i64 p3)] (bo r):=by
 refine C7 (fk func210 ntmps210 m0 (by with_unfolding_all rfl)) (nl W) ?_
 unfold Bw at h
 refine B6 (s0:=⟨T [(0,(.d _)),(1,(.d _)),(2,(.d _))],G []⟩) (G0 W W) ?_
 refine B3<|sv W<|A1<|A6<|B3<|sv W<|sd W (E3 W)<|sv W<|A1<|js h fun z1 hz1 h=>D3 (fun s=> ∃(y1:Unit) (g1:Unit),z1= .inl y1∧Sb ⟨T [],G []⟩ s) ?_ ?_
 refine A7<|D7 (La p1 p3) (fun (x1:(Int×Int)) (g2:Unit)=>⟨T [(1,(di x1.1)),(2,(di p3)),(9,(dl A4 p1)),(10,(di (p1.length:Int))),(11,(di x1.2))],G []⟩) (p2,0) () _ hz1 (G0 W W) ?_
 intro x1 g2 z2 hz2 ez2
 unfold La at hz2
 refine B3<|sv W<|A1<|A6<|cc W hz2 (fun c1 hz2=> ?_)<|fun c1 hz2=> ?_
 refine B0<|A6<|A7<|B3<|bs hz2 fun _ hv1 hz2=>sd W (E7 W W hv1 W)<|sd W (H8 W hv1 W)<|sv W<|A1<|A6<|B3<|sv W<|sv W<|sv W<|sv W<|gf W (fun _=>W)<|gf W (fun _=>W)<|gf W (fun w3=>(R1 (A5 w3) (A5 w3) W))<|sd W (U2 W W<|fun hc=>A5<|N2 hc)<|A1<|cc W hz2 (fun c2 hz2=> ?_)<|fun c2 hz2=> ?_
 refine B3<|sv W<|A1<|B7 ?_
 cases hz2
 obtain rfl:=ez2 _ rfl
 refine ⟨nofun,G4 ?_⟩
 rw [bI]at h
 cases h
 exact A9 (.inr W) (C0 (B8 W) C6) (.refl _)
 refine B0<|C3<|sv W<|sv W<|sv W<|A1<|E5<|C3<|sv W<|sv W<|A1<|E0 ?_
 cases hz2
 exact ⟨W,(),(G0 W W)⟩
 refine D1 W ?_
 cases hz2
 obtain rfl:=ez2 _ rfl
 refine ⟨nofun,C5 W<|U6 ?_⟩
 exact ⟨_,(),W,(G0 W W)⟩
 rintro _ ⟨y1,g1,rfl,q1⟩
 rw [bH]at h
 refine B6 q1<|B3<|sv W<|A1<|B7 ?_
 cases h
 exact A9 (.inr W) (C0 (B8 W) C6) (.refl _)
def V4 [Lp](p1:RoadsCheck)(x1:Int):Option (Stp Int (Sum Unit Int)):=
  cond (decide (x1< (p1.Map_.Lanes.length:Int))) ((F2 p1.Map_.Lanes x1).bind fun v1=>(Fx v1.Kind).bind fun v2=>cond (v2.1==0) (some (.out (.inr 4))) ((Ff v1.Curve_).bind fun v3=>cond (v3 !=0) (some (.out (.inr v3))) ((Bv v1.Half 200 4000).bind fun v4=>((cond (!(!v4)) (Bv v1.Limit 1 v2.1) (some default))).bind fun v5=>cond ((!v4)||(!v5)) (some (.out (.inr 2))) (cond (decide ((v1.Next.length:Int)>3)) (some (.out (.inr 8))) ((Bw v1.Next (J6 (x1+1)) (p1.Map_.Lanes.length:Int)).bind fun v6=>cond (!v6) (some (.out (.inr 11))) (some (.go (J6 (x1+1))))))))) (some (.out (.inl ())))
def Z3 [Lp](p1:RoadsCheck):Option Int:=
  thenS (loop (V4 p1) 0) (fun _=>some 0) (fun r=>some r)
theorem Sn(p1 r)(h:Z3 p1=some r):PCall prog 149 [(.agg (Y6 p1.Map_))] (i64 r):=by
 refine C7 (fk func149 ntmps149 m0 (by with_unfolding_all rfl)) (nl W) ?_
 unfold Z3 at h
 refine B6 (s0:=⟨T [(0,(.d _))],G []⟩) (G0 W W) ?_
 refine lr<|fun u1 _=>sm W<|sv W<|A1<|A6<|B3<|sq W<|sp W W<|sl W A2 W<|sd W (E3 W)<|sv W<|A1<|js h fun z1 hz1 h=>D3 (fun s=> ∃(y1:Unit) (g1:Unit),z1= .inl y1∧Sb ⟨T [],G []⟩ s) ?_ ?_
 refine A7<|D7 (V4 p1) (fun (x1:Int) (g2:Unit)=>⟨T [(1,(.ptr (1,u1) 0)),(11,(dl Mb p1.Map_.Lanes)),(12,(di (p1.Map_.Lanes.length:Int))),(13,(di x1))],G [((1,u1),some<|.box 212 (Q9 p1.Map_))]⟩) 0 () _ hz1 (G0 W W) ?_
 intro x1 g2 z2 hz2 ez2
 unfold V4 at hz2
 refine B3<|sv W<|A1<|A6<|cc W hz2 (fun c1 hz2=> ?_)<|fun c1 hz2=> ?_
 refine B0<|A6<|A7<|B3<|sv W<|bs hz2 fun v1 hv1 hz2=>sd W (E7 W W hv1 W)<|sd W (E6 W hv1 W W)<|sm W<|sv W<|T6 W A2 (MU v1) W (A1<|B3<|sq W<|sl W A2 W<|bs hz2 fun v2 hv2 hz2=>B9 W W A3 (Hl _ _ hv2) (.inl W) (sv W<|sv W<|sv W<|sv W<|sv W<|sv W<|sv W<|A1<|A6<|B3<|sv W<|sv W<|A1<|cc W hz2 (fun c2 hz2=> ?_)<|fun c2 hz2=> ?_))
 refine B3<|sv W<|A1<|B7 ?_
 cases hz2
 obtain rfl:=ez2 _ rfl
 refine ⟨nofun,G4 ?_⟩
 rw [bI]at h
 cases h
 exact A9 (.inr W) (C0 (B8 W) C6) (.refl _)
 refine B0<|A6<|B3<|sq W<|sd W (C1 W A2 W W)<|bs hz2 fun _ hv3 hz2=>B9 W W A3 (Sm _ _ hv3) (.inl W) (sv W<|A1<|B3<|sv W<|sv W<|A1<|cc W hz2 (fun c3 hz2=> ?_)<|fun c3 hz2=> ?_)
 refine B3<|sv W<|sv W<|A1<|B7 ?_
 cases hz2
 obtain rfl:=ez2 _ rfl
 refine ⟨nofun,G4 ?_⟩
 rw [bI]at h
 cases h
 exact A9 (.inr W) (C0 (B8 W) C6) (.refl _)
 refine B0<|A7<|B3<|sq W<|sl W A2 W<|bs hz2 fun v4 hv4 hz2=>B9 W W A3 (Bg _ _ _ _ hv4) (.inl W) (C2 (.d (bo (!v4))) W W (sv W<|gp W (N7 W) (fun _=>W) (gf W (vl W A2 W)<|gf W (fun _=>W)<|bs hz2 fun v5 hv5 hz2=> ?_)))
 refine N8 _ (bo v5) (N7 W) (fun w4=>⟨_,[(di v1.Limit),(di 1),(di v2.1)],_,_,(by simp only [A5 w4];rfl),W,A3,Bg _ _ _ _<|D8 w4 hv5,(.inl W)⟩) ?_
 refine P5 _ (.d (bo (!v5))) W (N7 W) (fun w5=>(by simp only [A5 w5];rfl)) ?_
 refine sd W (U2 W W<|fun hc=>A5<|N2 hc)<|sv W<|A1<|cc W hz2 (fun c4 hz2=> ?_)<|fun c4 hz2=> ?_
 refine B3<|sv W<|A1<|B7 ?_
 cases hz2
 obtain rfl:=ez2 _ rfl
 refine ⟨nofun,G4 ?_⟩
 rw [bI]at h
 cases h
 exact A9 (.inr W) (C0 (B8 W) C6) (.refl _)
 refine B3<|sq W<|sl W A2 W<|sd W (E3 W)<|sv W<|sv W<|A1<|cc W hz2 (fun c5 hz2=> ?_)<|fun c5 hz2=> ?_
 refine B3<|sv W<|A1<|B7 ?_
 cases hz2
 obtain rfl:=ez2 _ rfl
 refine ⟨nofun,G4 ?_⟩
 rw [bI]at h
 cases h
 exact A9 (.inr W) (C0 (B8 W) C6) (.refl _)
 refine B3<|sq W<|sl W A2 W<|sv W<|sv W<|sq W<|sp W W<|sl W (gq W) W (sd W (E3 W)<|bs hz2 fun v6 hv6 hz2=>B9 W W A3 (Lb _ _ _ _ hv6) (.inl W) (C2 (.d (bo (!v6))) W W (sv W<|A1<|cc W hz2 (fun c6 hz2=> ?_)<|fun c6 hz2=> ?_)))
 refine B3<|sv W<|A1<|B7 ?_
 cases hz2
 obtain rfl:=ez2 _ rfl
 refine ⟨nofun,G4 ?_⟩
 rw [bI]at h
 cases h
 exact A9 (.inr W) (C0 (B8 W) C6) (.refl _)
 refine B0<|E5<|E5<|C3<|sv W<|sv W<|A1<|E0 ?_
 cases hz2
 exact ⟨W,(),(G0 W W)⟩
 refine D1 W ?_
 cases hz2
 obtain rfl:=ez2 _ rfl
 refine ⟨nofun,C5 W<|U6 ?_⟩
 exact ⟨_,(),W,(G0 W W)⟩
 rintro _ ⟨y1,g1,rfl,q1⟩
 rw [bH]at h
 refine B6 q1<|B3<|sv W<|A1<|B7 ?_
 cases h
 exact A9 (.inr W) (C0 (B8 W) C6) (.refl _)
def Et (p1:RoadsCheck)(v1:Lane)(v2:Spot)(x2:Int):Option (Stp Int (Sum Unit Int)):=
  cond (decide (x2< (v1.Next.length:Int))) ((F2 v1.Next x2).bind fun v3=>(F2 p1.Map_.Lanes v3).bind fun v4=>cond (v4.Kind !=v1.Kind) (some (.out (.inr 4))) ((F2 p1.Map_.Lanes v3).bind fun v5=>(F2 v5.Curve_.Pts 0).bind fun v6=>cond (!(v6.X==v2.X&& (v6.Y==v2.Y&&true))) (some (.out (.inr 3))) (some (.go (J6 (x2+1)))))) (some (.out (.inl ())))
def U3 [Lp](p1:RoadsCheck)(x1:Int):Option (Stp Int (Sum Unit Int)):=
  cond (decide (x1< (p1.Map_.Lanes.length:Int))) ((F2 p1.Map_.Lanes x1).bind fun v1=>(F2 v1.Curve_.Pts (J6 ((v1.Curve_.Pts.length:Int) - 1))).bind fun v2=>thenS (loop (Et p1 v1 v2) 0) (fun _=>some (.go (J6 (x1+1)))) (fun r=>some (.out (.inr r)))) (some (.out (.inl ())))
def Y1 [Lp](p1:RoadsCheck):Option Int:=
  thenS (loop (U3 p1) 0) (fun _=>some 0) (fun r=>some r)
theorem Ra(p1 r)(h:Y1 p1=some r):PCall prog 150 [(.agg (Y6 p1.Map_))] (i64 r):=by
 refine C7 (fk func150 ntmps150 m0 (by with_unfolding_all rfl)) (nl W) ?_
 unfold Y1 at h
 refine B6 (s0:=⟨T [(0,(.d _))],G []⟩) (G0 W W) ?_
 refine lr<|fun u1 _=>sm W<|sv W<|A1<|A6<|B3<|sq W<|sp W W<|sl W A2 W<|sd W (E3 W)<|sv W<|A1<|js h fun z1 hz1 h=>D3 (fun s=> ∃(y1:Unit) (g1:Unit),z1= .inl y1∧Sb ⟨T [],G []⟩ s) ?_ ?_
 refine A7<|D7 (U3 p1) (fun (x1:Int) (g2:Unit)=>⟨T [(1,(.ptr (1,u1) 0)),(10,(dl Mb p1.Map_.Lanes)),(11,(di (p1.Map_.Lanes.length:Int))),(12,(di x1))],G [((1,u1),some<|.box 212 (Q9 p1.Map_))]⟩) 0 () _ hz1 (G0 W W) ?_
 intro x1 g2 z2 hz2 ez2
 unfold U3 at hz2
 refine B3<|sv W<|A1<|A6<|cc W hz2 (fun c1 hz2=> ?_)<|fun c1 hz2=> ?_
 refine B0<|A6<|A7<|lr<|fun u4 _=>bs hz2 fun v1 hv1 hz2=>sd W (E7 W W hv1 W)<|sd W (E6 W hv1 W W)<|sm W<|T6 W A2 (MU v1) W (A1<|lr<|fun u5 _=>sq W<|sq W<|sl W A2 W<|sq W<|sp W W<|sl W A2 W<|sd W (E3 W)<|sv W<|bs hz2 fun v2 hv2 hz2=>sd W (E7 W W hv2 W)<|sd W (E6 W hv2 W W)<|sm W<|T6 W A2 [(di v2.X),(di v2.Y)] W (A1<|B3<|sq W<|sl W (gq W) W (sd W (E3 W)<|sv W<|A1<|js hz2 fun z3 hz3 hz2=>D3 (fun s=> ∃(y2:Unit) (g3:Unit),z3= .inl y2∧Sb ⟨T [(1,(.ptr (1,u1) 0)),(10,(dl Mb p1.Map_.Lanes)),(11,(di (p1.Map_.Lanes.length:Int))),(12,(di x1))],G [((1,u1),some<|.box 212 (Q9 p1.Map_))]⟩ s) ?_ ?_)))
 refine A7<|D7 (Et p1 v1 v2) (fun (x2:Int) (g4:Unit)=>⟨T [(1,(.ptr (1,u1) 0)),(4,(.ptr (4,u4) 0)),(5,(.ptr (5,u5) 0)),(10,(dl Mb p1.Map_.Lanes)),(11,(di (p1.Map_.Lanes.length:Int))),(12,(di x1)),(27,(dl A4 v1.Next)),(28,(di (v1.Next.length:Int))),(29,(di x2))],G [((1,u1),some<|.box 212 (Q9 p1.Map_)),((4,u4),some<|.box 63 (MU v1)),((5,u5),some<|.box 104 [(di v2.X),(di v2.Y)])]⟩) 0 () _ hz3 (G0 W W) ?_
 intro x2 g4 z4 hz4 ez4
 unfold Et at hz4
 refine B3<|sv W<|A1<|A6<|cc W hz4 (fun c2 hz4=> ?_)<|fun c2 hz4=> ?_
 refine B0<|A6<|A7<|B3<|bs hz4 fun _ hv3 hz4=>sd W (E7 W W hv3 W)<|sd W (H8 W hv3 W)<|sv W<|A1<|A6<|A6<|K6 W<|sq W<|sq W<|sl W A2 W<|sv W<|bs hz4 fun _ hv4 hz4=>sd W (E7 W W hv4 W)<|sv W<|sd W (H8 W hv4 W)<|sq W<|sl W (gq W) W (sv W<|A1<|cc W hz4 (fun c3 hz4=> ?_)<|fun c3 hz4=> ?_)
 refine B3<|sv W<|A1<|B7 ?_
 cases hz4
 obtain rfl:=ez4 _ rfl
 refine ⟨nofun,G4 ?_⟩
 rw [bI]at hz2
 cases hz2
 obtain rfl:=ez2 _ rfl
 refine ⟨nofun,G4 ?_⟩
 rw [bI]at h
 cases h
 exact A9 (.inr W) (C0 (B8 W) C6) (.refl _)
 refine B0<|A6<|K6 W<|sq W<|sq W<|sl W A2 W<|sv W<|bs hz4 fun _ hv5 hz4=>sd W (E7 W W hv5 W)<|sv W<|sv W<|sd W (H8 W hv5 W)<|bs hz4 fun v6 hv6 hz4=>sd W (E7 W W hv6 W)<|sd W (E6 W hv6 W W)<|sd W (C1 W (gq W) W W)<|C2 (.d (bo (!(v6.X==v2.X&& (v6.Y==v2.Y&&true))))) W W (A1<|cc W hz4 (fun c4 hz4=> ?_)<|fun c4 hz4=> ?_)
 refine B3<|sv W<|A1<|B7 ?_
 cases hz4
 obtain rfl:=ez4 _ rfl
 refine ⟨nofun,G4 ?_⟩
 rw [bI]at hz2
 cases hz2
 obtain rfl:=ez2 _ rfl
 refine ⟨nofun,G4 ?_⟩
 rw [bI]at h
 cases h
 exact A9 (.inr W) (C0 (B8 W) C6) (.refl _)
 refine B0<|E5<|C3<|sv W<|sv W<|A1<|E0 ?_
 cases hz4
 exact ⟨W,(),(G0 W W)⟩
 refine D1 W ?_
 cases hz4
 obtain rfl:=ez4 _ rfl
 refine ⟨nofun,C5 W<|U6 ?_⟩
 exact ⟨_,(),W,(G0 W W)⟩
 rintro _ ⟨y2,g3,rfl,q1⟩
 rw [bH]at hz2
 refine E5<|B6 q1<|C3<|sv W<|sv W<|A1<|E0 ?_
 cases hz2
 exact ⟨W,(),(G0 W W)⟩
 refine D1 W ?_
 cases hz2
 obtain rfl:=ez2 _ rfl
 refine ⟨nofun,C5 W<|U6 ?_⟩
 exact ⟨_,(),W,(G0 W W)⟩
 rintro _ ⟨y1,g1,rfl,q2⟩
 rw [bH]at h
 refine B6 q2<|B3<|sv W<|A1<|B7 ?_
 cases h
 exact A9 (.inr W) (C0 (B8 W) C6) (.refl _)
def Eu (p1:Phase):Option Bool:=
  (Bv p1.Ticks 1 10000).bind fun v1=>some (!v1)
theorem Oz(p1 r)(h:Eu p1=some r):PCall prog 212 [(.agg [(i64 p1.Ticks),(.list (List.map A4 p1.Green))])] (bo r):=by
 refine C7 (fk func212 ntmps212 m0 (by with_unfolding_all rfl)) (nl W) ?_
 unfold Eu at h
 refine B6 (s0:=⟨T [(0,(.d _))],G []⟩) (G0 W W) ?_
 refine B3<|sm W<|sv W<|A1<|B3<|sq W<|sl W A2 W<|bs h fun v1 hv1 h=>B9 W W A3 (Bg _ _ _ _ hv1) (.inl W) (C2 (.d (bo (!v1))) W W (sv W<|A1<|B7 ?_))
 cases h
 exact A9 (.inr W) (C0 (B8 W) C6) (.refl _)
def N0 (p1:(List Phase))(x1:Int):Option (Stp Int (Sum Unit Int)):=
  cond (decide (x1< (p1.length:Int))) ((F2 p1 x1).bind fun v1=>(Eu v1).bind fun v2=>cond v2 (some (.out (.inr x1))) (some (.go (J6 (x1+1))))) (some (.out (.inl ())))
def G3 [Lp](p1:(List Phase)):Option Int:=
  thenS (loop (N0 p1) 0) (fun _=>some (-1)) (fun r=>some r)
theorem Aa(p1 r)(h:G3 p1=some r):PCall prog 243 [(.list (List.map Hq p1)),(.fn (.func 212) [] [])] (i64 r):=by
 refine C7 (fk func243 ntmps243 m0 (by with_unfolding_all rfl)) (nl W) ?_
 unfold G3 at h
 refine B6 (s0:=⟨T [(0,(.d _)),(1,(.d _))],G []⟩) (G0 W W) ?_
 refine B3<|sv W<|A1<|A6<|B3<|sv W<|sd W (E3 W)<|sv W<|A1<|js h fun z1 hz1 h=>D3 (fun s=> ∃(y1:Unit) (g1:Unit),z1= .inl y1∧Sb ⟨T [],G []⟩ s) ?_ ?_
 refine A7<|D7 (N0 p1) (fun (x1:Int) (g2:Unit)=>⟨T [(0,(dl Hq p1)),(1,(.d (.fn (.func 212) [] []))),(7,(di (p1.length:Int))),(8,(di x1))],G []⟩) 0 () _ hz1 (G0 W W) ?_
 intro x1 g2 z2 hz2 ez2
 unfold N0 at hz2
 refine B3<|sv W<|A1<|A6<|cc W hz2 (fun c1 hz2=> ?_)<|fun c1 hz2=> ?_
 refine B0<|A6<|A7<|B3<|sv W<|sv W<|A1<|B3<|sv W<|sv W<|sv W<|bs hz2 fun _ hv1 hz2=>sd W (E7 W W hv1 W)<|sd W (E6 W hv1 W W)<|bs hz2 fun _ hv2 hz2=>B9 W W A3 (Oz _ _ hv2) (.inl W) (A1<|cc W hz2 (fun c2 hz2=> ?_)<|fun c2 hz2=> ?_)
 refine B3<|sv W<|sv W<|A1<|B7 ?_
 cases hz2
 obtain rfl:=ez2 _ rfl
 refine ⟨nofun,G4 ?_⟩
 rw [bI]at h
 cases h
 exact A9 (.inr W) (C0 (B8 W) C6) (.refl _)
 refine B0<|E5<|C3<|sv W<|sv W<|A1<|E0 ?_
 cases hz2
 exact ⟨W,(),(G0 W W)⟩
 refine D1 W ?_
 cases hz2
 obtain rfl:=ez2 _ rfl
 refine ⟨nofun,C5 W<|U6 ?_⟩
 exact ⟨_,(),W,(G0 W W)⟩
 rintro _ ⟨y1,g1,rfl,q1⟩
 rw [bH]at h
 refine B6 q1<|B3<|sv W<|A1<|B7 ?_
 cases h
 exact A9 (.inr W) (C0 (B8 W) C6) (.refl _)
def F3 [Lp](p1:(List Phase)):Option Bool:=
  (G3 p1).bind fun v1=>some (decide (v1≥0))
theorem Z0(p1 r)(h:F3 p1=some r):PCall prog 211 [(.list (List.map Hq p1)),(.fn (.func 212) [] [])] (bo r):=by
 refine C7 (fk func211 ntmps211 m0 (by with_unfolding_all rfl)) (nl W) ?_
 unfold F3 at h
 refine B6 (s0:=⟨T [(0,(.d _)),(1,(.d _))],G []⟩) (G0 W W) ?_
 refine B3<|sv W<|A1<|B3<|sv W<|sv W<|bs h fun _ hv1 h=>B9 W W A3 (Aa _ _ hv1) (.inl W) (sv W<|sv W<|A1<|B7 ?_)
 cases h
 exact A9 (.inr W) (C0 (B8 W) C6) (.refl _)
def R4 [Lp](p1:Phase)(p2:RoadsCheck):Option Bool:=
  (Bw p1.Green 0 (p2.Map_.Lanes.length:Int)).bind fun v1=>some (!v1)
theorem Ng(p1 p2 r)(h:R4 p1 p2=some r):PCall prog 213 [(.agg [(i64 p1.Ticks),(.list (List.map A4 p1.Green))]),(.bp (Y6 p2.Map_) 0)] (bo r):=by
 refine C7 (fk func213 ntmps213 m0 (by with_unfolding_all rfl)) (nl W) ?_
 unfold R4 at h
 refine B6 (s0:=⟨T [(0,(.d _)),(1,(.d _))],G []⟩) (G0 W W) ?_
 refine B3<|sm W<|sv W<|A1<|B3<|sq W<|sl W A2 W<|sv W<|sv W<|sv W<|sd W (E3 W)<|bs h fun v1 hv1 h=>B9 W W A3 (Lb _ _ _ _ hv1) (.inl W) (C2 (.d (bo (!v1))) W W (sv W<|A1<|B7 ?_))
 cases h
 exact A9 (.inr W) (C0 (B8 W) C6) (.refl _)
def F0 [Lp](p1:(List Phase))(p2:RoadsCheck)(x1:Int):Option (Stp Int (Sum Unit Int)):=
  cond (decide (x1< (p1.length:Int))) ((F2 p1 x1).bind fun v1=>(R4 v1 p2).bind fun v2=>cond v2 (some (.out (.inr x1))) (some (.go (J6 (x1+1))))) (some (.out (.inl ())))
def F9 [Lp](p1:(List Phase))(p2:RoadsCheck):Option Int:=
  thenS (loop (F0 p1 p2) 0) (fun _=>some (-1)) (fun r=>some r)
theorem Z7(p1 p2 r)(h:F9 p1 p2=some r):PCall prog 243 [(.list (List.map Hq p1)),(.fn (.func 213) [] [(.bp (Y6 p2.Map_) 0)])] (i64 r):=by
 refine C7 (fk func243 ntmps243 m0 (by with_unfolding_all rfl)) (nl W) ?_
 unfold F9 at h
 refine B6 (s0:=⟨T [(0,(.d _)),(1,(.d _))],G []⟩) (G0 W W) ?_
 refine B3<|sv W<|A1<|A6<|B3<|sv W<|sd W (E3 W)<|sv W<|A1<|js h fun z1 hz1 h=>D3 (fun s=> ∃(y1:Unit) (g1:Unit),z1= .inl y1∧Sb ⟨T [],G []⟩ s) ?_ ?_
 refine A7<|D7 (F0 p1 p2) (fun (x1:Int) (g2:Unit)=>⟨T [(0,(dl Hq p1)),(1,(.d (.fn (.func 213) [] [(.bp (Y6 p2.Map_) 0)]))),(7,(di (p1.length:Int))),(8,(di x1))],G []⟩) 0 () _ hz1 (G0 W W) ?_
 intro x1 g2 z2 hz2 ez2
 unfold F0 at hz2
 refine B3<|sv W<|A1<|A6<|cc W hz2 (fun c1 hz2=> ?_)<|fun c1 hz2=> ?_
 refine B0<|A6<|A7<|B3<|sv W<|sv W<|A1<|B3<|sv W<|sv W<|sv W<|bs hz2 fun _ hv1 hz2=>sd W (E7 W W hv1 W)<|sd W (E6 W hv1 W W)<|bs hz2 fun _ hv2 hz2=>B9 W W A3 (Ng _ _ _ hv2) (.inl W) (A1<|cc W hz2 (fun c2 hz2=> ?_)<|fun c2 hz2=> ?_)
 refine B3<|sv W<|sv W<|A1<|B7 ?_
 cases hz2
 obtain rfl:=ez2 _ rfl
 refine ⟨nofun,G4 ?_⟩
 rw [bI]at h
 cases h
 exact A9 (.inr W) (C0 (B8 W) C6) (.refl _)
 refine B0<|E5<|C3<|sv W<|sv W<|A1<|E0 ?_
 cases hz2
 exact ⟨W,(),(G0 W W)⟩
 refine D1 W ?_
 cases hz2
 obtain rfl:=ez2 _ rfl
 refine ⟨nofun,C5 W<|U6 ?_⟩
 exact ⟨_,(),W,(G0 W W)⟩
 rintro _ ⟨y1,g1,rfl,q1⟩
 rw [bH]at h
 refine B6 q1<|B3<|sv W<|A1<|B7 ?_
 cases h
 exact A9 (.inr W) (C0 (B8 W) C6) (.refl _)
def F1 [Lp](p1:(List Phase))(p2:RoadsCheck):Option Bool:=
  (F9 p1 p2).bind fun v1=>some (decide (v1≥0))
theorem Y7(p1 p2 r)(h:F1 p1 p2=some r):PCall prog 211 [(.list (List.map Hq p1)),(.fn (.func 213) [] [(.bp (Y6 p2.Map_) 0)])] (bo r):=by
 refine C7 (fk func211 ntmps211 m0 (by with_unfolding_all rfl)) (nl W) ?_
 unfold F1 at h
 refine B6 (s0:=⟨T [(0,(.d _)),(1,(.d _))],G []⟩) (G0 W W) ?_
 refine B3<|sv W<|A1<|B3<|sv W<|sv W<|bs h fun _ hv1 h=>B9 W W A3 (Z7 _ _ _ hv1) (.inl W) (sv W<|sv W<|A1<|B7 ?_)
 cases h
 exact A9 (.inr W) (C0 (B8 W) C6) (.refl _)
def S9 [Lp](p1:RoadsCheck)(x1:Int):Option (Stp Int (Sum Unit Int)):=
  cond (decide (x1< (p1.Map_.Signals.length:Int))) ((F2 p1.Map_.Signals x1).bind fun v1=>cond ((v1.Phases.length:Int)==0) (some (.out (.inr 6))) (cond (decide ((v1.Phases.length:Int)>6)) (some (.out (.inr 8))) ((Bv v1.Offset 0 1099511627776).bind fun v2=>cond (!v2) (some (.out (.inr 2))) ((F3 v1.Phases).bind fun v3=>cond v3 (some (.out (.inr 2))) ((F1 v1.Phases p1).bind fun v4=>cond v4 (some (.out (.inr 11))) (some (.go (J6 (x1+1))))))))) (some (.out (.inl ())))
def X1 [Lp](p1:RoadsCheck):Option Int:=
  thenS (loop (S9 p1) 0) (fun _=>some 0) (fun r=>some r)
theorem Qo(p1 r)(h:X1 p1=some r):PCall prog 151 [(.agg (Y6 p1.Map_))] (i64 r):=by
 refine C7 (fk func151 ntmps151 m0 (by with_unfolding_all rfl)) (nl W) ?_
 unfold X1 at h
 refine B6 (s0:=⟨T [(0,(.d _))],G []⟩) (G0 W W) ?_
 refine lr<|fun u1 _=>sm W<|sv W<|A1<|A6<|B3<|sq W<|sp W W<|sl W A2 W<|sd W (E3 W)<|sv W<|A1<|js h fun z1 hz1 h=>D3 (fun s=> ∃(y1:Unit) (g1:Unit),z1= .inl y1∧Sb ⟨T [],G []⟩ s) ?_ ?_
 refine A7<|D7 (S9 p1) (fun (x1:Int) (g2:Unit)=>⟨T [(1,(.ptr (1,u1) 0)),(8,(dl Oj p1.Map_.Signals)),(9,(di (p1.Map_.Signals.length:Int))),(10,(di x1))],G [((1,u1),some<|.box 212 (Q9 p1.Map_))]⟩) 0 () _ hz1 (G0 W W) ?_
 intro x1 g2 z2 hz2 ez2
 unfold S9 at hz2
 refine B3<|sv W<|A1<|A6<|cc W hz2 (fun c1 hz2=> ?_)<|fun c1 hz2=> ?_
 refine B0<|A6<|A7<|B3<|bs hz2 fun v1 hv1 hz2=>sd W (E7 W W hv1 W)<|sd W (E6 W hv1 W W)<|sm W<|T6 W A2 [(di v1.Offset),(dl Hq v1.Phases)] W (A1<|B3<|sq W<|sl W A2 W<|sd W (E3 W)<|sv W<|A1<|A7<|B3<|sv W<|sv W<|sv W<|A1<|cc W hz2 (fun c2 hz2=> ?_)<|fun c2 hz2=> ?_)
 refine B3<|sv W<|A1<|B7 ?_
 cases hz2
 obtain rfl:=ez2 _ rfl
 refine ⟨nofun,G4 ?_⟩
 rw [bI]at h
 cases h
 exact A9 (.inr W) (C0 (B8 W) C6) (.refl _)
 refine B3<|sv W<|sv W<|sv W<|A1<|cc W hz2 (fun c3 hz2=> ?_)<|fun c3 hz2=> ?_
 refine B3<|sv W<|A1<|B7 ?_
 cases hz2
 obtain rfl:=ez2 _ rfl
 refine ⟨nofun,G4 ?_⟩
 rw [bI]at h
 cases h
 exact A9 (.inr W) (C0 (B8 W) C6) (.refl _)
 refine B3<|sq W<|sl W A2 W<|bs hz2 fun v2 hv2 hz2=>B9 W W A3 (Bg _ _ _ _ hv2) (.inl W) (C2 (.d (bo (!v2))) W W (sv W<|A1<|cc W hz2 (fun c4 hz2=> ?_)<|fun c4 hz2=> ?_))
 refine B3<|sv W<|A1<|B7 ?_
 cases hz2
 obtain rfl:=ez2 _ rfl
 refine ⟨nofun,G4 ?_⟩
 rw [bI]at h
 cases h
 exact A9 (.inr W) (C0 (B8 W) C6) (.refl _)
 refine B3<|sq W<|sl W A2 W<|bs hz2 fun _ hv3 hz2=>B9 W W A3 (Z0 _ _ hv3) (.inl W) (sv W<|A1<|cc W hz2 (fun c5 hz2=> ?_)<|fun c5 hz2=> ?_)
 refine B3<|sv W<|A1<|B7 ?_
 cases hz2
 obtain rfl:=ez2 _ rfl
 refine ⟨nofun,G4 ?_⟩
 rw [bI]at h
 cases h
 exact A9 (.inr W) (C0 (B8 W) C6) (.refl _)
 refine B3<|sq W<|sl W A2 W<|C2 (.fn _ _ _) W W (bs hz2 fun _ hv4 hz2=>B9 W (rD<|D4 (Tz E4<|D4 (Y0 (gq W)<|rD<|rD<|rD<|rD<|rD E4) E4) E4) A3 (Y7 _ _ _ hv4) (.inr W) (sv W<|A1<|cc W hz2 (fun c6 hz2=> ?_)<|fun c6 hz2=> ?_))
 refine B3<|sv W<|A1<|B7 ?_
 cases hz2
 obtain rfl:=ez2 _ rfl
 refine ⟨nofun,G4 ?_⟩
 rw [bI]at h
 cases h
 exact A9 (.inr W) (C0 (B8 W) C6) (.refl _)
 refine B0<|E5<|E5<|C3<|sv W<|sv W<|A1<|E0 ?_
 cases hz2
 exact ⟨W,(),(G0 W W)⟩
 refine D1 W ?_
 cases hz2
 obtain rfl:=ez2 _ rfl
 refine ⟨nofun,C5 W<|U6 ?_⟩
 exact ⟨_,(),W,(G0 W W)⟩
 rintro _ ⟨y1,g1,rfl,q1⟩
 rw [bH]at h
 refine B6 q1<|B3<|sv W<|A1<|B7 ?_
 cases h
 exact A9 (.inr W) (C0 (B8 W) C6) (.refl _)
/-- kerbstone/curve.pieces$1 -/
def Ol:AC:=(.seq (.reg [oo 3 (.mv (ci 0))]) (.seq (.reg [oo 8 (.fieldA 0 (.t 1)),oo 9 (.load 1 false (.t 8)),oo 10 (.len (.t 9)),oo 11 (.bin .sub (.t 10) (ci 1)),oo 12 (.mv (ci 0))]) (.block 0 (.loop (.seq (.reg [oo 13 (.bin .lss (.t 12) (.t 11))]) (.seq (.cond (.t 13) .skip (.exit 0)) (.seq (.block 1 (.seq (.reg [oo 14 (.mv (.t 12)),oo 4 (.mv (.t 14))]) (.seq (.draw [oo 15 (.fieldA 0 (.t 1)),oo 16 (.load 1 false (.t 15)),oo 17 (.mv (.t 4)),oo 18 (.idxS 2 (.t 16) (.t 17)),oo 19 (.load 2 true (.t 18)),oo 20 (.fieldA 0 (.t 1)),oo 21 (.load 1 false (.t 20)),oo 22 (.mv (.t 4)),oo 23 (.bin .add (.t 22) (ci 1)),oo 24 (.idxS 2 (.t 21) (.t 23)),oo 25 (.load 2 true (.t 24)),oo 26 (.call (cf 238) [(.t 19),(.t 25)]),oo 5 (.alloc 253 [z0,z0]),oe (.store 2 (.t 5) (.t 26))] []) (.seq (.reg [oo 28 (.load 2 true (.t 5)),oo 29 (.load 2 true (.t 5)),oo 30 (.call (cf 240) [(.t 28),(.t 29)]),oo 31 (.call (cf 239) [(.t 30)]),oo 27 (.mv (.t 31)),oo 32 (.ext (.t 27) 0),oo 33 (.ext (.t 27) 1),oo 6 (.mv (.t 32)),oo 7 (.mv (.t 33))]) (.seq (.seq (.drawB [oo 34 (.mv (.t 0)),oo 35 (.mv (.t 4)),oo 36 (.fieldA 0 (.t 1)),oo 37 (.load 1 false (.t 36)),oo 38 (.mv (.t 4)),oo 39 (.idxS 2 (.t 37) (.t 38)),oo 40 (.load 2 true (.t 39)),oo 41 (.load 2 true (.t 5)),oo 42 (.mv (.t 6)),oo 43 (.mv (.t 3)),oo 44 (.build [z0,z0,z0,z0,z0,z0] [(0,2,(.t 40)),(2,2,(.t 41)),(4,1,(.t 42)),(5,1,(.t 43))]),oo 45 (.icall (.t 34) [(.t 35),(.t 44)]),oo 46 (.un .not (.t 45))] 11 []) (.cond (.t 46) .ret .skip)) (.reg [oo 47 (.mv (.t 3)),oo 48 (.mv (.t 6)),oo 49 (.bin .add (.t 47) (.t 48)),oo 3 (.mv (.t 49))])))))) (.reg [oo 50 (.bin .add (.t 12) (ci 1)),oo 12 (.mv (.t 50))]))))))))
theorem Wb:FnOK prog 260 51 [] Ol:=⟨_,_,func260,rfl,ntmps260,by kernel_rfl,⟨fun r=>if r==6 then [11]else [],by kernel_rfl⟩,by kernel_rfl⟩
/-- The pieces of a chain of points, from a number on. -/
def Hb [Lp](pts:List Spot):Nat→Nat→Int→Option (List (Int×CurvePiece))
  |0,_,_=>some []
  |n+1,i,start=>(pts[i]?).bind fun p=>(pts[i+1]?).bind fun q=>(Qn p q).bind fun v=>(Cw v v).bind fun d=>(Ds d).bind fun r=>
   (Hb pts n (i+1) (J6 (start+r.1))).bind fun l=>some (((i:Int),CurvePiece.mk p v r.1 start)::l)
def Tn [Lp](pts:List Spot):Option (List (Int×CurvePiece)):=if pts.length≤1000000 then Hb pts (pts.length - 1) 0 0 else none
/-- kerbstone/curve.pieces -/
def Qy:AC:=(.seq (.reg [oo 1 (.box 61 true (.t 0)),oo 2 (.mv (.c (.v .nilFunc)))]) (.seq (.reg [oo 3 (.mkfn (.func 260) [] [(.t 1)]),oo 2 (.mv (.t 3))]) .ret))
theorem Ym:FnOK prog 241 4 [.t 2] Qy:=⟨_,_,func241,rfl,ntmps241,by kernel_rfl,⟨fun _=> [],by kernel_rfl⟩,by kernel_rfl⟩
abbrev FI (a:Int×CurvePiece):List D:= [i64 a.1, .agg [i64 a.2.p.X,i64 a.2.p.Y,i64 a.2.v.x,i64 a.2.v.y,i64 a.2.l,i64 a.2.start]]
theorem ID (c:Curve):PCall prog 241 [.agg [.list (List.map Ee c.Pts)]] (.fn (.func 260) [] [.bp [.list (List.map Ee c.Pts)] 0]):=by
  refine RM Ym (by simp) ?_
  unfold Qy
  refine Jl<|My fun _ _=> ?_
  refine KI (.ptr _ _) _ W W ?_
  refine E2 (.d _) W W ?_
  refine X9 ?_
  refine Jl<|My fun u' hu'=> ?_
  refine E2 (.fn _ _ _) W W ?_
  refine E2 (.fn _ _ _) W W ?_
  refine X9 ?_
  refine KE ⟨.inr W,?_⟩
  refine C0 (B8 (v:= .fn _ _ _) W) ?_
  exact Tz E4<|D4 (Y0 (by simp only [V1,if_true];rfl)<|D4 C6 E4) E4
theorem SY (ps:List Spot)(n:Int)(i:Nat)(p:Spot)(hn:n=i)(h:ps[i]? =some p):(List.map Ee ps)[n.toNat]? =some (Ee p):=by
  subst hn
  rw [bJ,lI,h];rfl
theorem KZ {n:Int}(h: -9223372036854775808≤n∧n≤9223372036854775807):J6 n=n:=Go.IntWalk.i64_in n h
theorem Yn (pts:List Spot): ∀n i s L,Hb pts n i s=some L→L.length=n:=by
  intro n
  induction n with
  |zero=>intro i s L h;cases h;rfl
  |succ n ih=>
   intro i s L h
   rw [Hb]at h
   obtain ⟨p,hp,h⟩:=bind_some h
   obtain ⟨q,hq,h⟩:=bind_some h
   obtain ⟨v,hv,h⟩:=bind_some h
   obtain ⟨d,hd,h⟩:=bind_some h
   obtain ⟨r,hr,h⟩:=bind_some h
   obtain ⟨l,hl,h⟩:=bind_some h
   cases h
   rw [lJ,ih _ _ _ hl]
theorem IE {pts:List Spot}{L:List (Int×CurvePiece)}(h:Tn pts=some L):SA prog (.fn (.func 260) [] [.bp [.list (List.map Ee pts)] 0]) (L.map FI):=by
  unfold Tn at h
  split at h
  case isFalse=>cases h
  rename_i hlen
  refine ⟨260,[],_,W,?_⟩
  intro k h0 Inv Stop hi0 hy
  refine AD Wb (by simp) ?_
  unfold Ol
  refine Jl<|My fun u hu=> ?_
  refine E2 (.d _) W W ?_
  refine X9 ?_
  refine Jl<|My fun u hu=> ?_
  refine E2 (.d _) W W ?_
  refine E2 (.d _) W W ?_
  refine E2 (.d (i64 pts.length)) W (E3 (f:=Ee) W) ?_
  refine E2 (.d _) W W ?_
  refine E2 (.d _) W W ?_
  refine X9 ?_
  refine Zz ?_
  refine HG (α:=Nat×Int×D2) (fun x=>⟨T [(0, .yld k),(1, .d (.bp [.list (List.map Ee pts)] 0)),(3, .d (i64 x.2.1)),(11, .d (i64<|J6 (pts.length - 1))),(12, .d (i64 x.1))],x.2.2⟩) (fun x=>pts.length - x.1)
    (fun x=>Inv x.1 x.2.2∧x.1≤pts.length - 1∧Hb pts (pts.length - 1 - x.1) x.1 x.2.1=some (L.drop x.1)) (0,0,h0) ⟨hi0,by omega,h⟩ (Ry ⟨rfl,rfl,rfl,rfl,rfl,trivial⟩ fun _ _ h=>h) ?_
  rintro ⟨i,start,hh⟩ ⟨hinv,hi,hgo⟩
  dsimp only at hinv hi hgo ⊢
  refine Jl<|My fun u hu=> ?_
  refine E2 (.d _) W W ?_
  refine X9 ?_
  refine Jl ?_
  refine RP W (fun hlt=> ?_)<|fun hlt=> ?_
  ·refine ES ?_
   have hlen1:J6 ((pts.length:Int) - 1)=pts.length - 1:=KZ (by omega)
   rw [hlen1]at hlt
   have hi1:i+1<pts.length:=by omega
   have hw1:IntKind.i64.wrap ((i:Int)+1)=(i:Int)+1:=KZ (by omega)
   obtain ⟨m,hm⟩: ∃m,pts.length - 1 - i=m+1:=⟨pts.length - 1 - i - 1,by omega⟩
   rw [hm,Hb]at hgo
   obtain ⟨p,hp,hgo⟩:=bind_some hgo
   obtain ⟨q,hq,hgo⟩:=bind_some hgo
   obtain ⟨v,hv,hgo⟩:=bind_some hgo
   obtain ⟨d,hd,hgo⟩:=bind_some hgo
   obtain ⟨r,hr,hgo⟩:=bind_some hgo
   obtain ⟨l,hl,hgo⟩:=bind_some hgo
   have hgo:((i:Int),CurvePiece.mk p v r.1 start)::l=L.drop i:=lC hgo
   have hLi:L[i]? =some ((i:Int),CurvePiece.mk p v r.1 start):=by
     have:=congrArg (fun z=>z[0]?) hgo
     simpa using this.symm
   have hLd:L.drop (i+1)=l:=by
     have:=congrArg (fun z=>z.drop 1) hgo
     simpa using this.symm
   have hin: ∀(p:Spot) (n:Int) (j:Nat),n=j→pts[j]? =some p→(List.map Ee pts)[n.toNat]? =some (Ee p):=fun p n j=>SY pts n j p
   refine Jl ?_
   refine Zz ?_
   refine Jl<|My fun u hu=> ?_
   refine E2 (.d _) W W ?_
   refine E2 (.d _) W W ?_
   refine X9 ?_
   refine Jl<|MA W fun u hu=> ?_
   refine E2 (.d _) W W ?_
   refine E2 (.d _) W W ?_
   refine E2 (.d _) W W ?_
   refine KJ _ _ _ _ W W (Int.natCast_nonneg i) (hin p _ i W hp) W ?_
   refine Wv _ _ _ _ _ W (hin p _ i W hp) (by simp) W ?_
   refine E2 (.d _) W W ?_
   refine E2 (.d _) W W ?_
   refine E2 (.d _) W W ?_
   refine E2 (.d _) W W ?_
   refine KJ _ _ _ _ W W (by rw [hw1];omega) (hin q _ (i+1) (by rw [hw1];rfl) hq) W ?_
   refine Wv _ _ _ _ _ W (hin q _ (i+1) (by rw [hw1];rfl) hq) (by simp) W ?_
   refine Th W W (Ud p q _ hv) (.inl W) ?_
   refine KI (.ptr _ _) _ W W ?_
   refine HJ _ _ _ _ _ W W W (by simp only [V1,if_true];rfl) (by simp) ?_
   refine X9 ?_
   refine Jl<|My fun u' hu'=> ?_
   refine AF _ _ _ _ (.d (.agg [i64 v.x,i64 v.y])) W (by simp only [V1,if_true];rfl) (by simp [Gn]) W ?_
   refine AF _ _ _ _ (.d (.agg [i64 v.x,i64 v.y])) W (by simp only [V1,if_true];rfl) (by simp [Gn]) W ?_
   refine Th W W (Gq v v _ hd) (.inl W) ?_
   refine Th W W (Ue d _ hr) (.inl W) ?_
   refine E2 (.d _) W W ?_
   refine E2 (.d _) W W ?_
   refine E2 (.d _) W W ?_
   refine E2 (.d _) W W ?_
   refine E2 (.d _) W W ?_
   refine X9 ?_
   refine Jl<|Jl ?_
   refine HE W fun _ _=> ?_
   simp only [List.take,List.drop]
   refine E2 (.yld _) W W ?_
   refine E2 (.d _) W W ?_
   refine E2 (.d _) W W ?_
   refine E2 (.d _) W W ?_
   refine E2 (.d _) W W ?_
   refine KJ _ _ _ _ W W (Int.natCast_nonneg i) (hin p _ i W hp) W ?_
   refine Wv _ _ _ _ _ W (hin p _ i W hp) (by simp) W ?_
   refine AF _ _ _ _ (.d (.agg [i64 v.x,i64 v.y])) W (by simp only [V1,if_true];rfl) (by simp [Gn]) W ?_
   refine E2 (.d _) W W ?_
   refine E2 (.d _) W W ?_
   refine E2 (.d _) W W ?_
   refine X9 ?_
   intro u3 hu3
   refine RU k ((FI ((i:Int),CurvePiece.mk p v r.1 start)).map .d) W W ?_
   refine YCall.weak (MB hu<|MB hu fun _ _ h=>h) ((hy i hh _ (by rw [lI,hLi];rfl) hinv).mono ?_)
   rintro v' h' (⟨rfl,hin⟩|⟨rfl,hst⟩)
   ·intro u4 hu4
    refine E2 (.d _) W W ?_
    refine X9 ?_
    refine Vr (t:=false) W (fun h=>by cases h) (fun _=> ?_)
    refine ES ?_
    refine My fun u hu=> ?_
    refine E2 (.d _) W W ?_
    refine E2 (.d _) W W ?_
    refine E2 (.d _) W W ?_
    refine E2 (.d _) W W ?_
    refine X9 ?_
    refine My fun u hu=> ?_
    refine E2 (.d _) W W ?_
    refine E2 (.d _) W W ?_
    refine X9 ?_
    refine ⟨(i+1,J6 (start+r.1),h'),⟨hin,by dsimp only;omega,?_⟩,by dsimp only;omega,Ry ⟨rfl,rfl,rfl,rfl,?_,trivial⟩ fun _ _ h=>h⟩
    ·dsimp only
     rw [hLd,show pts.length - 1 - (i+1)=m by omega];exact hl
    ·show AV.d (i64 (IntKind.i64.wrap ((i:Int)+1)))=_
     rw [hw1];rfl
   ·intro u4 hu4
    refine E2 (.d _) W W ?_
    refine X9 ?_
    refine Vr (t:=true) W (fun _=> ?_) (fun h=>by cases h)
    refine KE ?_
    dsimp only
    exact ⟨Or.inr trivial,AV.tup [],W,Or.inr hst⟩
  ·refine ET ?_
   have hlen1:1≤pts.length→J6 ((pts.length:Int) - 1)=pts.length - 1:=fun _=>KZ (by omega)
   have:i=pts.length - 1:=by
     by_cases h:1≤pts.length
     ·rw [hlen1 h]at hlt;omega
     ·omega
   subst this
   rw [Nat.sub_self,Hb]at hgo
   have hL:(L.map FI).length=pts.length - 1:=by
     have h1:L.drop (pts.length - 1)= []:=(lC hgo).symm
     have h2:=List.drop_eq_nil_iff.1 h1
     rw [lQ]
     refine Nat.le_antisymm h2 ?_
     exact Nat.le_of_eq (Yn _ _ _ _ _ h).symm
   exact ⟨.inl W,_,W, .inl (by rw [hL];exact hinv)⟩
def Lc (x1:(List Int))(a1:(Int×CurvePiece)):Option (Stp (List Int) (List Int)):=
  (Y4 x1 [a1.2.l]).bind fun v3=>some (.go v3)
def Fy [Lp](p1:Curve):Option (List Int):=
  (Ff p1).bind fun v1=>cond (v1 !=0) (some []) (((Tn p1.Pts).bind fun v2=>loopL (Lc) (fun (x1:(List Int))=>x1) v2 []).bind fun y1=>some y1)
theorem Yo(p1 r)(h:Fy p1=some r):PCall prog 261 [(.agg [(.list (List.map Ee p1.Pts))])] (.list (List.map A4 r)):=by
 refine C7 (fk func261 ntmps261 (fun r=>if r==6 then [1003]else []) (by with_unfolding_all rfl)) (nl W) ?_
 unfold Fy at h
 refine B6 (s0:=⟨T [(0,(.d _))],G []⟩) (G0 W W) ?_
 refine B3<|sm W<|sv W<|A1<|A6<|B3<|sd W (C1 W A2 W W)<|bs h fun _ hv1 h=>B9 W W A3 (Sm _ _ hv1) (.inl W) (sv W<|A1<|cc W h (fun c1 h=> ?_)<|fun c1 h=> ?_)
 refine B3<|sv W<|A1<|B7 ?_
 cases h
 exact A9 (.inr W) (C0 (B8 W) C6) DLe.nil
 refine B0<|lr<|fun u4 _=>sm W<|A1<|A6<|B3<|sd W (C1 W (gq W) W W)<|B9 W W A3 (ID p1) (.inl W) (A1<|bs h fun y1 hy1 h=>D3 (fun s=> ∃g1:Nat,Sb ⟨T [(3,(.ptr (3,u4) 0))],G [((3,u4),some<|.box 48 [(oS y1 (17,g1))]),((17,g1),oB 2 1 A4 y1)]⟩ s) ?_ ?_)
 refine A7<|bs hy1 fun v2 hv2 hy1=>B6 (s0:=⟨T [(3,(.ptr _ _)),(10,(.d _))],G [((3,u4),some<|.box 48 _)]⟩) (G0 W W) ?_
 refine SC (.fn (.func 260) [] [(.bp [(.list (List.map Ee p1.Pts))] 0)]) FI v2 (Lc) (fun (x1:(List Int))=>x1) (fun (x1:(List Int)) (g2:Nat)=> [((3,u4),some<|.box 48 [(oS x1 (17,g2))]),((17,g2),oB 2 1 A4 x1)]) [] 0 _ W (IE hv2) (fun _=>W) hy1 (D0 trivial<|A8 A2 (.of W)<|Y5 trivial) nofun ?_ ?_
 intro u7 hu7 hku7
 refine ⟨fun x1 g2=>(B5 W<|B5 W W),?_⟩
 intro r1 x1 g2 a1 z1 hrr1 hz1 ez1
 unfold Lc at hz1
 show Z9 _ _ _ _ _ _ ⟨T [(12,(.d (.agg (IB a1.2)))),(11,(di a1.1)),(3,(.ptr (3,u4) 0)),(10,(.d (.fn (.func 260) [] [(.bp [(.list (List.map Ee p1.Pts))] 0)])))],G [((1000000,u7),some (.obj (T [(3,(.ptr (3,u4) 0)),(10,(.d (.fn (.func 260) [] [(.bp [(.list (List.map Ee p1.Pts))] 0)])))]) r1)),((3,u4),some (.box 48 [(oS x1 (17,g2))])),((17,g2),oB 2 1 A4 x1)]⟩
 refine C3<|sm W<|T6 W A2 (IC a1.2) W (A1<|U6<|KQ (gq W) ?_)
 refine A7<|Ag fun u9 _=>C2 (oS x1 (17,g2)) W (O8 W (gq W) W) (sq W<|sl W (gq W) W (C2 (dl A4 [a1.2.l]) W W (bs hz1 fun _ hv3 hz1=>P1 A4 (17,g2) x1 a1.2.l [] _ (J9<|fun _=>W) W (gq W) hv3 (T6 W (gq W) [(.sl (17,u9))] W (A1<|E5<|E0 ?_)))))
 cases hz1
 exact SD (gq W) u9 (A8 A2 (.box (.cons (.of (Ap<|S7 hv3).symm) .nil))<|U5 (gq W) trivial)
 rintro x1 g2 _ rfl qx1
 refine E5<|U6 ?_
 exact ⟨g2,(Sb.after qx1<|D0 ⟨.of W,trivial⟩<|A8 A2 (.of W)<|B4 (gq W) trivial)⟩
 rintro _ ⟨g1,q1⟩
 refine B6 q1<|B3<|C2 (oS y1 (17,g1)) W (O8 W A2 W) (C2 (oS y1 (17,g1)) W W (A1<|B7 ?_))
 cases h
 exact A9 (.inr W) (C0 (B8 W)<|U8<|gq W) U7
def Ld (v1:(List Int))(x1:(Int×Int)):Option (Stp (Int×Int) Int):=
  cond (decide (x1.2< (v1.length:Int))) ((F2 v1 x1.2).bind fun v2=>some (.go ((J6 (x1.1+v2)),(J6 (x1.2+1))))) (some (.out x1.1))
def Fz [Lp](p1:Curve):Option Int:=
  (Fy p1).bind fun v1=>(loop (Ld v1) (0,0)).bind fun y1=>some y1
theorem Yp(p1 r)(h:Fz p1=some r):PCall prog 242 [(.agg [(.list (List.map Ee p1.Pts))])] (i64 r):=by
 refine C7 (fk func242 ntmps242 m0 (by with_unfolding_all rfl)) (nl W) ?_
 unfold Fz at h
 refine B6 (s0:=⟨T [(0,(.d _))],G []⟩) (G0 W W) ?_
 refine B3<|sm W<|sv W<|A1<|B3<|sv W<|A1<|A6<|B3<|sd W (C1 W A2 W W)<|bs h fun v1 hv1 h=>B9 W W A3 (Yo _ _ hv1) (.inl W) (sd W (E3 W)<|sv W<|A1<|bs h fun y1 hy1 h=>D3 (fun s=> ∃g1:Unit,Sb ⟨T [(3,(di y1))],G []⟩ s) ?_ ?_)
 refine A7<|D7 (Ld v1) (fun (x1:(Int×Int)) (g2:Unit)=>⟨T [(3,(di x1.1)),(7,(dl A4 v1)),(8,(di (v1.length:Int))),(9,(di x1.2))],G []⟩) (0,0) () _ hy1 (G0 W W) ?_
 intro x1 g2 z1 hz1 ez1
 unfold Ld at hz1
 refine B3<|sv W<|A1<|A6<|cc W hz1 (fun c1 hz1=> ?_)<|fun c1 hz1=> ?_
 refine B0<|A6<|A7<|B3<|bs hz1 fun _ hv2 hz1=>sd W (E7 W W hv2 W)<|sd W (H8 W hv2 W)<|sv W<|A1<|C3<|sv W<|sv W<|sv W<|sv W<|A1<|E5<|C3<|sv W<|sv W<|A1<|E0 ?_
 cases hz1
 exact ⟨W,(),(G0 W W)⟩
 refine D1 W ?_
 cases hz1
 obtain rfl:=ez1 _ rfl
 refine ⟨nofun,C5 W<|U6 ?_⟩
 exact ⟨(),(G0 W W)⟩
 rintro _ ⟨g1,q1⟩
 refine B6 q1<|B3<|sv W<|sv W<|A1<|B7 ?_
 cases h
 exact A9 (.inr W) (C0 (B8 W) C6) (.refl _)
def Dt [Lp](p1:Map)(p2:Int):Option Int:=
  (F2 p1.Lanes p2).bind fun v1=>(Fz v1.Curve_).bind fun v2=>some v2
theorem Kf(p1 p2 r)(h:Dt p1 p2=some r):PCall prog 207 [(.agg (Y6 p1)),(i64 p2)] (i64 r):=by
 refine C7 (fk func207 ntmps207 m0 (by with_unfolding_all rfl)) (nl W) ?_
 unfold Dt at h
 refine B6 (s0:=⟨T [(0,(.d _)),(1,(.d _))],G []⟩) (G0 W W) ?_
 refine B3<|sm W<|sv W<|A1<|B3<|sq W<|sl W A2 W<|sv W<|bs h fun _ hv1 h=>sd W (E7 W W hv1 W)<|sv W<|sd W (E6 W hv1 W W)<|bs h fun _ hv2 h=>B9 W W A3 (Yp _ _ hv2) (.inl W) (sv W<|A1<|B7 ?_)
 cases h
 exact A9 (.inr W) (C0 (B8 W) C6) (.refl _)
def V5 [Lp](p1:RoadsCheck)(v1:Zone)(x3:Int):Option (Stp Int (Sum Unit Int)):=
  cond (decide (x3< (v1.Parts.length:Int))) ((F2 v1.Parts x3).bind fun v5=>((cond (!((decide (v5.From<0))||(decide (v5.From≥v5.To)))) (Dt p1.Map_ v5.Lane_) (some default))).bind fun v6=>cond (((((decide (v5.From<0))||(decide (v5.From≥v5.To)))||(decide (v5.To>v6)))||(decide (v5.Rank<0)))||(decide (v5.Rank>100))) (some (.out (.inr 2))) (some (.go (J6 (x3+1))))) (some (.out (.inl ())))
def Fg (v1:Zone)(x2:((List Int)×Int)):Option (Stp ((List Int)×Int) (List Int)):=
  cond (decide (x2.2< (v1.Parts.length:Int))) ((F2 v1.Parts x2.2).bind fun v2=>(Y4 x2.1 [v2.Lane_]).bind fun v3=>some (.go (v3,(J6 (x2.2+1))))) (some (.out x2.1))
def V6 [Lp](p1:RoadsCheck)(x1:Int):Option (Stp Int (Sum Unit Int)):=
  cond (decide (x1< (p1.Map_.Zones.length:Int))) ((F2 p1.Map_.Zones x1).bind fun v1=>cond (decide ((v1.Parts.length:Int)<2)) (some (.out (.inr 6))) (cond (decide ((v1.Parts.length:Int)>6)) (some (.out (.inr 8))) (cond ((decide (v1.Signal_<0))||(decide (v1.Signal_>(p1.Map_.Signals.length:Int)))) (some (.out (.inr 2))) ((loop (Fg v1) ([],0)).bind fun y2=>(Bw y2 0 (p1.Map_.Lanes.length:Int)).bind fun v4=>cond (!v4) (some (.out (.inr 11))) (thenS (loop (V5 p1 v1) 0) (fun _=>some (.go (J6 (x1+1)))) (fun r=>some (.out (.inr r)))))))) (some (.out (.inl ())))
def Z4 [Lp](p1:RoadsCheck):Option Int:=
  thenS (loop (V6 p1) 0) (fun _=>some 0) (fun r=>some r)
theorem So(p1 r)(h:Z4 p1=some r):PCall prog 152 [(.agg (Y6 p1.Map_))] (i64 r):=by
 refine C7 (fk func152 ntmps152 (fun r=>if r==15 then [1003]else []) (by with_unfolding_all rfl)) (nl W) ?_
 unfold Z4 at h
 refine B6 (s0:=⟨T [(0,(.d _))],G []⟩) (G0 W W) ?_
 refine lr<|fun u1 _=>sm W<|sv W<|A1<|A6<|B3<|sq W<|sp W W<|sl W A2 W<|sd W (E3 W)<|sv W<|A1<|js h fun z1 hz1 h=>D3 (fun s=> ∃(y1:Unit) (g1:Unit),z1= .inl y1∧Sb ⟨T [],G []⟩ s) ?_ ?_
 refine A7<|D7 (V6 p1) (fun (x1:Int) (g2:Unit)=>⟨T [(1,(.ptr (1,u1) 0)),(13,(dl If p1.Map_.Zones)),(14,(di (p1.Map_.Zones.length:Int))),(15,(di x1))],G [((1,u1),some<|.box 212 (Q9 p1.Map_))]⟩) 0 () _ hz1 (G0 W W) ?_
 intro x1 g2 z2 hz2 ez2
 unfold V6 at hz2
 refine B3<|sv W<|A1<|A6<|cc W hz2 (fun c1 hz2=> ?_)<|fun c1 hz2=> ?_
 refine B0<|A6<|A7<|lr<|fun u4 _=>bs hz2 fun v1 hv1 hz2=>sd W (E7 W W hv1 W)<|sd W (E6 W hv1 W W)<|sm W<|T6 W A2 [(dl Gz v1.Parts),(di v1.Signal_)] W (A1<|A6<|B3<|sq W<|sl W A2 W<|sd W (E3 W)<|sv W<|A1<|A7<|B3<|sv W<|sv W<|sv W<|A1<|cc W hz2 (fun c2 hz2=> ?_)<|fun c2 hz2=> ?_)
 refine B3<|sv W<|A1<|B7 ?_
 cases hz2
 obtain rfl:=ez2 _ rfl
 refine ⟨nofun,G4 ?_⟩
 rw [bI]at h
 cases h
 exact A9 (.inr W) (C0 (B8 W) C6) (.refl _)
 refine B3<|sv W<|sv W<|sv W<|A1<|cc W hz2 (fun c3 hz2=> ?_)<|fun c3 hz2=> ?_
 refine B3<|sv W<|A1<|B7 ?_
 cases hz2
 obtain rfl:=ez2 _ rfl
 refine ⟨nofun,G4 ?_⟩
 rw [bI]at h
 cases h
 exact A9 (.inr W) (C0 (B8 W) C6) (.refl _)
 refine B3<|sq W<|sl W A2 W<|sv W<|sv W<|gp W (N7 W) (fun _=>W) (gf W (vl W A2 W)<|gp W (N7 W) (fun _=>W) ?_)
 refine P5 _ (.ptr _ _) W (N7 W) (fun w4=>(by simp only [A5 w4];rfl)) ?_
 refine gf W (vl W (gq W) W)<|gf W (fun w6=>(E3<|A5 w6))<|gf W (fun w7=>(R1 (A5 w7) (A5 w7) W))<|sd W (U2 W W<|fun hc=>A5<|N2 hc)<|sv W<|A1<|cc W hz2 (fun c4 hz2=> ?_)<|fun c4 hz2=> ?_
 refine B3<|sv W<|A1<|B7 ?_
 cases hz2
 obtain rfl:=ez2 _ rfl
 refine ⟨nofun,G4 ?_⟩
 rw [bI]at h
 cases h
 exact A9 (.inr W) (C0 (B8 W) C6) (.refl _)
 refine B0<|E5<|B3<|sv W<|A1<|A6<|B3<|sq W<|sl W A2 W<|sd W (E3 W)<|sv W<|A1<|bs hz2 fun y2 hy2 hz2=>D3 (fun s=> ∃g3:Nat,Sb ⟨T [(1,(.ptr (1,u1) 0)),(4,(.ptr (4,u4) 0)),(6,(oS y2 (52,g3))),(13,(dl If p1.Map_.Zones)),(14,(di (p1.Map_.Zones.length:Int))),(15,(di x1))],G [((1,u1),some<|.box 212 (Q9 p1.Map_)),((4,u4),some<|.box 117 [(dl Gz v1.Parts),(di v1.Signal_)]),((52,g3),oB 3 1 A4 y2)]⟩ s) ?_ ?_
 refine A7<|D7 (Fg v1) (fun (x2:((List Int)×Int)) (g4:Nat)=>⟨T [(1,(.ptr (1,u1) 0)),(4,(.ptr (4,u4) 0)),(6,(oS x2.1 (52,g4))),(13,(dl If p1.Map_.Zones)),(14,(di (p1.Map_.Zones.length:Int))),(15,(di x1)),(42,(dl Gz v1.Parts)),(43,(di (v1.Parts.length:Int))),(44,(di x2.2))],G [((1,u1),some<|.box 212 (Q9 p1.Map_)),((4,u4),some<|.box 117 [(dl Gz v1.Parts),(di v1.Signal_)]),((52,g4),oB 3 1 A4 x2.1)]⟩) ([],0) 0 _ hy2 (D0 (S5 W)<|sg W<|A8 A2 (.of W)<|Y5 trivial) ?_
 intro x2 g4 z3 hz3 ez3
 unfold Fg at hz3
 refine B3<|sv W<|A1<|A6<|cc W hz3 (fun c5 hz3=> ?_)<|fun c5 hz3=> ?_
 refine B0<|A6<|A7<|B3<|bs hz3 fun v2 hv2 hz3=>sd W (E7 W W hv2 W)<|sd W (E6 W hv2 W W)<|sm W<|T6 W A2 (DS v2) W (A1<|Ag fun u16 _=>C2 (oS x2.1 (52,g4)) W W (sq W<|sl W A2 W<|C2 (dl A4 [v2.Lane_]) W W (bs hz3 fun _ hv3 hz3=>P1 A4 (52,g4) x2.1 v2.Lane_ [] _ (J9<|fun _=>W) W (gq W) hv3 (ss W<|A1<|E5<|C3<|sv W<|sv W<|A1<|E0 ?_))))
 cases hz3
 exact ⟨W,u16,(D0 ⟨.of W, .of W,(.of (Ap<|S7 hv3).symm), .of W, .of W, .of W, .of W, .of W, .of W,trivial⟩<|sg W<|sg W<|U5 A2 trivial)⟩
 refine D1 W ?_
 cases hz3
 obtain rfl:=ez3 _ rfl
 refine ⟨nofun,C5 W<|U6 ?_⟩
 exact ⟨g4,(D0 (S5 W)<|A8 A2 (.of W)<|sg W<|B4 (gq W) trivial)⟩
 rintro _ ⟨g3,q1⟩
 refine B6 q1<|A6<|B3<|C2 (oS y2 (52,g3)) W W (sq W<|sp W W<|sl W A2 W<|sd W (E3 W)<|bs hz2 fun v4 hv4 hz2=>B9 W (D4 (U8<|gq W)<|rD<|rD E4) (.cons U7 (.cons (.refl _) A3)) (Lb _ _ _ _ hv4) (.inr W) (C2 (.d (bo (!v4))) W W (A1<|cc W hz2 (fun c6 hz2=> ?_)<|fun c6 hz2=> ?_)))
 refine B3<|sv W<|A1<|B7 ?_
 cases hz2
 obtain rfl:=ez2 _ rfl
 refine ⟨nofun,G4 ?_⟩
 rw [bI]at h
 cases h
 exact A9 (.inr W) (C0 (B8 W) C6) (.refl _)
 refine B0<|B3<|sq W<|sl W (gq W) W (sd W (E3 W)<|sv W<|A1<|js hz2 fun z4 hz4 hz2=>D3 (fun s=> ∃(y3:Unit) (g5:Unit),z4= .inl y3∧Sb ⟨T [(1,(.ptr (1,u1) 0)),(13,(dl If p1.Map_.Zones)),(14,(di (p1.Map_.Zones.length:Int))),(15,(di x1))],G [((1,u1),some<|.box 212 (Q9 p1.Map_))]⟩ s) ?_ ?_)
 refine A7<|D7 (V5 p1 v1) (fun (x3:Int) (g6:Unit)=>⟨T [(1,(.ptr (1,u1) 0)),(13,(dl If p1.Map_.Zones)),(14,(di (p1.Map_.Zones.length:Int))),(15,(di x1)),(62,(dl Gz v1.Parts)),(63,(di (v1.Parts.length:Int))),(64,(di x3))],G [((1,u1),some<|.box 212 (Q9 p1.Map_))]⟩) 0 () _ hz4 (G0 W W) ?_
 intro x3 g6 z5 hz5 ez5
 unfold V5 at hz5
 refine B3<|sv W<|A1<|A6<|cc W hz5 (fun c7 hz5=> ?_)<|fun c7 hz5=> ?_
 refine B0<|A6<|A7<|B3<|bs hz5 fun v5 hv5 hz5=>sd W (E7 W W hv5 W)<|sd W (E6 W hv5 W W)<|sm W<|T6 W A2 (DS v5) W (A1<|A6<|K6 W<|sq W<|sl W A2 W<|sv W<|sv W<|gp W (N7 W) (fun _=>W) (gf W (vl W A2 W)<|gp W (N7 W) (fun _=>W) (gf W (vl W A2 W)<|gf W (fun w12=>(R1 (A5 w12) (A5 w12) W))<|sd W (U2 W W<|fun hc=>A5<|N2 hc)<|sv W<|gp W (N7 W) (fun _=>W) (gf W (vl W A2 W)<|gp W (N7 W) (fun _=>W) (gf W (fun w16=>(C1 (A5 w16) (gq W) W W))<|gp W (N7 W) (fun _=>W) (gf W (vl W A2 W)<|bs hz5 fun v6 hv6 hz5=> ?_))))))
 refine N8 _ (i64 v6) (N7 W) (fun w19=>⟨_,[(.d (.agg (Y6 p1.Map_))),(di v5.Lane_)],_,_,(by simp only [A5 w19];rfl),W,A3,Kf _ _ _<|D8 w19 hv6,(.inl W)⟩) ?_
 refine gf W (fun w20=>(R1 (A5 w20) (A5 w20) W))<|sd W (U2 W W<|fun hc=>A5<|N2 hc)<|sv W<|gp W (N7 W) (fun _=>W) (gf W (vl W A2 W)<|gf W (vb W W W)<|sd W (U2 W W<|fun hc=>A5<|N2 hc)<|sv W<|gp W (N7 W) (fun _=>W) (gf W (vl W A2 W)<|gf W (vb W W W)<|sd W (U2 W W<|fun hc=>A5<|N2 hc)<|A1<|cc W hz5 (fun c8 hz5=> ?_)<|fun c8 hz5=> ?_))
 refine B3<|sv W<|A1<|B7 ?_
 cases hz5
 obtain rfl:=ez5 _ rfl
 refine ⟨nofun,G4 ?_⟩
 rw [bI]at hz2
 cases hz2
 obtain rfl:=ez2 _ rfl
 refine ⟨nofun,G4 ?_⟩
 rw [bI]at h
 cases h
 exact A9 (.inr W) (C0 (B8 W) C6) (.refl _)
 refine B0<|E5<|C3<|sv W<|sv W<|A1<|E0 ?_
 cases hz5
 exact ⟨W,(),(G0 W W)⟩
 refine D1 W ?_
 cases hz5
 obtain rfl:=ez5 _ rfl
 refine ⟨nofun,C5 W<|U6 ?_⟩
 exact ⟨_,(),W,(G0 W W)⟩
 rintro _ ⟨y3,g5,rfl,q2⟩
 rw [bH]at hz2
 refine E5<|B6 q2<|C3<|sv W<|sv W<|A1<|E0 ?_
 cases hz2
 exact ⟨W,(),(G0 W W)⟩
 refine D1 W ?_
 cases hz2
 obtain rfl:=ez2 _ rfl
 refine ⟨nofun,C5 W<|U6 ?_⟩
 exact ⟨_,(),W,(G0 W W)⟩
 rintro _ ⟨y1,g1,rfl,q3⟩
 rw [bH]at h
 refine B6 q3<|B3<|sv W<|A1<|B7 ?_
 cases h
 exact A9 (.inr W) (C0 (B8 W) C6) (.refl _)
def V7 [Lp](p1:RoadsCheck)(x1:Int):Option (Stp Int (Sum Unit Int)):=
  cond (decide (x1< (p1.Map_.Works.length:Int))) ((F2 p1.Map_.Works x1).bind fun v1=>cond ((decide (v1.Lane_<0))||(decide (v1.Lane_≥(p1.Map_.Lanes.length:Int)))) (some (.out (.inr 7))) ((F2 p1.Map_.Lanes v1.Lane_).bind fun v2=>(Fx v2.Kind).bind fun v3=>((cond (!((decide (v1.From<0))||(decide (v1.From>v1.To)))) (Dt p1.Map_ v1.Lane_) (some default))).bind fun v4=>((cond (!((((((decide (v1.From<0))||(decide (v1.From>v1.To)))||(decide (v1.To>v4)))||(decide (v1.Begin<0)))||(decide (v1.Begin≥v1.End)))||(decide (v1.End>1099511627776)))) (Bv v1.Limit 0 v3.1) (some default))).bind fun v5=>cond (((((((decide (v1.From<0))||(decide (v1.From>v1.To)))||(decide (v1.To>v4)))||(decide (v1.Begin<0)))||(decide (v1.Begin≥v1.End)))||(decide (v1.End>1099511627776)))||(!v5)) (some (.out (.inr 2))) (some (.go (J6 (x1+1)))))) (some (.out (.inl ())))
def Z5 [Lp](p1:RoadsCheck):Option Int:=
  thenS (loop (V7 p1) 0) (fun _=>some 0) (fun r=>some r)
theorem Sp(p1 r)(h:Z5 p1=some r):PCall prog 153 [(.agg (Y6 p1.Map_))] (i64 r):=by
 refine C7 (fk func153 ntmps153 m0 (by with_unfolding_all rfl)) (nl W) ?_
 unfold Z5 at h
 refine B6 (s0:=⟨T [(0,(.d _))],G []⟩) (G0 W W) ?_
 refine lr<|fun u1 _=>sm W<|sv W<|A1<|A6<|B3<|sq W<|sp W W<|sl W A2 W<|sd W (E3 W)<|sv W<|A1<|js h fun z1 hz1 h=>D3 (fun s=> ∃(y1:Unit) (g1:Unit),z1= .inl y1∧Sb ⟨T [],G []⟩ s) ?_ ?_
 refine A7<|D7 (V7 p1) (fun (x1:Int) (g2:Unit)=>⟨T [(1,(.ptr (1,u1) 0)),(10,(dl Xy p1.Map_.Works)),(11,(di (p1.Map_.Works.length:Int))),(12,(di x1))],G [((1,u1),some<|.box 212 (Q9 p1.Map_))]⟩) 0 () _ hz1 (G0 W W) ?_
 intro x1 g2 z2 hz2 ez2
 unfold V7 at hz2
 refine B3<|sv W<|A1<|A6<|cc W hz2 (fun c1 hz2=> ?_)<|fun c1 hz2=> ?_
 refine B0<|A6<|A7<|B3<|bs hz2 fun v1 hv1 hz2=>sd W (E7 W W hv1 W)<|sd W (E6 W hv1 W W)<|sm W<|T6 W A2 (cD v1) W (A1<|A6<|B3<|sq W<|sl W A2 W<|sv W<|sv W<|gp W (N7 W) (fun _=>W) (gf W (vl W A2 W)<|gp W (N7 W) (fun _=>W) ?_))
 refine P5 _ (.ptr _ _) W (N7 W) (fun w4=>(by simp only [A5 w4];rfl)) ?_
 refine gf W (vl W (gq W) W)<|gf W (fun w6=>(E3<|A5 w6))<|gf W (fun w7=>(R1 (A5 w7) (A5 w7) W))<|sd W (U2 W W<|fun hc=>A5<|N2 hc)<|A1<|cc W hz2 (fun c2 hz2=> ?_)<|fun c2 hz2=> ?_
 refine B3<|sv W<|A1<|B7 ?_
 cases hz2
 obtain rfl:=ez2 _ rfl
 refine ⟨nofun,G4 ?_⟩
 rw [bI]at h
 cases h
 exact A9 (.inr W) (C0 (B8 W) C6) (.refl _)
 refine B0<|B3<|sq W<|sp W W<|sl W (gq W) W (sq W<|sl W A2 W<|bs hz2 fun _ hv2 hz2=>sd W (E7 W W hv2 W)<|sv W<|sd W (H8 W hv2 W)<|bs hz2 fun v3 hv3 hz2=>B9 W W A3 (Hl _ _ hv3) (.inl W) (sv W<|sv W<|sv W<|sv W<|sv W<|sv W<|sv W<|A1<|A6<|K6 W<|sq W<|sl W A2 W<|sv W<|sv W<|gp W (N7 W) (fun _=>W) (gf W (vl W A2 W)<|gp W (N7 W) (fun _=>W) (gf W (vl W A2 W)<|gf W (fun w12=>(R1 (A5 w12) (A5 w12) W))<|sd W (U2 W W<|fun hc=>A5<|N2 hc)<|sv W<|gp W (N7 W) (fun _=>W) (gf W (vl W A2 W)<|gp W (N7 W) (fun _=>W) (gf W (fun w16=>(C1 (A5 w16) (gq W) W W))<|gp W (N7 W) (fun _=>W) (gf W (vl W A2 W)<|bs hz2 fun v4 hv4 hz2=> ?_)))))))
 refine N8 _ (i64 v4) (N7 W) (fun w19=>⟨_,[(.d (.agg (Y6 p1.Map_))),(di v1.Lane_)],_,_,(by simp only [A5 w19];rfl),W,A3,Kf _ _ _<|D8 w19 hv4,(.inl W)⟩) ?_
 refine gf W (fun w20=>(R1 (A5 w20) (A5 w20) W))<|sd W (U2 W W<|fun hc=>A5<|N2 hc)<|sv W<|gp W (N7 W) (fun _=>W) (gf W (vl W A2 W)<|gf W (vb W W W)<|sd W (U2 W W<|fun hc=>A5<|N2 hc)<|sv W<|gp W (N7 W) (fun _=>W) (gf W (vl W A2 W)<|gp W (N7 W) (fun _=>W) (gf W (vl W A2 W)<|gf W (fun w28=>(R1 (A5 w28) (A5 w28) W))<|sd W (U2 W W<|fun hc=>A5<|N2 hc)<|sv W<|gp W (N7 W) (fun _=>W) (gf W (vl W A2 W)<|gf W (vb W W W)<|sd W (U2 W W<|fun hc=>A5<|N2 hc)<|sv W<|gp W (N7 W) (fun _=>W) (gf W (vl W A2 W)<|gf W (fun _=>W)<|bs hz2 fun v5 hv5 hz2=> ?_)))))
 refine N8 _ (bo v5) (N7 W) (fun w35=>⟨_,[(di v1.Limit),(di 0),(di v3.1)],_,_,(by simp only [A5 w35];rfl),W,A3,Bg _ _ _ _<|D8 w35 hv5,(.inl W)⟩) ?_
 refine P5 _ (.d (bo (!v5))) W (N7 W) (fun w36=>(by simp only [A5 w36];rfl)) ?_
 refine sd W (U2 W W<|fun hc=>A5<|N2 hc)<|A1<|cc W hz2 (fun c3 hz2=> ?_)<|fun c3 hz2=> ?_
 refine B3<|sv W<|A1<|B7 ?_
 cases hz2
 obtain rfl:=ez2 _ rfl
 refine ⟨nofun,G4 ?_⟩
 rw [bI]at h
 cases h
 exact A9 (.inr W) (C0 (B8 W) C6) (.refl _)
 refine B0<|E5<|C3<|sv W<|sv W<|A1<|E0 ?_
 cases hz2
 exact ⟨W,(),(G0 W W)⟩
 refine D1 W ?_
 cases hz2
 obtain rfl:=ez2 _ rfl
 refine ⟨nofun,C5 W<|U6 ?_⟩
 exact ⟨_,(),W,(G0 W W)⟩
 rintro _ ⟨y1,g1,rfl,q1⟩
 rw [bH]at h
 refine B6 q1<|B3<|sv W<|A1<|B7 ?_
 cases h
 exact A9 (.inr W) (C0 (B8 W) C6) (.refl _)
def P7 [Lp](v:Nat)(p1:RoadsCheck):Option Int:=
  cond (Nat.beq v 148) (Gp p1) (cond (Nat.beq v 149) (Z3 p1) (cond (Nat.beq v 150) (Y1 p1) (cond (Nat.beq v 151) (X1 p1) (cond (Nat.beq v 152) (Z4 p1) (cond (Nat.beq v 153) (Z5 p1) (none))))))
theorem Kp(v p1 r)(h:P7 v p1=some r):PCall prog v [(.agg [(i64 p1.Map_.Version),(.list (List.map Mb p1.Map_.Lanes)),(.list (List.map If p1.Map_.Zones)),(.list (List.map Oj p1.Map_.Signals)),(.list (List.map Xy p1.Map_.Works))])] (i64 r):=by
  unfold P7 at h
  rcases Xd h with ⟨rfl,h⟩|⟨_,h⟩
  ·exact Qm _ r h
  rcases Xd h with ⟨rfl,h⟩|⟨_,h⟩
  ·exact Sn _ r h
  rcases Xd h with ⟨rfl,h⟩|⟨_,h⟩
  ·exact Ra _ r h
  rcases Xd h with ⟨rfl,h⟩|⟨_,h⟩
  ·exact Qo _ r h
  rcases Xd h with ⟨rfl,h⟩|⟨_,h⟩
  ·exact So _ r h
  rcases Xd h with ⟨rfl,h⟩|⟨_,h⟩
  ·exact Sp _ r h
  cases h
def Cy [Lp](p1:Map)(x1:Int):Option (Stp Int (Sum Unit Int)):=
  cond (decide (x1< ([148,149,150,151,152,153].length:Int))) ((F2 [148,149,150,151,152,153] x1).bind fun v1=>(P7 v1 (RoadsCheck.mk p1)).bind fun v2=>cond (v2 !=0) (some (.out (.inr v2))) (some (.go (J6 (x1+1))))) (some (.out (.inl ())))
def Dn [Lp](p1:Map):Option Int:=
  thenS (loop (Cy p1) 0) (fun _=>some 0) (fun r=>some r)
theorem Nh(p1 r)(h:Dn p1=some r):PCall prog 71 [(.agg (Y6 p1))] (i64 r):=by
 refine C7 (fk func71 ntmps71 (fun r=>if r==1 then [1000]else []) (by with_unfolding_all rfl)) (nl W) ?_
 unfold Dn at h
 refine B6 (s0:=⟨T [(0,(.d _))],G []⟩) (G0 W W) ?_
 refine lr<|fun u1 _=>sm W<|sv W<|A1<|A6<|B3<|C2 (dl eB [148,149,150,151,152,153]) W W (sd W (E3 W)<|sv W<|A1<|js h fun z1 hz1 h=>D3 (fun s=> ∃(y1:Unit) (g1:Unit),z1= .inl y1∧Sb ⟨T [],G []⟩ s) ?_ ?_)
 refine A7<|D7 (Cy p1) (fun (x1:Int) (g2:Unit)=>⟨T [(1,(.ptr (1,u1) 0)),(6,(dl eB [148,149,150,151,152,153])),(7,(di ([148,149,150,151,152,153].length:Int))),(8,(di x1))],G [((1,u1),some<|.box 33 (Q9 p1))]⟩) 0 () _ hz1 (G0 W W) ?_
 intro x1 g2 z2 hz2 ez2
 unfold Cy at hz2
 refine B3<|sv W<|A1<|A6<|cc W hz2 (fun c1 hz2=> ?_)<|fun c1 hz2=> ?_
 refine B0<|A6<|A7<|B3<|bs hz2 fun _ hv1 hz2=>sd W (E7 W W hv1 W)<|sd W (H8 W hv1 W)<|sv W<|A1<|B3<|sv W<|sd W (C1 W A2 W W)<|sv W<|bs hz2 fun _ hv2 hz2=>B9 W W A3 (Kp _ _ _ hv2) (.inl W) (sv W<|A1<|B3<|sv W<|sv W<|A1<|cc W hz2 (fun c2 hz2=> ?_)<|fun c2 hz2=> ?_)
 refine B3<|sv W<|sv W<|A1<|B7 ?_
 cases hz2
 obtain rfl:=ez2 _ rfl
 refine ⟨nofun,G4 ?_⟩
 rw [bI]at h
 cases h
 exact A9 (.inr W) (C0 (B8 W) C6) (.refl _)
 refine B0<|E5<|C3<|sv W<|sv W<|A1<|E0 ?_
 cases hz2
 exact ⟨W,(),(G0 W W)⟩
 refine D1 W ?_
 cases hz2
 obtain rfl:=ez2 _ rfl
 refine ⟨nofun,C5 W<|U6 ?_⟩
 exact ⟨_,(),W,(G0 W W)⟩
 rintro _ ⟨y1,g1,rfl,q1⟩
 rw [bH]at h
 refine B6 q1<|B3<|sv W<|A1<|B7 ?_
 cases h
 exact A9 (.inr W) (C0 (B8 W) C6) (.refl _)
def Cz (p1:(List Int))(p2:Int)(x1:Int):Option (Stp Int (Sum Unit Int)):=
  cond (decide (x1< (p1.length:Int))) ((F2 p1 x1).bind fun v1=>cond (p2==v1) (some (.out (.inr x1))) (some (.go (J6 (x1+1))))) (some (.out (.inl ())))
def R9 [Lp](p1:(List Int))(p2:Int):Option Int:=
  thenS (loop (Cz p1 p2) 0) (fun _=>some (-1)) (fun r=>some r)
theorem Ih(p1 p2 r)(h:R9 p1 p2=some r):PCall prog 244 [(.list (List.map A4 p1)),(i64 p2)] (i64 r):=by
 refine C7 (fk func244 ntmps244 m0 (by with_unfolding_all rfl)) (nl W) ?_
 unfold R9 at h
 refine B6 (s0:=⟨T [(0,(.d _)),(1,(.d _))],G []⟩) (G0 W W) ?_
 refine B3<|sv W<|A1<|A6<|B3<|sv W<|sd W (E3 W)<|sv W<|A1<|js h fun z1 hz1 h=>D3 (fun s=> ∃(y1:Unit) (g1:Unit),z1= .inl y1∧Sb ⟨T [],G []⟩ s) ?_ ?_
 refine A7<|D7 (Cz p1 p2) (fun (x1:Int) (g2:Unit)=>⟨T [(0,(dl A4 p1)),(1,(di p2)),(7,(di (p1.length:Int))),(8,(di x1))],G []⟩) 0 () _ hz1 (G0 W W) ?_
 intro x1 g2 z2 hz2 ez2
 unfold Cz at hz2
 refine B3<|sv W<|A1<|A6<|cc W hz2 (fun c1 hz2=> ?_)<|fun c1 hz2=> ?_
 refine B0<|A6<|A7<|B3<|sv W<|sv W<|A1<|B3<|sv W<|sv W<|sv W<|bs hz2 fun _ hv1 hz2=>sd W (E7 W W hv1 W)<|sd W (H8 W hv1 W)<|sv W<|A1<|cc W hz2 (fun c2 hz2=> ?_)<|fun c2 hz2=> ?_
 refine B3<|sv W<|sv W<|A1<|B7 ?_
 cases hz2
 obtain rfl:=ez2 _ rfl
 refine ⟨nofun,G4 ?_⟩
 rw [bI]at h
 cases h
 exact A9 (.inr W) (C0 (B8 W) C6) (.refl _)
 refine B0<|E5<|C3<|sv W<|sv W<|A1<|E0 ?_
 cases hz2
 exact ⟨W,(),(G0 W W)⟩
 refine D1 W ?_
 cases hz2
 obtain rfl:=ez2 _ rfl
 refine ⟨nofun,C5 W<|U6 ?_⟩
 exact ⟨_,(),W,(G0 W W)⟩
 rintro _ ⟨y1,g1,rfl,q1⟩
 rw [bH]at h
 refine B6 q1<|B3<|sv W<|A1<|B7 ?_
 cases h
 exact A9 (.inr W) (C0 (B8 W) C6) (.refl _)
def O1 [Lp](p1:(List Int))(p2:Int):Option Bool:=
  (R9 p1 p2).bind fun v1=>some (decide (v1≥0))
theorem Ar(p1 p2 r)(h:O1 p1 p2=some r):PCall prog 215 [(.list (List.map A4 p1)),(i64 p2)] (bo r):=by
 refine C7 (fk func215 ntmps215 m0 (by with_unfolding_all rfl)) (nl W) ?_
 unfold O1 at h
 refine B6 (s0:=⟨T [(0,(.d _)),(1,(.d _))],G []⟩) (G0 W W) ?_
 refine B3<|sv W<|A1<|B3<|sv W<|sv W<|bs h fun _ hv1 h=>B9 W W A3 (Ih _ _ _ hv1) (.inl W) (sv W<|sv W<|A1<|B7 ?_)
 cases h
 exact A9 (.inr W) (C0 (B8 W) C6) (.refl _)
def Bh [Lp](p1:Map)(p2:Int)(x1:((List Int)×Int)):Option (Stp ((List Int)×Int) (List Int)):=
  cond (decide (x1.2< (p1.Lanes.length:Int))) ((F2 p1.Lanes x1.2).bind fun v1=>(O1 v1.Next p2).bind fun v2=>cond v2 ((Y4 x1.1 [x1.2]).bind fun v3=>some (.go (v3,(J6 (x1.2+1))))) (some (.go (x1.1,(J6 (x1.2+1)))))) (some (.out x1.1))
def Ga [Lp](p1:Map)(p2:Int):Option (List Int):=
  (loop (Bh p1 p2) ([],0)).bind fun y1=>some y1
theorem Yq(p1 p2 r)(h:Ga p1 p2=some r):PCall prog 214 [(.agg (Y6 p1)),(i64 p2)] (.list (List.map A4 r)):=by
 refine C7 (fk func214 ntmps214 (fun r=>if r==6 then [1002]else []) (by with_unfolding_all rfl)) (nl W) ?_
 unfold Ga at h
 refine B6 (s0:=⟨T [(0,(.d _)),(1,(.d _))],G []⟩) (G0 W W) ?_
 refine B3<|sm W<|sv W<|A1<|B3<|sv W<|A1<|A6<|B3<|sq W<|sl W A2 W<|sd W (E3 W)<|sv W<|A1<|bs h fun y1 hy1 h=>D3 (fun s=> ∃g1:Nat,Sb ⟨T [(5,(oS y1 (23,g1)))],G [((23,g1),oB 3 1 A4 y1)]⟩ s) ?_ ?_
 refine A7<|D7 (Bh p1 p2) (fun (x1:((List Int)×Int)) (g2:Nat)=>⟨T [(1,(di p2)),(5,(oS x1.1 (23,g2))),(9,(dl Mb p1.Lanes)),(10,(di (p1.Lanes.length:Int))),(11,(di x1.2))],G [((23,g2),oB 3 1 A4 x1.1)]⟩) ([],0) 0 _ hy1 (D0 (S5 W)<|Y5 trivial) ?_
 intro x1 g2 z1 hz1 ez1
 unfold Bh at hz1
 refine B3<|sv W<|A1<|A6<|cc W hz1 (fun c1 hz1=> ?_)<|fun c1 hz1=> ?_
 refine B0<|A6<|A7<|B3<|sv W<|bs hz1 fun v1 hv1 hz1=>sd W (E7 W W hv1 W)<|sd W (E6 W hv1 W W)<|sm W<|sv W<|T6 W A2 (MU v1) W (A1<|B3<|sq W<|sl W A2 W<|sv W<|bs hz1 fun _ hv2 hz1=>B9 W W A3 (Ar _ _ _ hv2) (.inl W) (A1<|cc W hz1 (fun c2 hz1=> ?_)<|fun c2 hz1=> ?_))
 refine Ag fun u7 _=>C2 (oS x1.1 (23,g2)) W W (sv W<|C2 (dl A4 [x1.2]) W W (bs hz1 fun _ hv3 hz1=>P1 A4 (23,g2) x1.1 x1.2 [] _ (J9<|fun _=>W) W (gq W) hv3 (ss W<|A1<|E5<|C3<|sv W<|sv W<|A1<|E0 ?_)))
 cases hz1
 exact ⟨W,u7,(D0 ⟨.of W,(.of (Ap<|S7 hv3).symm), .of W, .of W, .of W,trivial⟩<|U5 A2 trivial)⟩
 refine B0<|E5<|C3<|sv W<|sv W<|A1<|E0 ?_
 cases hz1
 exact ⟨W,g2,(D0 (S5 W)<|B4 (gq W) trivial)⟩
 refine D1 W ?_
 cases hz1
 obtain rfl:=ez1 _ rfl
 refine ⟨nofun,C5 W<|U6 ?_⟩
 exact ⟨g2,(D0 ⟨.of W,trivial⟩<|B4 A2 trivial)⟩
 rintro _ ⟨g1,q1⟩
 refine B6 q1<|B3<|C2 (oS y1 (23,g1)) W W (C2 (oS y1 (23,g1)) W W (A1<|B7 ?_))
 cases h
 exact A9 (.inr W) (C0 (B8 W)<|U8 A2) U7
def X2 [Lp](p1:Map)(v7:List Int)(x1:(Int×Int)):Option (Stp (Int×Int) (Sum Unit Int)):=
  cond (decide (x1.2< (v7.length:Int))) ((F2 v7 x1.2).bind fun v8=>(F2 p1.Lanes x1.1).bind fun v9=>(O1 v9.Next v8).bind fun v10=>cond (!v10) (some (.out (.inr 13))) (some (.go (v8,(J6 (x1.2+1)))))) (some (.out (.inl ())))
def Y2 [Lp](p1:Map)(p2:(List Int)):Option Int:=
  (Dn p1).bind fun v1=>cond (v1 !=0) (some v1) (((cond (!(((p2.length:Int)==0)||(decide ((p2.length:Int)>8)))) (F2 p2 0) (some default))).bind fun v2=>((cond (!((((p2.length:Int)==0)||(decide ((p2.length:Int)>8)))||(decide (v2<0)))) (F2 p2 0) (some default))).bind fun v3=>((cond (!(((((p2.length:Int)==0)||(decide ((p2.length:Int)>8)))||(decide (v2<0)))||(decide (v3≥(p1.Lanes.length:Int))))) (F2 p2 0) (some default))).bind fun v4=>((cond (!(((((p2.length:Int)==0)||(decide ((p2.length:Int)>8)))||(decide (v2<0)))||(decide (v3≥(p1.Lanes.length:Int))))) (Ga p1 v4) (some default))).bind fun v5=>cond ((((((p2.length:Int)==0)||(decide ((p2.length:Int)>8)))||(decide (v2<0)))||(decide (v3≥(p1.Lanes.length:Int))))||(decide ((v5.length:Int)>0))) (some 13) ((F2 p2 0).bind fun v6=>(RW p2 1 (p2.length:Int)).bind fun v7=>thenS (loop (X2 p1 v7) (v6,0)) (fun _=>some 0) (fun r=>some r)))
theorem Mc(p1 p2 r)(h:Y2 p1 p2=some r):PCall prog 154 [(.agg (Y6 p1)),(.list (List.map A4 p2))] (i64 r):=by
 refine C7 (fk func154 ntmps154 m0 (by with_unfolding_all rfl)) (nl W) ?_
 unfold Y2 at h
 refine B6 (s0:=⟨T [(0,(.d _)),(1,(.d _))],G []⟩) (G0 W W) ?_
 refine lr<|fun u1 _=>sm W<|sv W<|A1<|A6<|B3<|sd W (C1 W A2 W W)<|bs h fun _ hv1 h=>B9 W W A3 (Nh _ _ hv1) (.inl W) (sv W<|A1<|B3<|sv W<|sv W<|A1<|cc W h (fun c1 h=> ?_)<|fun c1 h=> ?_)
 refine B3<|sv W<|sv W<|A1<|B7 ?_
 cases h
 exact A9 (.inr W) (C0 (B8 W) C6) (.refl _)
 refine B0<|A6<|A6<|K6 W<|sv W<|sd W (E3 W)<|sv W<|sv W<|gf W (fun _=>W)<|gf W (fun w2=>(E3<|A5 w2))<|gf W (vb W W W)<|sd W (U2 W W<|fun hc=>A5<|N2 hc)<|sv W<|gf W (fun _=>W)<|bs h fun _ hv2 h=>gf W (fun w5=>(E7 (A5 w5) W (D8 w5 hv2) W))<|gf W (fun w6=>(H8 (A5 w6) (D8 w6 hv2) W))<|gf W (vb W W W)<|sd W (U2 W W<|fun hc=>A5<|N2 hc)<|sv W<|gf W (fun _=>W)<|bs h fun _ hv3 h=>gf W (fun w9=>(E7 (A5 w9) W (D8 w9 hv3) W))<|gf W (fun w10=>(H8 (A5 w10) (D8 w10 hv3) W))<|gp W (N7 W) (fun _=>W) (gf W (vl W A2 W)<|gf W (fun w13=>(E3<|A5 w13))<|gf W (fun w14=>(R1 (A5 w14) (A5 w14) W))<|sd W (U2 W W<|fun hc=>A5<|N2 hc)<|sv W<|gf W (fun _=>(C1 W A2 W W))<|gf W (fun _=>W)<|bs h fun v4 hv4 h=>gf W (fun w17=>(E7 (A5 w17) W (D8 w17 hv4) W))<|gf W (fun w18=>(H8 (A5 w18) (D8 w18 hv4) W))<|bs h fun v5 hv5 h=> ?_)
 refine N8 _ (.list (List.map A4 v5)) (N7 W) (fun w19=>⟨_,[(.d (.agg (Y6 p1))),(di v4)],_,_,(by simp only [A5 w19];rfl),W,A3,Yq _ _ _<|D8 w19 hv5,(.inl W)⟩) ?_
 refine gf W (fun w20=>(E3<|A5 w20))<|gf W (vb W W W)<|sd W (U2 W W<|fun hc=>A5<|N2 hc)<|A1<|cc W h (fun c2 h=> ?_)<|fun c2 h=> ?_
 refine B3<|sv W<|A1<|B7 ?_
 cases h
 exact A9 (.inr W) (C0 (B8 W) C6) (.refl _)
 refine B0<|B3<|sv W<|bs h fun v6 hv6 h=>sd W (E7 W W hv6 W)<|sd W (H8 W hv6 W)<|sv W<|A1<|A6<|B3<|sv W<|bs h fun v7 hv7 h=>sd W (bW W (fun _=>W) (dG W) ZS hv7)<|sd W (E3 W)<|sv W<|A1<|js h fun z1 hz1 h=>D3 (fun s=> ∃(y1:Unit) (g1:Unit),z1= .inl y1∧Sb ⟨T [],G []⟩ s) ?_ ?_
 refine A7<|D7 (X2 p1 v7) (fun (x1:(Int×Int)) (g2:Unit)=>⟨T [(2,(.ptr (2,u1) 0)),(6,(di x1.1)),(50,(dl A4 v7)),(51,(di (v7.length:Int))),(52,(di x1.2))],G [((2,u1),some<|.box 33 (Q9 p1))]⟩) (v6,0) () _ hz1 (G0 W W) ?_
 intro x1 g2 z2 hz2 ez2
 unfold X2 at hz2
 refine B3<|sv W<|A1<|A6<|cc W hz2 (fun c3 hz2=> ?_)<|fun c3 hz2=> ?_
 refine B0<|A6<|A7<|B3<|bs hz2 fun _ hv8 hz2=>sd W (E7 W W hv8 W)<|sd W (H8 W hv8 W)<|sv W<|A1<|A6<|B3<|sq W<|sl W A2 W<|sv W<|bs hz2 fun _ hv9 hz2=>sd W (E7 W W hv9 W)<|sv W<|sd W (H8 W hv9 W)<|sv W<|bs hz2 fun v10 hv10 hz2=>B9 W W A3 (Ar _ _ _ hv10) (.inl W) (C2 (.d (bo (!v10))) W W (A1<|cc W hz2 (fun c4 hz2=> ?_)<|fun c4 hz2=> ?_))
 refine B3<|sv W<|A1<|B7 ?_
 cases hz2
 obtain rfl:=ez2 _ rfl
 refine ⟨nofun,G4 ?_⟩
 rw [bI]at h
 cases h
 exact A9 (.inr W) (C0 (B8 W) C6) (.refl _)
 refine B0<|C3<|sv W<|sv W<|A1<|E5<|C3<|sv W<|sv W<|A1<|E0 ?_
 cases hz2
 exact ⟨W,(),(G0 W W)⟩
 refine D1 W ?_
 cases hz2
 obtain rfl:=ez2 _ rfl
 refine ⟨nofun,C5 W<|U6 ?_⟩
 exact ⟨_,(),W,(G0 W W)⟩
 rintro _ ⟨y1,g1,rfl,q1⟩
 rw [bH]at h
 refine B6 q1<|B3<|sv W<|A1<|B7 ?_
 cases h
 exact A9 (.inr W) (C0 (B8 W) C6) (.refl _)
def Bi [Lp](p1:Map)(p2:(List Int))(x1:(Int× ((List Int)×Int))):Option (Stp (Int× ((List Int)×Int)) ((List Int)×Int)):=
  cond (decide (x1.1< (p2.length:Int))) ((F2 p2 x1.1).bind fun v2=>(Y4 x1.2.1 [x1.2.2]).bind fun v3=>(Dt p1 v2).bind fun v4=>some (.go ((J6 (x1.1+1)),(v3,(J6 (x1.2.2+v4)))))) (some (.out x1.2))
def Ac [Lp](p1:Map)(p2:(List Int)):Option RoadsWay:=
  (Y2 p1 p2).bind fun v1=>cond (v1 !=0) (some (RoadsWay.mk (Map.mk 0 [] [] [] []) [] [] 0)) ((loop (Bi p1 p2) (0,([],0))).bind fun y1=>some (RoadsWay.mk p1 p2 y1.1 y1.2))
theorem Hm(p1 p2 r)(h:Ac p1 p2=some r):PCall prog 205 [(.agg (Y6 p1)),(.list (List.map A4 p2))] (.agg (OV r)):=by
 refine C7 (fk func205 ntmps205 (fun r=>if r==7 then [1004]else []) (by with_unfolding_all rfl)) (nl W) ?_
 unfold Ac at h
 refine B6 (s0:=⟨T [(0,(.d _)),(1,(.d _))],G []⟩) (G0 W W) ?_
 refine lr<|fun u1 _=>sm W<|sm W<|A1<|A6<|B3<|sd W (C1 W (gq W) W W)<|sv W<|bs h fun _ hv1 h=>B9 W W A3 (Mc _ _ _ hv1) (.inl W) (sv W<|A1<|cc W h (fun c1 h=> ?_)<|fun c1 h=> ?_)
 refine B3<|sv W<|T6 W A2 [(di 0),(.d .nilS),(.d .nilS),(.d .nilS),(.d .nilS),(.d .nilS),(.d .nilS),(di 0)] W (A1<|B7 ?_)
 cases h
 exact A9 (.inr W) (C0 (K7 W A2 (nl W) W) C6) (.agg (ca W<|.cons ⟨DLe.nil,W⟩ (.cons ⟨DLe.nil,W⟩ (.cons ⟨DLe.nil,W⟩ (.cons ⟨DLe.nil,W⟩ (.cons ⟨DLe.nil,W⟩ (.cons ⟨DLe.nil,W⟩ (cz W))))))))
 refine B0<|lr<|fun u4 _=>sd W (C1 W (gq W) W W)<|sv W<|sv W<|sm W<|T6 W A2 ((Q9 p1)++ [(dl A4 p2),(.d .nilS),(di 0)]) W (A1<|A6<|B3<|sv W<|sd W (E3 W)<|sv W<|A1<|bs h fun y1 hy1 h=>D3 (fun s=> ∃g1:Nat,Sb ⟨T [(4,(.ptr (4,u1) 0)),(5,(.ptr (5,u4) 0))],G [((4,u1),some<|.box 260 [(di 0),(.d .nilS),(.d .nilS),(.d .nilS),(.d .nilS),(.d .nilS),(.d .nilS),(di 0)]),((5,u4),some<|.box 260 ((Q9 p1)++ [(dl A4 p2),(oS y1.1 (27,g1)),(di y1.2)])),((27,g1),oB 2 1 A4 y1.1)]⟩ s) ?_ ?_)
 refine A7<|D7 (Bi p1 p2) (fun (x1:(Int× ((List Int)×Int))) (g2:Nat)=>⟨T [(2,(.ptr (2,u1) 0)),(4,(.ptr (4,u1) 0)),(5,(.ptr (5,u4) 0)),(16,(dl A4 p2)),(17,(di (p2.length:Int))),(18,(di x1.1))],G [((2,u1),some<|.box 33 (Q9 p1)),((4,u1),some<|.box 260 [(di 0),(.d .nilS),(.d .nilS),(.d .nilS),(.d .nilS),(.d .nilS),(.d .nilS),(di 0)]),((5,u4),some<|.box 260 ((Q9 p1)++ [(dl A4 p2),(oS x1.2.1 (27,g2)),(di x1.2.2)])),((27,g2),oB 2 1 A4 x1.2.1)]⟩) (0,([],0)) 0 _ hy1 (D0 (S5 W)<|sg W<|sg W<|A8 A2 (.of W)<|Y5 trivial) ?_
 intro x1 g2 z1 hz1 ez1
 unfold Bi at hz1
 refine B3<|sv W<|A1<|A6<|cc W hz1 (fun c2 hz1=> ?_)<|fun c2 hz1=> ?_
 refine B0<|A6<|A7<|B3<|bs hz1 fun _ hv2 hz1=>sd W (E7 W W hv2 W)<|sd W (H8 W hv2 W)<|sv W<|A1<|lr<|fun u8 _=>sq W<|C2 (oS x1.2.1 (27,g2)) W (O8 W (gq W) W) (sq W<|sl W (gq W) W (C2 (dl A4 [x1.2.2]) W W (bs hz1 fun _ hv3 hz1=>P1 A4 (27,g2) x1.2.1 x1.2.2 [] _ (J9<|fun _=>W) W (gq W) hv3 (sq W<|T6 W (gq W) ((Q9 p1)++ [(dl A4 p2),(.sl (27,u8)),(di x1.2.2)]) W (A1<|K6 W<|sq W<|sl W A2 W<|sd W (C1 W (gq W) W W)<|sv W<|bs hz1 fun v4 hv4 hz1=>B9 W W A3 (Kf _ _ _ hv4) (.inl W) (sv W<|sq W<|T6 W A2 ((Q9 p1)++ [(dl A4 p2),(.sl (27,u8)),(di<|J6 (x1.2.2+v4))]) W (A1<|E5<|C3<|sv W<|sv W<|A1<|E0 ?_)))))))
 cases hz1
 exact ⟨W,u8,(D0 (S5 W)<|sg W<|sg W<|A8 A2 (.box (cv<|cv<|cv<|cv<|cv<|cv<|.cons (.of (Ap<|S7 hv3).symm) cw))<|U5 (gq W) trivial)⟩
 refine D1 W ?_
 cases hz1
 obtain rfl:=ez1 _ rfl
 refine ⟨nofun,C5 W<|U6 ?_⟩
 exact ⟨g2,(D0 (S5 W)<|sg W<|sg W<|B4 (gq W) trivial)⟩
 rintro _ ⟨g1,q1⟩
 refine B6 q1<|B3<|C2 (W1 ((Q9 p1)++ [(dl A4 p2),(oS y1.1 (27,g1)),(di y1.2)])) W (C1 W (gq W) W W) (Fu _ _ _ _ _ (S8 _) W W A2 (nl W) ((Q9 p1)++ [(dl A4 p2),(oS y1.1 (27,g1)),(di y1.2)]) W (A1<|B7 ?_))
 cases h
 exact A9 (.inr W) (C0 (K7 W A2 (nl W) W)<|Iu<|rD<|rD<|rD<|rD<|rD<|rD<|D4 (U8<|gq W)<|rD E4) (.agg (ca W<|ca W<|ca W<|ca W<|ca W<|ca W<|.cons ⟨U7,W⟩ (cz W)))
def W9 [Lp](p1:Map)(p2:(List Int)):Option Int:=
  (Ac p1 p2).bind fun v1=>some v1.length
theorem Kq(p1 p2 r)(h:W9 p1 p2=some r):PCall prog 155 [(.agg (Y6 p1)),(.list (List.map A4 p2))] (i64 r):=by
 refine C7 (fk func155 ntmps155 m0 (by with_unfolding_all rfl)) (nl W) ?_
 unfold W9 at h
 refine B6 (s0:=⟨T [(0,(.d _)),(1,(.d _))],G []⟩) (G0 W W) ?_
 refine B3<|sm W<|sv W<|A1<|B3<|sd W (C1 W A2 W W)<|sv W<|bs h fun _ hv1 h=>B9 W W A3 (Hm _ _ _ hv1) (.inl W) (sv W<|sv W<|A1<|B7 ?_)
 cases h
 exact A9 (.inr W) (C0 (B8 W) C6) (.refl _)
def Bx [Lp](p1:Map)(p2:(List Int)):Option (List Int):=
  (Ac p1 p2).bind fun v1=>some v1.starts
theorem Lf(p1 p2 r)(h:Bx p1 p2=some r):PCall prog 139 [(.agg (Y6 p1)),(.list (List.map A4 p2))] (.list (List.map A4 r)):=by
 refine C7 (fk func139 ntmps139 m0 (by with_unfolding_all rfl)) (nl W) ?_
 unfold Bx at h
 refine B6 (s0:=⟨T [(0,(.d _)),(1,(.d _))],G []⟩) (G0 W W) ?_
 refine B3<|sm W<|sv W<|A1<|B3<|sd W (C1 W A2 W W)<|sv W<|bs h fun _ hv1 h=>B9 W W A3 (Hm _ _ _ hv1) (.inl W) (sv W<|sv W<|A1<|B7 ?_)
 cases h
 exact A9 (.inr W) (C0 (B8 W) C6) (.refl _)
def Pa (p2:Agent)(v1:(List Int))(x1:Int):Option (Stp Int Int):=
  (F2 v1 x1).bind fun v2=>cond (decide (v2>p2.S)) (some (.go (J6 (x1 - 1)))) (some (.out x1))
def Hr [Lp](p1:Map)(p2:Agent):Option (Int×Int):=
  (Bx p1 p2.Route).bind fun v1=>(loop (Pa p2 v1) (J6 ((v1.length:Int) - 1))).bind fun y1=>(F2 p2.Route y1).bind fun v3=>(F2 v1 y1).bind fun v4=>some (v3,(J6 (p2.S - v4)))
theorem Uf(p1 p2 r)(h:Hr p1 p2=some r):PCall prog 156 [(.agg (Y6 p1)),(.agg (C4 p2))] (.tup [(i64 r.1),(i64 r.2)]):=by
 refine C7 (fk func156 ntmps156 m0 (by with_unfolding_all rfl)) (nl W) ?_
 unfold Hr at h
 refine B6 (s0:=⟨T [(0,(.d _)),(1,(.d _))],G []⟩) (G0 W W) ?_
 refine lr<|fun u1 _=>sm W<|sm W<|sv W<|sv W<|A1<|B3<|sd W (C1 W (gq W) W W)<|sq W<|sl W A2 W<|bs h fun v1 hv1 h=>B9 W W A3 (Lf _ _ _ hv1) (.inl W) (sv W<|A1<|B3<|sv W<|sd W (E3 W)<|sv W<|sv W<|A1<|A6<|bs h fun y1 hy1 h=>D3 (fun s=> ∃g1:Unit,Sb ⟨T [(3,(.ptr (3,u1) 0)),(6,(dl A4 v1)),(7,(di y1))],G [((3,u1),some<|.box 45 (M5 p2))]⟩ s) ?_ ?_)
 refine A7<|D7 (Pa p2 v1) (fun (x1:Int) (g2:Unit)=>⟨T [(3,(.ptr (3,u1) 0)),(6,(dl A4 v1)),(7,(di x1))],G [((3,u1),some<|.box 45 (M5 p2))]⟩) (J6 ((v1.length:Int) - 1)) () _ hy1 (G0 W W) ?_
 intro x1 g2 z1 hz1 ez1
 unfold Pa at hz1
 refine A6<|A6<|K6 W<|sv W<|sv W<|bs hz1 fun _ hv2 hz1=>sd W (E7 W W hv2 W)<|sd W (H8 W hv2 W)<|sq W<|sl W A2 W<|sv W<|A1<|cc W hz1 (fun c1 hz1=> ?_)<|fun c1 hz1=> ?_
 refine B0<|A7<|C3<|sv W<|sv W<|sv W<|A1<|E5<|E0 ?_
 cases hz1
 exact ⟨W,(),(G0 W W)⟩
 refine D1 W ?_
 cases hz1
 obtain rfl:=ez1 _ rfl
 refine ⟨nofun,C5 W<|U6 ?_⟩
 exact ⟨(),(G0 W W)⟩
 rintro _ ⟨g1,q1⟩
 refine B6 q1<|A6<|K6 W<|sq W<|sl W A2 W<|sv W<|bs h fun _ hv3 h=>sd W (E7 W W hv3 W)<|sd W (H8 W hv3 W)<|sq W<|sl W A2 W<|sv W<|sv W<|bs h fun _ hv4 h=>sd W (E7 W W hv4 W)<|sd W (H8 W hv4 W)<|sv W<|sv W<|sv W<|A1<|B7 ?_
 cases h
 exact A9 (.inr W) (Ic (B8 W) (B8 W) C6 C6) (.refl _)
def Fh (p1:Agent):Option WorldSpan:=
  some (WorldSpan.mk (J6 (p1.S - p1.Len)) p1.S)
theorem Eh(p1 r)(h:Fh p1=some r):PCall prog 140 [(.agg (C4 p1))] (.agg [(i64 r.from_),(i64 r.to)]):=by
 refine C7 (fk func140 ntmps140 m0 (by with_unfolding_all rfl)) (nl W) ?_
 unfold Fh at h
 refine B6 (s0:=⟨T [(0,(.d _))],G []⟩) (G0 W W) ?_
 refine B3<|sm W<|sn W W<|A1<|B3<|sq W<|sl W (gq W) W (sq W<|sl W (gq W) W (sv W<|sq W<|sl W (gq W) W (sv W<|T6 W A2 [(di<|J6 (p1.S - p1.Len)),(di p1.S)] W (A1<|B7 ?_))))
 cases h
 exact A9 (.inr W) (C0 (K7 W A2 (nl W) W) C6) (.refl _)
def Ht [Lp](p1:Map)(p2:Agent):Option Bool:=
  (Fh p2).bind fun v1=>(W9 p1 p2.Route).bind fun v2=>some (decide (v1.from_>v2))
theorem Ug(p1 p2 r)(h:Ht p1 p2=some r):PCall prog 158 [(.agg (Y6 p1)),(.agg (C4 p2))] (bo r):=by
 refine C7 (fk func158 ntmps158 m0 (by with_unfolding_all rfl)) (nl W) ?_
 unfold Ht at h
 refine B6 (s0:=⟨T [(0,(.d _)),(1,(.d _))],G []⟩) (G0 W W) ?_
 refine B3<|sm W<|sn W W<|sv W<|A1<|A6<|K6 W<|sd W (C1 W A2 W W)<|bs h fun _ hv1 h=>B9 W W A3 (Eh _ _ hv1) (.inl W) (sv W<|sd W (C1 W (gq W) W W)<|sq W<|sl W A2 W<|bs h fun _ hv2 h=>B9 W W A3 (Kq _ _ _ hv2) (.inl W) (sv W<|sv W<|A1<|B7 ?_))
 cases h
 exact A9 (.inr W) (C0 (B8 W) C6) (.refl _)
def Ai [Lp](p1:Map)(p2:State)(p3:Int):Option Int:=
  (F2 p2.Agents p3).bind fun v1=>(Y2 p1 v1.Route).bind fun v2=>cond (v2 !=0) (some 13) (((cond (!(((((decide (v1.Len<300))||(decide (v1.Len>20000)))||(decide (v1.Begin<0)))||(decide (v1.Begin>1099511627776)))||(decide (v1.S<0)))) (W9 p1 v1.Route) (some default))).bind fun v3=>cond ((((((decide (v1.Len<300))||(decide (v1.Len>20000)))||(decide (v1.Begin<0)))||(decide (v1.Begin>1099511627776)))||(decide (v1.S<0)))||(decide (v1.S>(J6 ((J6 (v3+v1.Len))+2000))))) (some 2) ((Hr p1 v1).bind fun v4=>(F2 p1.Lanes v4.1).bind fun v5=>(Fx v5.Kind).bind fun v6=>cond ((decide (v1.V<0))||(decide (v1.V>v6.1))) (some 2) ((Ht p1 v1).bind fun v7=>cond ((!(v1.Gone==v7))||(((decide (v1.Begin>p2.Tick))&& (v1.S !=0))||((p3==0)&& (v1.Begin !=0)))) (some 10) (some 0))))
theorem Tu(p1 p2 p3 r)(h:Ai p1 p2 p3=some r):PCall prog 72 [(.agg (Y6 p1)),(.agg (N9 p2)),(i64 p3)] (i64 r):=by
 refine C7 (fk func72 ntmps72 m0 (by with_unfolding_all rfl)) (nl W) ?_
 unfold Ai at h
 refine B6 (s0:=⟨T [(0,(.d _)),(1,(.d _)),(2,(.d _))],G []⟩) (G0 W W) ?_
 refine B3<|sm W<|sn W W<|sv W<|A1<|B3<|sq W<|sl W A2 W<|sv W<|bs h fun v1 hv1 h=>sd W (E7 W W hv1 W)<|sd W (E6 W hv1 W W)<|sm W<|T6 W A2 (M5 v1) W (A1<|A6<|B3<|sd W (C1 W (gq W) W W)<|sq W<|sl W A2 W<|bs h fun _ hv2 h=>B9 W W A3 (Mc _ _ _ hv2) (.inl W) (sv W<|A1<|cc W h (fun c1 h=> ?_)<|fun c1 h=> ?_))
 refine B3<|sv W<|A1<|B7 ?_
 cases h
 exact A9 (.inr W) (C0 (B8 W) C6) (.refl _)
 refine B0<|A6<|A6<|K6 W<|sq W<|sl W A2 W<|sv W<|sv W<|gp W (N7 W) (fun _=>W) (gf W (vl W A2 W)<|gf W (vb W W W)<|sd W (U2 W W<|fun hc=>A5<|N2 hc)<|sv W<|gp W (N7 W) (fun _=>W) (gf W (vl W A2 W)<|gf W (vb W W W)<|sd W (U2 W W<|fun hc=>A5<|N2 hc)<|sv W<|gp W (N7 W) (fun _=>W) (gf W (vl W A2 W)<|gf W (vb W W W)<|sd W (U2 W W<|fun hc=>A5<|N2 hc)<|sv W<|gp W (N7 W) (fun _=>W) (gf W (vl W A2 W)<|gf W (vb W W W)<|sd W (U2 W W<|fun hc=>A5<|N2 hc)<|sv W<|gp W (N7 W) (fun _=>W) (gf W (vl W A2 W)<|gf W (fun _=>(C1 W (gq W) W W))<|gp W (N7 W) (fun _=>W) (gf W (vl W A2 W)<|bs h fun v3 hv3 h=> ?_))))))
 refine N8 _ (i64 v3) (N7 W) (fun w18=>⟨_,[(.d (.agg (Y6 p1))),(dl A4 v1.Route)],_,_,(by simp only [A5 w18];rfl),W,A3,Kq _ _ _<|D8 w18 hv3,(.inl W)⟩) ?_
 refine gp W (N7 W) (fun _=>W) (gf W (vl W A2 W)<|gf W (fun w21=>(R1 (A5 w21) (A5 w21) W))<|gf W (vb W W W)<|gf W (fun w23=>(R1 (A5 w23) (A5 w23) W))<|sd W (U2 W W<|fun hc=>A5<|N2 hc)<|A1<|cc W h (fun c2 h=> ?_)<|fun c2 h=> ?_)
 refine B3<|sv W<|A1<|B7 ?_
 cases h
 exact A9 (.inr W) (C0 (B8 W) C6) (.refl _)
 refine B0<|B3<|sd W (C1 W (gq W) W W)<|sd W (C1 W A2 W W)<|bs h fun _ hv4 h=>B9 W W A3 (Uf _ _ _ hv4) (.inl W) (sv W<|sv W<|sv W<|sv W<|sv W<|A1<|A6<|B3<|sq W<|sl W (gq W) W (sv W<|bs h fun _ hv5 h=>sd W (E7 W W hv5 W)<|sv W<|sd W (H8 W hv5 W)<|bs h fun _ hv6 h=>B9 W W A3 (Hl _ _ hv6) (.inl W) (sv W<|sv W<|sv W<|sv W<|sv W<|sv W<|sv W<|A1<|B3<|sq W<|sl W A2 W<|sv W<|sv W<|gp W (N7 W) (fun _=>W) (gf W (vl W A2 W)<|gf W (fun _=>W)<|gf W (fun w27=>(R1 (A5 w27) (A5 w27) W))<|sd W (U2 W W<|fun hc=>A5<|N2 hc)<|A1<|cc W h (fun c3 h=> ?_)<|fun c3 h=> ?_))))
 refine B3<|sv W<|A1<|B7 ?_
 cases h
 exact A9 (.inr W) (C0 (B8 W) C6) (.refl _)
 refine B0<|B3<|sq W<|sl W A2 W<|sq W<|sl W (gq W) W (sv W<|sv W<|gp W (M4 W) (fun _=>W) (gt W (vl W A2 W)<|gt W (vb W W W)<|sa W W W<|sv W<|gf W (fun _=>W)<|gf W (vb W W W)<|gf W (fun w33=>(bU<|A5 w33))<|P5 _ (.ptr _ _) W (Qw W) (fun _=>W) (gv W (Qw W) (vl W A2 W) (gv W (Qw W) (vb W W W) (gf W (fun w37=>(SG (A5 w37) (fun hc=>A5<|XS w37 hc) W))<|sd W (U2 W W<|fun hc=>A5<|N2 hc)<|sv W<|A1<|A6<|A6<|K6 W<|sq W<|sl W A2 W<|sd W (C1 W (gq W) W W)<|sd W (C1 W A2 W W)<|bs h fun v7 hv7 h=>B9 W W A3 (Ug _ _ _ hv7) (.inl W) (C2 (.d (bo (!(v1.Gone==v7)))) W W (sv W<|gf W (fun _=>W)<|sd W (U2 W W<|fun hc=>A5<|N2 hc)<|A1<|cc W h (fun c4 h=> ?_)<|fun c4 h=> ?_)))))))
 refine B3<|sv W<|A1<|B7 ?_
 cases h
 exact A9 (.inr W) (C0 (B8 W) C6) (.refl _)
 refine B0<|B3<|sv W<|A1<|B7 ?_
 cases h
 exact A9 (.inr W) (C0 (B8 W) C6) (.refl _)
def Kg (p1:Int):Option Bool:=
  some (p1 !=p1)
theorem Pt(p1 r)(h:Kg p1=some r):PCall prog 216 [(i64 p1)] (bo r):=by
 refine C7 (fk func216 ntmps216 m0 (by with_unfolding_all rfl)) (nl W) ?_
 unfold Kg at h
 refine B6 (s0:=⟨T [(0,(.d _))],G []⟩) (G0 W W) ?_
 refine B3<|sv W<|A1<|B3<|sv W<|sv W<|sv W<|sv W<|A1<|B7 ?_
 cases h
 exact A9 (.inr W) (C0 (B8 W) C6) (.refl _)
def Bj (p1:Int)(p2:Int):Option Int:=
  (Kg p1).bind fun v1=>(Kg p2).bind fun v2=>cond v1 (cond v2 (some 0) (some (-1))) (cond v2 (some 1) (cond (decide (p1<p2)) (some (-1)) (cond (decide (p1>p2)) (some 1) (some 0))))
theorem Du(p1 p2 r)(h:Bj p1 p2=some r):PCall prog 160 [(i64 p1),(i64 p2)] (i64 r):=by
 refine C7 (fk func160 ntmps160 m0 (by with_unfolding_all rfl)) (nl W) ?_
 unfold Bj at h
 refine B6 (s0:=⟨T [(0,(.d _)),(1,(.d _))],G []⟩) (G0 W W) ?_
 refine B3<|sv W<|A1<|B3<|sv W<|bs h fun _ hv1 h=>B9 W W A3 (Pt _ _ hv1) (.inl W) (sv W<|A1<|B3<|sv W<|bs h fun _ hv2 h=>B9 W W A3 (Pt _ _ hv2) (.inl W) (sv W<|A1<|A6<|B3<|sv W<|A1<|cc W h (fun c1 h=> ?_)<|fun c1 h=> ?_))
 refine A6<|B3<|sv W<|A1<|cc W h (fun c2 h=> ?_)<|fun c2 h=> ?_
 refine B3<|sv W<|A1<|B7 ?_
 cases h
 exact A9 (.inr W) (C0 (B8 W) C6) (.refl _)
 refine B0<|B3<|sv W<|A1<|B7 ?_
 cases h
 exact A9 (.inr W) (C0 (B8 W) C6) (.refl _)
 refine B0<|A6<|B3<|sv W<|A1<|cc W h (fun c3 h=> ?_)<|fun c3 h=> ?_
 refine B3<|sv W<|A1<|B7 ?_
 cases h
 exact A9 (.inr W) (C0 (B8 W) C6) (.refl _)
 refine B0<|A6<|B3<|sv W<|sv W<|sv W<|A1<|cc W h (fun c4 h=> ?_)<|fun c4 h=> ?_
 refine B3<|sv W<|A1<|B7 ?_
 cases h
 exact A9 (.inr W) (C0 (B8 W) C6) (.refl _)
 refine B0<|A6<|B3<|sv W<|sv W<|sv W<|A1<|cc W h (fun c5 h=> ?_)<|fun c5 h=> ?_
 refine B3<|sv W<|A1<|B7 ?_
 cases h
 exact A9 (.inr W) (C0 (B8 W) C6) (.refl _)
 refine B0<|B3<|sv W<|A1<|B7 ?_
 cases h
 exact A9 (.inr W) (C0 (B8 W) C6) (.refl _)
def Pb (p1:(List Int))(x1:Int):Option (Stp Int (Sum Unit Int)):=
  cond (decide (x1< (p1.length:Int))) ((F2 p1 x1).bind fun v1=>cond (v1 !=0) (some (.out (.inr v1))) (some (.go (J6 (x1+1))))) (some (.out (.inl ())))
def Fi [Lp](p1:(List Int)):Option Int:=
  thenS (loop (Pb p1) 0) (fun _=>some 0) (fun r=>some r)
theorem Pc(p1 r)(h:Fi p1=some r):PCall prog 159 [(.list (List.map A4 p1))] (i64 r):=by
 refine C7 (fk func159 ntmps159 m0 (by with_unfolding_all rfl)) (nl W) ?_
 unfold Fi at h
 refine B6 (s0:=⟨T [(0,(.d _))],G []⟩) (G0 W W) ?_
 refine B3<|sv W<|A1<|B3<|sv W<|A1<|A6<|B3<|sv W<|sd W (E3 W)<|sv W<|A1<|js h fun z1 hz1 h=>D3 (fun s=> ∃(y1:Unit) (g1:Unit),z1= .inl y1∧Sb ⟨T [(3,(di 0))],G []⟩ s) ?_ ?_
 refine A7<|D7 (Pb p1) (fun (x1:Int) (g2:Unit)=>⟨T [(3,(di 0)),(6,(dl A4 p1)),(7,(di (p1.length:Int))),(8,(di x1))],G []⟩) 0 () _ hz1 (G0 W W) ?_
 intro x1 g2 z2 hz2 ez2
 unfold Pb at hz2
 refine B3<|sv W<|A1<|A6<|cc W hz2 (fun c1 hz2=> ?_)<|fun c1 hz2=> ?_
 refine B0<|A6<|A7<|B3<|bs hz2 fun _ hv1 hz2=>sd W (E7 W W hv1 W)<|sd W (H8 W hv1 W)<|sv W<|A1<|B3<|sv W<|sv W<|sv W<|A1<|cc W hz2 (fun c2 hz2=> ?_)<|fun c2 hz2=> ?_
 refine B3<|sv W<|sv W<|A1<|B7 ?_
 cases hz2
 obtain rfl:=ez2 _ rfl
 refine ⟨nofun,G4 ?_⟩
 rw [bI]at h
 cases h
 exact A9 (.inr W) (C0 (B8 W) C6) (.refl _)
 refine B0<|E5<|C3<|sv W<|sv W<|A1<|E0 ?_
 cases hz2
 exact ⟨W,(),(G0 W W)⟩
 refine D1 W ?_
 cases hz2
 obtain rfl:=ez2 _ rfl
 refine ⟨nofun,C5 W<|U6 ?_⟩
 exact ⟨_,(),W,(G0 W W)⟩
 rintro _ ⟨y1,g1,rfl,q1⟩
 rw [bH]at h
 refine B6 q1<|B3<|sv W<|sv W<|A1<|B7 ?_
 cases h
 exact A9 (.inr W) (C0 (B8 W) C6) (.refl _)
def Do [Lp](p1:Stay)(p2:Stay):Option Int:=
  (Bj p1.Agent_ p2.Agent_).bind fun v1=>(Bj p1.Zone_ p2.Zone_).bind fun v2=>(Fi [v1,v2]).bind fun v3=>some v3
theorem Ni(p1 p2 r)(h:Do p1 p2=some r):PCall prog 73 [(.agg (F8 p1)),(.agg (F8 p2))] (i64 r):=by
 refine C7 (fk func73 ntmps73 (fun r=>if r==1 then [1010]else []) (by with_unfolding_all rfl)) (nl W) ?_
 unfold Do at h
 refine B6 (s0:=⟨T [(0,(.d _)),(1,(.d _))],G []⟩) (G0 W W) ?_
 refine B3<|sm W<|sn W W<|sv W<|A1<|A6<|K6 W<|sq W<|sl W (gq W) W (sq W<|sl W A2 W<|bs h fun v1 hv1 h=>B9 W W A3 (Du _ _ _ hv1) (.inl W) (sq W<|sl W (gq W) W (sq W<|sl W A2 W<|bs h fun v2 hv2 h=>B9 W W A3 (Du _ _ _ hv2) (.inl W) (C2 (dl A4 [v1,v2]) W W (bs h fun _ hv3 h=>B9 W W A3 (Pc _ _ hv3) (.inl W) (sv W<|A1<|B7 ?_))))))
 cases h
 exact A9 (.inr W) (C0 (B8 W) C6) (.refl _)
def Lg (p1:Stay)(p2:State):Option Bool:=
  some ((((decide (p1.Since<0))||(decide (p1.Since>p2.Tick)))||(decide (p1.Rank<0)))||(decide (p1.Rank>100)))
theorem Uy(p1 p2 r)(h:Lg p1 p2=some r):PCall prog 75 [(.agg (F8 p1)),(.bp (N9 p2) 0)] (bo r):=by
 refine C7 (fk func75 ntmps75 m0 (by with_unfolding_all rfl)) (nl W) ?_
 unfold Lg at h
 refine B6 (s0:=⟨T [(0,(.d _)),(1,(.d _))],G []⟩) (G0 W W) ?_
 refine B3<|sm W<|sv W<|A1<|B3<|sq W<|sl W A2 W<|sv W<|sv W<|gp W (N7 W) (fun _=>W) (gf W (vl W A2 W)<|gf W (fun _=>W) ?_)
 refine gf W (fun w4=>(by simp only [A5 w4];rfl)) ?_
 refine gf W (fun w5=>(R1 (A5 w5) (A5 w5) W))<|sd W (U2 W W<|fun hc=>A5<|N2 hc)<|sv W<|gp W (N7 W) (fun _=>W) (gf W (vl W A2 W)<|gf W (vb W W W)<|sd W (U2 W W<|fun hc=>A5<|N2 hc)<|sv W<|gp W (N7 W) (fun _=>W) (gf W (vl W A2 W)<|gf W (vb W W W)<|sd W (U2 W W<|fun hc=>A5<|N2 hc)<|sv W<|A1<|B7 ?_))
 cases h
 exact A9 (.inr W) (C0 (B8 W) C6) (.refl _)
def P8 (p1:(List Stay))(p2:State)(x1:Int):Option (Stp Int (Sum Unit Int)):=
  cond (decide (x1< (p1.length:Int))) ((F2 p1 x1).bind fun v1=>(Lg v1 p2).bind fun v2=>cond v2 (some (.out (.inr x1))) (some (.go (J6 (x1+1))))) (some (.out (.inl ())))
def J8 [Lp](p1:(List Stay))(p2:State):Option Int:=
  thenS (loop (P8 p1 p2) 0) (fun _=>some (-1)) (fun r=>some r)
theorem Da(p1 p2 r)(h:J8 p1 p2=some r):PCall prog 161 [(.list (List.map F8 p1)),(.fn (.func 75) [] [(.bp (N9 p2) 0)])] (i64 r):=by
 refine C7 (fk func161 ntmps161 m0 (by with_unfolding_all rfl)) (nl W) ?_
 unfold J8 at h
 refine B6 (s0:=⟨T [(0,(.d _)),(1,(.d _))],G []⟩) (G0 W W) ?_
 refine B3<|sv W<|A1<|A6<|B3<|sv W<|sd W (E3 W)<|sv W<|A1<|js h fun z1 hz1 h=>D3 (fun s=> ∃(y1:Unit) (g1:Unit),z1= .inl y1∧Sb ⟨T [],G []⟩ s) ?_ ?_
 refine A7<|D7 (P8 p1 p2) (fun (x1:Int) (g2:Unit)=>⟨T [(0,(dl F8 p1)),(1,(.d (.fn (.func 75) [] [(.bp (N9 p2) 0)]))),(7,(di (p1.length:Int))),(8,(di x1))],G []⟩) 0 () _ hz1 (G0 W W) ?_
 intro x1 g2 z2 hz2 ez2
 unfold P8 at hz2
 refine B3<|sv W<|A1<|A6<|cc W hz2 (fun c1 hz2=> ?_)<|fun c1 hz2=> ?_
 refine B0<|A6<|A7<|B3<|sv W<|sv W<|A1<|B3<|sv W<|sv W<|sv W<|bs hz2 fun _ hv1 hz2=>sd W (E7 W W hv1 W)<|sd W (E6 W hv1 W W)<|bs hz2 fun _ hv2 hz2=>B9 W W A3 (Uy _ _ _ hv2) (.inl W) (A1<|cc W hz2 (fun c2 hz2=> ?_)<|fun c2 hz2=> ?_)
 refine B3<|sv W<|sv W<|A1<|B7 ?_
 cases hz2
 obtain rfl:=ez2 _ rfl
 refine ⟨nofun,G4 ?_⟩
 rw [bI]at h
 cases h
 exact A9 (.inr W) (C0 (B8 W) C6) (.refl _)
 refine B0<|E5<|C3<|sv W<|sv W<|A1<|E0 ?_
 cases hz2
 exact ⟨W,(),(G0 W W)⟩
 refine D1 W ?_
 cases hz2
 obtain rfl:=ez2 _ rfl
 refine ⟨nofun,C5 W<|U6 ?_⟩
 exact ⟨_,(),W,(G0 W W)⟩
 rintro _ ⟨y1,g1,rfl,q1⟩
 rw [bH]at h
 refine B6 q1<|B3<|sv W<|A1<|B7 ?_
 cases h
 exact A9 (.inr W) (C0 (B8 W) C6) (.refl _)
def I8 [Lp](p1:(List Stay))(p2:State):Option Bool:=
  (J8 p1 p2).bind fun v1=>some (decide (v1≥0))
theorem By(p1 p2 r)(h:I8 p1 p2=some r):PCall prog 74 [(.list (List.map F8 p1)),(.fn (.func 75) [] [(.bp (N9 p2) 0)])] (bo r):=by
 refine C7 (fk func74 ntmps74 m0 (by with_unfolding_all rfl)) (nl W) ?_
 unfold I8 at h
 refine B6 (s0:=⟨T [(0,(.d _)),(1,(.d _))],G []⟩) (G0 W W) ?_
 refine B3<|sv W<|A1<|B3<|sv W<|sv W<|bs h fun _ hv1 h=>B9 W W A3 (Da _ _ _ hv1) (.inl W) (sv W<|sv W<|A1<|B7 ?_)
 cases h
 exact A9 (.inr W) (C0 (B8 W) C6) (.refl _)
def Db [Lp](p1:Map)(p2:State)(x2:Int):Option (Stp Int (Sum Unit Int)):=
  cond (decide (x2< (p2.In.length:Int))) ((F2 p2.In x2).bind fun v3=>((cond ((!((((decide (v3.Agent_<0))||(decide (v3.Agent_≥(p2.Agents.length:Int))))||(decide (v3.Zone_<0)))||(decide (v3.Zone_≥(p1.Zones.length:Int)))))&& (decide (x2>0))) (F2 p2.In (J6 (x2 - 1))) (some default))).bind fun v4=>((cond ((!((((decide (v3.Agent_<0))||(decide (v3.Agent_≥(p2.Agents.length:Int))))||(decide (v3.Zone_<0)))||(decide (v3.Zone_≥(p1.Zones.length:Int)))))&& (decide (x2>0))) (Do v4 v3) (some default))).bind fun v5=>cond (((((decide (v3.Agent_<0))||(decide (v3.Agent_≥(p2.Agents.length:Int))))||(decide (v3.Zone_<0)))||(decide (v3.Zone_≥(p1.Zones.length:Int))))||((decide (x2>0))&& (decide (v5≥0)))) (some (.out (.inr 11))) (some (.go (J6 (x2+1))))) (some (.out (.inl ())))
def Dc [Lp](p1:Map)(p2:State)(x1:Int):Option (Stp Int (Sum Unit Int)):=
  cond (decide (x1< (p2.Agents.length:Int))) ((Ai p1 p2 x1).bind fun v2=>cond (v2 !=0) (some (.out (.inr v2))) (some (.go (J6 (x1+1))))) (some (.out (.inl ())))
def Dp [Lp](p1:Map)(p2:State):Option Int:=
  (Dn p1).bind fun v1=>cond (v1 !=0) (some v1) (cond ((decide (p2.Tick<0))||(decide (p2.Tick>1099511627776))) (some 2) (cond ((p2.Agents.length:Int)==0) (some 6) (cond (decide ((p2.Agents.length:Int)>8)) (some 8) (thenS (loop (Dc p1 p2) 0) (fun _=>thenS (loop (Db p1 p2) 0) (fun _=>(I8 p2.In p2).bind fun v6=>cond v6 (some 2) (some 0)) (fun r=>some r)) (fun r=>some r)))))
theorem Nj(p1 p2 r)(h:Dp p1 p2=some r):PCall prog 24 [(.agg (Y6 p1)),(.agg (N9 p2))] (i64 r):=by
 refine C7 (fk func24 ntmps24 m0 (by with_unfolding_all rfl)) (nl W) ?_
 unfold Dp at h
 refine B6 (s0:=⟨T [(0,(.d _)),(1,(.d _))],G []⟩) (G0 W W) ?_
 refine lr<|fun u1 _=>sm W<|sm W<|sv W<|A1<|A6<|B3<|sd W (C1 W (gq W) W W)<|bs h fun _ hv1 h=>B9 W W A3 (Nh _ _ hv1) (.inl W) (sv W<|A1<|B3<|sv W<|sv W<|A1<|cc W h (fun c1 h=> ?_)<|fun c1 h=> ?_)
 refine B3<|sv W<|sv W<|A1<|B7 ?_
 cases h
 exact A9 (.inr W) (C0 (B8 W) C6) (.refl _)
 refine B0<|A6<|B3<|sq W<|sl W A2 W<|sd W (E3 W)<|sv W<|A1<|A7<|B3<|sq W<|sl W A2 W<|sv W<|sv W<|gp W (N7 W) (fun _=>W) (gf W (vl W A2 W)<|gf W (vb W W W)<|sd W (U2 W W<|fun hc=>A5<|N2 hc)<|sv W<|A1<|cc W h (fun c2 h=> ?_)<|fun c2 h=> ?_)
 refine B3<|sv W<|A1<|B7 ?_
 cases h
 exact A9 (.inr W) (C0 (B8 W) C6) (.refl _)
 refine B3<|sv W<|sv W<|sv W<|A1<|cc W h (fun c3 h=> ?_)<|fun c3 h=> ?_
 refine B3<|sv W<|A1<|B7 ?_
 cases h
 exact A9 (.inr W) (C0 (B8 W) C6) (.refl _)
 refine B3<|sv W<|sv W<|sv W<|A1<|cc W h (fun c4 h=> ?_)<|fun c4 h=> ?_
 refine B3<|sv W<|A1<|B7 ?_
 cases h
 exact A9 (.inr W) (C0 (B8 W) C6) (.refl _)
 refine B0<|E5<|A6<|B3<|sq W<|sl W A2 W<|sd W (E3 W)<|sv W<|A1<|js h fun z1 hz1 h=>D3 (fun s=> ∃(y1:Unit) (g1:Unit),z1= .inl y1∧Sb ⟨T [(2,(.ptr (2,u1) 0)),(3,(.ptr (3,u1) 0))],G [((2,u1),some<|.box 33 (Q9 p1)),((3,u1),some<|.box 25 (E1 p2))]⟩ s) ?_ ?_
 refine A7<|D7 (Dc p1 p2) (fun (x1:Int) (g2:Unit)=>⟨T [(2,(.ptr (2,u1) 0)),(3,(.ptr (3,u1) 0)),(36,(di (p2.Agents.length:Int))),(37,(di x1))],G [((2,u1),some<|.box 33 (Q9 p1)),((3,u1),some<|.box 25 (E1 p2))]⟩) 0 () _ hz1 (G0 W W) ?_
 intro x1 g2 z2 hz2 ez2
 unfold Dc at hz2
 refine B3<|sv W<|A1<|A6<|cc W hz2 (fun c5 hz2=> ?_)<|fun c5 hz2=> ?_
 refine B0<|A6<|A7<|B3<|sv W<|sv W<|A1<|B3<|sd W (C1 W A2 W W)<|sd W (C1 W (gq W) W W)<|sv W<|bs hz2 fun _ hv2 hz2=>B9 W W A3 (Tu _ _ _ _ hv2) (.inl W) (sv W<|A1<|B3<|sv W<|sv W<|A1<|cc W hz2 (fun c6 hz2=> ?_)<|fun c6 hz2=> ?_)
 refine B3<|sv W<|sv W<|A1<|B7 ?_
 cases hz2
 obtain rfl:=ez2 _ rfl
 refine ⟨nofun,G4 ?_⟩
 rw [bI]at h
 cases h
 exact A9 (.inr W) (C0 (B8 W) C6) (.refl _)
 refine B0<|E5<|C3<|sv W<|sv W<|A1<|E0 ?_
 cases hz2
 exact ⟨W,(),(G0 W W)⟩
 refine D1 W ?_
 cases hz2
 obtain rfl:=ez2 _ rfl
 refine ⟨nofun,C5 W<|U6 ?_⟩
 exact ⟨_,(),W,(G0 W W)⟩
 rintro _ ⟨y1,g1,rfl,q1⟩
 rw [bH]at h
 refine B6 q1<|A6<|B3<|sq W<|sl W (gq W) W (sd W (E3 W)<|sv W<|A1<|js h fun z3 hz3 h=>D3 (fun s=> ∃(y2:Unit) (g3:Unit),z3= .inl y2∧Sb ⟨T [(3,(.ptr (3,u1) 0))],G [((3,u1),some<|.box 25 (E1 p2))]⟩ s) ?_ ?_)
 refine A7<|D7 (Db p1 p2) (fun (x2:Int) (g4:Unit)=>⟨T [(2,(.ptr (2,u1) 0)),(3,(.ptr (3,u1) 0)),(49,(dl F8 p2.In)),(50,(di (p2.In.length:Int))),(51,(di x2))],G [((2,u1),some<|.box 33 (Q9 p1)),((3,u1),some<|.box 25 (E1 p2))]⟩) 0 () _ hz3 (G0 W W) ?_
 intro x2 g4 z4 hz4 ez4
 unfold Db at hz4
 refine B3<|sv W<|A1<|A6<|cc W hz4 (fun c7 hz4=> ?_)<|fun c7 hz4=> ?_
 refine B0<|A6<|A7<|B3<|sv W<|bs hz4 fun v3 hv3 hz4=>sd W (E7 W W hv3 W)<|sd W (E6 W hv3 W W)<|sm W<|sv W<|T6 W A2 (Si v3) W (A1<|A6<|K6 W<|sq W<|sl W A2 W<|sv W<|sv W<|gp W (N7 W) (fun _=>W) (gf W (vl W A2 W)<|gp W (N7 W) (fun _=>W) (gf W (vl W (gq W) W)<|gf W (fun w8=>(E3<|A5 w8))<|gf W (fun w9=>(R1 (A5 w9) (A5 w9) W))<|sd W (U2 W W<|fun hc=>A5<|N2 hc)<|sv W<|gp W (N7 W) (fun _=>W) (gf W (vl W A2 W)<|gf W (vb W W W)<|sd W (U2 W W<|fun hc=>A5<|N2 hc)<|sv W<|gp W (N7 W) (fun _=>W) (gf W (vl W A2 W)<|gp W (N7 W) (fun _=>W) (gf W (vl W (gq W) W)<|gf W (fun w17=>(E3<|A5 w17))<|gf W (fun w18=>(R1 (A5 w18) (A5 w18) W))<|sd W (U2 W W<|fun hc=>A5<|N2 hc)<|sv W<|gf W (fun _=>W)<|gf W (vb W W W)<|gf W (fun w21=>(bU<|A5 w21))<|P5 _ (.ptr _ _) W (Qw W) (fun _=>W) (gv W (Qw W) (vl W (gq W) W) (gv W (Qw W) (fun _=>W) (gv W (Qw W) (vb W W W) (bs hz4 fun v4 hv4 hz4=>gv W (Qw W) (fun w26=>(E7 (A5 w26) (A5 w26) (D8 w26 hv4) W)) (gv W (Qw W) (fun w27=>(E6 (A5 w27) (D8 w27 hv4) W W)) (gv W (Qw W) (fun _=>(C1 W A2 W W)) (bs hz4 fun v5 hv5 hz4=> ?_)))))))))))))
 refine N8 _ (i64 v5) (Qw W) (fun w29=>⟨_,[(.d (.agg (F8 v4))),(.d (.agg (F8 v3)))],_,_,(by simp only [A5 w29];rfl),W,A3,Ni _ _ _<|D8 w29 hv5,(.inl W)⟩) ?_
 refine gv W (Qw W) (vb W W W) (gf W (fun w31=>(SG (A5 w31) (fun hc=>A5<|XS w31 hc) W))<|sd W (U2 W W<|fun hc=>A5<|N2 hc)<|A1<|cc W hz4 (fun c8 hz4=> ?_)<|fun c8 hz4=> ?_)
 refine B3<|sv W<|A1<|B7 ?_
 cases hz4
 obtain rfl:=ez4 _ rfl
 refine ⟨nofun,G4 ?_⟩
 rw [bI]at h
 cases h
 exact A9 (.inr W) (C0 (B8 W) C6) (.refl _)
 refine B0<|E5<|C3<|sv W<|sv W<|A1<|E0 ?_
 cases hz4
 exact ⟨W,(),(G0 W W)⟩
 refine D1 W ?_
 cases hz4
 obtain rfl:=ez4 _ rfl
 refine ⟨nofun,C5 W<|U6 ?_⟩
 exact ⟨_,(),W,(G0 W W)⟩
 rintro _ ⟨y2,g3,rfl,q2⟩
 rw [bH]at h
 refine B6 q2<|A6<|B3<|sq W<|sl W A2 W<|C2 (.fn _ _ _) W W (bs h fun _ hv6 h=>B9 W (rD<|D4 (Tz E4<|D4 (Y0 A2<|rD<|rD<|rD E4) E4) E4) A3 (By _ _ _ hv6) (.inr W) (A1<|cc W h (fun c9 h=> ?_)<|fun c9 h=> ?_))
 refine B3<|sv W<|A1<|B7 ?_
 cases h
 exact A9 (.inr W) (C0 (B8 W) C6) (.refl _)
 refine B0<|B3<|sv W<|A1<|B7 ?_
 cases h
 exact A9 (.inr W) (C0 (B8 W) C6) (.refl _)
def Sq (p1:Agent):Option Bool:=
  some p1.Gone
theorem AX(p1 r)(h:Sq p1=some r):PCall prog 79 [(.agg (C4 p1))] (bo r):=by
 refine C7 (fk func79 ntmps79 m0 (by with_unfolding_all rfl)) (nl W) ?_
 unfold Sq at h
 refine B6 (s0:=⟨T [(0,(.d _))],G []⟩) (G0 W W) ?_
 refine B3<|sm W<|sv W<|A1<|B3<|sq W<|sl W A2 W<|sv W<|A1<|B7 ?_
 cases h
 exact A9 (.inr W) (C0 (B8 W) C6) (.refl _)
def Q0 (p1:(List Agent))(x1:Int):Option (Stp Int (Sum Unit Int)):=
  cond (decide (x1< (p1.length:Int))) ((F2 p1 x1).bind fun v1=>(Sq v1).bind fun v2=>cond v2 (some (.out (.inr x1))) (some (.go (J6 (x1+1))))) (some (.out (.inl ())))
def K2 [Lp](p1:(List Agent)):Option Int:=
  thenS (loop (Q0 p1) 0) (fun _=>some (-1)) (fun r=>some r)
theorem Dj(p1 r)(h:K2 p1=some r):PCall prog 170 [(.list (List.map C4 p1)),(.fn (.func 79) [] [])] (i64 r):=by
 refine C7 (fk func170 ntmps170 m0 (by with_unfolding_all rfl)) (nl W) ?_
 unfold K2 at h
 refine B6 (s0:=⟨T [(0,(.d _)),(1,(.d _))],G []⟩) (G0 W W) ?_
 refine B3<|sv W<|A1<|A6<|B3<|sv W<|sd W (E3 W)<|sv W<|A1<|js h fun z1 hz1 h=>D3 (fun s=> ∃(y1:Unit) (g1:Unit),z1= .inl y1∧Sb ⟨T [],G []⟩ s) ?_ ?_
 refine A7<|D7 (Q0 p1) (fun (x1:Int) (g2:Unit)=>⟨T [(0,(dl C4 p1)),(1,(.d (.fn (.func 79) [] []))),(7,(di (p1.length:Int))),(8,(di x1))],G []⟩) 0 () _ hz1 (G0 W W) ?_
 intro x1 g2 z2 hz2 ez2
 unfold Q0 at hz2
 refine B3<|sv W<|A1<|A6<|cc W hz2 (fun c1 hz2=> ?_)<|fun c1 hz2=> ?_
 refine B0<|A6<|A7<|B3<|sv W<|sv W<|A1<|B3<|sv W<|sv W<|sv W<|bs hz2 fun _ hv1 hz2=>sd W (E7 W W hv1 W)<|sd W (E6 W hv1 W W)<|bs hz2 fun _ hv2 hz2=>B9 W W A3 (AX _ _ hv2) (.inl W) (A1<|cc W hz2 (fun c2 hz2=> ?_)<|fun c2 hz2=> ?_)
 refine B3<|sv W<|sv W<|A1<|B7 ?_
 cases hz2
 obtain rfl:=ez2 _ rfl
 refine ⟨nofun,G4 ?_⟩
 rw [bI]at h
 cases h
 exact A9 (.inr W) (C0 (B8 W) C6) (.refl _)
 refine B0<|E5<|C3<|sv W<|sv W<|A1<|E0 ?_
 cases hz2
 exact ⟨W,(),(G0 W W)⟩
 refine D1 W ?_
 cases hz2
 obtain rfl:=ez2 _ rfl
 refine ⟨nofun,C5 W<|U6 ?_⟩
 exact ⟨_,(),W,(G0 W W)⟩
 rintro _ ⟨y1,g1,rfl,q1⟩
 rw [bH]at h
 refine B6 q1<|B3<|sv W<|A1<|B7 ?_
 cases h
 exact A9 (.inr W) (C0 (B8 W) C6) (.refl _)
def J1 [Lp](p1:(List Agent)):Option Bool:=
  (K2 p1).bind fun v1=>some (decide (v1≥0))
theorem Cj(p1 r)(h:J1 p1=some r):PCall prog 78 [(.list (List.map C4 p1)),(.fn (.func 79) [] [])] (bo r):=by
 refine C7 (fk func78 ntmps78 m0 (by with_unfolding_all rfl)) (nl W) ?_
 unfold J1 at h
 refine B6 (s0:=⟨T [(0,(.d _)),(1,(.d _))],G []⟩) (G0 W W) ?_
 refine B3<|sv W<|A1<|B3<|sv W<|sv W<|bs h fun _ hv1 h=>B9 W W A3 (Dj _ _ hv1) (.inl W) (sv W<|sv W<|A1<|B7 ?_)
 cases h
 exact A9 (.inr W) (C0 (B8 W) C6) (.refl _)
def Ii (p1:State)(p2:Int):Option Bool:=
  ((cond ((decide (p2≥0))&& (decide (p2< (p1.Agents.length:Int)))) (F2 p1.Agents p2) (some default))).bind fun v1=>((cond (((decide (p2≥0))&& (decide (p2< (p1.Agents.length:Int))))&& (!v1.Gone)) (F2 p1.Agents p2) (some default))).bind fun v2=>some ((((decide (p2≥0))&& (decide (p2< (p1.Agents.length:Int))))&& (!v1.Gone))&& (decide (v2.Begin≤p1.Tick)))
theorem Ix(p1 p2 r)(h:Ii p1 p2=some r):PCall prog 36 [(.agg (N9 p1)),(i64 p2)] (bo r):=by
 refine C7 (fk func36 ntmps36 m0 (by with_unfolding_all rfl)) (nl W) ?_
 unfold Ii at h
 refine B6 (s0:=⟨T [(0,(.d _)),(1,(.d _))],G []⟩) (G0 W W) ?_
 refine B3<|sm W<|sv W<|A1<|A6<|K6 W<|sv W<|sv W<|sv W<|gt W (fun _=>W)<|gp W (M4 W) (fun _=>W) (gt W (vl W A2 W)<|gt W (fun w4=>(E3<|A5 w4))<|gt W (fun w5=>(R1 (A5 w5) (A5 w5) W))<|sa W W W<|sv W<|gp W (M4 W) (fun _=>W) (gt W (vl W A2 W)<|gt W (fun _=>W)<|bs h fun v1 hv1 h=>gt W (fun w9=>(E7 (A5 w9) (A5 w9) (D8 w9 hv1) W)) ?_))
 refine gt W (fun w10=>(by simp only [A5 w10];rfl)) ?_
 refine gt W (fun w11=>(H8 (A5 w11) (D8 w11 hv1) W)) ?_
 refine P5 _ (.d (bo (!v1.Gone))) W (M4 W) (fun w12=>(by simp only [A5 w12];rfl)) ?_
 refine sa W W W<|sv W<|gp W (M4 W) (fun _=>W) (gt W (vl W A2 W)<|gt W (fun _=>W)<|bs h fun _ hv2 h=>gt W (fun w16=>(E7 (A5 w16) (A5 w16) (D8 w16 hv2) W)) ?_)
 refine gt W (fun w17=>(by simp only [A5 w17];rfl)) ?_
 refine gt W (fun w18=>(H8 (A5 w18) (D8 w18 hv2) W))<|gp W (M4 W) (fun _=>W) (gt W (vl W A2 W)<|gt W (fun w21=>(R1 (A5 w21) (A5 w21) W))<|sa W W W<|sv W<|A1<|B7 ?_)
 cases h
 exact A9 (.inr W) (C0 (B8 W) C6) (.refl _)
def Nk (p1:Agent):Option Bool:=
  some ((((decide (p1.S≥0))&& (decide (p1.S≤1099511627776)))&& (decide (p1.Len≥0)))&& (decide (p1.Len≤1099511627776)))
theorem Pd(p1 r)(h:Nk p1=some r):PCall prog 138 [(.agg (C4 p1))] (bo r):=by
 refine C7 (fk func138 ntmps138 m0 (by with_unfolding_all rfl)) (nl W) ?_
 unfold Nk at h
 refine B6 (s0:=⟨T [(0,(.d _))],G []⟩) (G0 W W) ?_
 refine B3<|sm W<|sv W<|A1<|B3<|sq W<|sl W A2 W<|sv W<|sv W<|gp W (M4 W) (fun _=>W) (gt W (vl W A2 W)<|gt W (vb W W W)<|sa W W W<|sv W<|gp W (M4 W) (fun _=>W) (gt W (vl W A2 W)<|gt W (vb W W W)<|sa W W W<|sv W<|gp W (M4 W) (fun _=>W) (gt W (vl W A2 W)<|gt W (vb W W W)<|sa W W W<|sv W<|A1<|B7 ?_)))
 cases h
 exact A9 (.inr W) (C0 (B8 W) C6) (.refl _)
def Bk (p1:Int):Option Bool:=
  some (p1 !=p1)
theorem Dv(p1 r)(h:Bk p1=some r):PCall prog 255 [(i64 p1)] (bo r):=by
 refine C7 (fk func255 ntmps255 m0 (by with_unfolding_all rfl)) (nl W) ?_
 unfold Bk at h
 refine B6 (s0:=⟨T [(0,(.d _))],G []⟩) (G0 W W) ?_
 refine B3<|sv W<|A1<|B3<|sv W<|sv W<|sv W<|sv W<|A1<|B7 ?_
 cases h
 exact A9 (.inr W) (C0 (B8 W) C6) (.refl _)
def Ez (p1:Int)(p2:Int):Option Int:=
  (Bk p1).bind fun v1=>(Bk p2).bind fun v2=>cond v1 (cond v2 (some 0) (some (-1))) (cond v2 (some 1) (cond (decide (p1<p2)) (some (-1)) (cond (decide (p1>p2)) (some 1) (some 0))))
theorem Kr(p1 p2 r)(h:Ez p1 p2=some r):PCall prog 229 [(i64 p1),(i64 p2)] (i64 r):=by
 refine C7 (fk func229 ntmps229 m0 (by with_unfolding_all rfl)) (nl W) ?_
 unfold Ez at h
 refine B6 (s0:=⟨T [(0,(.d _)),(1,(.d _))],G []⟩) (G0 W W) ?_
 refine B3<|sv W<|A1<|B3<|sv W<|bs h fun _ hv1 h=>B9 W W A3 (Dv _ _ hv1) (.inl W) (sv W<|A1<|B3<|sv W<|bs h fun _ hv2 h=>B9 W W A3 (Dv _ _ hv2) (.inl W) (sv W<|A1<|A6<|B3<|sv W<|A1<|cc W h (fun c1 h=> ?_)<|fun c1 h=> ?_))
 refine A6<|B3<|sv W<|A1<|cc W h (fun c2 h=> ?_)<|fun c2 h=> ?_
 refine B3<|sv W<|A1<|B7 ?_
 cases h
 exact A9 (.inr W) (C0 (B8 W) C6) (.refl _)
 refine B0<|B3<|sv W<|A1<|B7 ?_
 cases h
 exact A9 (.inr W) (C0 (B8 W) C6) (.refl _)
 refine B0<|A6<|B3<|sv W<|A1<|cc W h (fun c3 h=> ?_)<|fun c3 h=> ?_
 refine B3<|sv W<|A1<|B7 ?_
 cases h
 exact A9 (.inr W) (C0 (B8 W) C6) (.refl _)
 refine B0<|A6<|B3<|sv W<|sv W<|sv W<|A1<|cc W h (fun c4 h=> ?_)<|fun c4 h=> ?_
 refine B3<|sv W<|A1<|B7 ?_
 cases h
 exact A9 (.inr W) (C0 (B8 W) C6) (.refl _)
 refine B0<|A6<|B3<|sv W<|sv W<|sv W<|A1<|cc W h (fun c5 h=> ?_)<|fun c5 h=> ?_
 refine B3<|sv W<|A1<|B7 ?_
 cases h
 exact A9 (.inr W) (C0 (B8 W) C6) (.refl _)
 refine B0<|B3<|sv W<|A1<|B7 ?_
 cases h
 exact A9 (.inr W) (C0 (B8 W) C6) (.refl _)
def Dd [Lp](p1:Pass)(p2:Pass):Option Int:=
  (Ez p1.From p2.From).bind fun v1=>(Bj p1.Zone_ p2.Zone_).bind fun v2=>(Fi [v1,v2]).bind fun v3=>some v3
theorem Wc(p1 p2 r)(h:Dd p1 p2=some r):PCall prog 264 [(.agg (V3 p1)),(.agg (V3 p2))] (i64 r):=by
 refine C7 (fk func264 ntmps264 (fun r=>if r==1 then [1010]else []) (by with_unfolding_all rfl)) (nl W) ?_
 unfold Dd at h
 refine B6 (s0:=⟨T [(0,(.d _)),(1,(.d _))],G []⟩) (G0 W W) ?_
 refine B3<|sm W<|sn W W<|sv W<|A1<|A6<|K6 W<|sq W<|sl W (gq W) W (sq W<|sl W A2 W<|bs h fun v1 hv1 h=>B9 W W A3 (Kr _ _ _ hv1) (.inl W) (sq W<|sl W (gq W) W (sq W<|sl W A2 W<|bs h fun v2 hv2 h=>B9 W W A3 (Du _ _ _ hv2) (.inl W) (C2 (dl A4 [v1,v2]) W W (bs h fun _ hv3 h=>B9 W W A3 (Pc _ _ hv3) (.inl W) (sv W<|A1<|B7 ?_))))))
 cases h
 exact A9 (.inr W) (C0 (B8 W) C6) (.refl _)
end
end Go.Abs.World
