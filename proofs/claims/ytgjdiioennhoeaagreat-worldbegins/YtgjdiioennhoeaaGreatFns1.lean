/-
  The Go functions that WorldBegins reaches, as plain Lean functions, and the proofs that the program computes them.
-/
import Derived.Test.YtgjdiioennhoeaaGreatCoreD
import Derived.Test.YtgjdiioennhoeaaGreatProg
import Derived.KernelRfl
import Derived.IntWalk
import Derived.Shelf.SlicesE.Compact
set_option maxRecDepth 20000
set_option maxHeartbeats 4000000
set_option linter.unusedVariables false
namespace Go.Abs.World
noncomputable section
open Go Go.Abs Go.Proofs
attribute [local irreducible] M0 Kw Fb
structure Spot where
  X:Int
  Y:Int
  deriving Inhabited
structure CurveVector where
  x:Int
  y:Int
  deriving Inhabited
structure CurvePiece where
  p:Spot
  v:CurveVector
  l:Int
  start:Int
  deriving Inhabited
abbrev Ek:Spot→List D:=fun x=> [(i64 x.X),(i64 x.Y)]
structure Curve where
  Pts:(List Spot)
  deriving Inhabited
abbrev rP:Curve→List D:=fun x=> [(.list (List.map Ek x.Pts))]
structure Stay where
  Agent_:Int
  Zone_:Int
  Since:Int
  Rank:Int
  deriving Inhabited
abbrev J8:Stay→List D:=fun x=> [(i64 x.Agent_),(i64 x.Zone_),(i64 x.Since),(i64 x.Rank)]
abbrev A5:Int→List D:=fun x=> [.v (.int .i64 x)]
structure Agent where
  Route:(List Int)
  S:Int
  V:Int
  Len:Int
  Begin:Int
  Obey:Bool
  Gone:Bool
  deriving Inhabited
abbrev C9:Agent→List D:=fun x=> [(.list (List.map A5 x.Route)),(i64 x.S),(i64 x.V),(i64 x.Len),(i64 x.Begin),(bo x.Obey),(bo x.Gone)]
abbrev iG:(List Agent)→List D:=fun x=> [.list (List.map C9 x)]
abbrev YH:(List Int)→List D:=fun x=> [.list (List.map A5 x)]
abbrev qO:Bool→List D:=fun x=> [bo x]
structure State where
  Tick:Int
  Agents:(List Agent)
  In:(List Stay)
  deriving Inhabited
structure Lane where
  Kind:Int
  Curve_:Curve
  Half:Int
  Limit:Int
  Next:(List Int)
  deriving Inhabited
structure Part where
  Lane_:Int
  From:Int
  To:Int
  Rank:Int
  deriving Inhabited
structure Zone where
  Parts:(List Part)
  Signal_:Int
  deriving Inhabited
structure Phase where
  Ticks:Int
  Green:(List Int)
  deriving Inhabited
structure Signal where
  Offset:Int
  Phases:(List Phase)
  deriving Inhabited
structure Work where
  Lane_:Int
  From:Int
  To:Int
  Begin:Int
  End:Int
  Limit:Int
  deriving Inhabited
structure Map where
  Version:Int
  Lanes:(List Lane)
  Zones:(List Zone)
  Signals:(List Signal)
  Works:(List Work)
  deriving Inhabited
abbrev Io:Lane→List D:=fun x=> [(i64 x.Kind),(.list (List.map Ek x.Curve_.Pts)),(i64 x.Half),(i64 x.Limit),(.list (List.map A5 x.Next))]
abbrev Dp:Part→List D:=fun x=> [(i64 x.Lane_),(i64 x.From),(i64 x.To),(i64 x.Rank)]
abbrev Ip:Zone→List D:=fun x=> [(.list (List.map Dp x.Parts)),(i64 x.Signal_)]
abbrev Dg:Phase→List D:=fun x=> [(i64 x.Ticks),(.list (List.map A5 x.Green))]
abbrev Qf:Signal→List D:=fun x=> [(i64 x.Offset),(.list (List.map Dg x.Phases))]
abbrev Ze:Work→List D:=fun x=> [(i64 x.Lane_),(i64 x.From),(i64 x.To),(i64 x.Begin),(i64 x.End),(i64 x.Limit)]
abbrev sA:Nat→List D:=fun x=> [.fn (.func x) [] []]
structure RoadsCheck where
  Map_:Map
  deriving Inhabited
abbrev qP:(Int×Int×Int)→List D:=fun x=> [(i64 x.1),(i64 x.2.1),(i64 x.2.2)]
structure RoadsWay where
  Map_:Map
  lanes:(List Int)
  starts:(List Int)
  length:Int
  deriving Inhabited
structure WorldSpan where
  from_:Int
  to:Int
  deriving Inhabited
structure Crash where
  Tick:Int
  A:Int
  B:Int
  Lane_:Int
  Zone_:Int
  Who:(List Int)
  deriving Inhabited
structure WorldScene where
  m:Map
  before:State
  after:State
  acts:(List Int)
  crashes:(List Crash)
  deriving Inhabited
abbrev Gu:Crash→List D:=fun x=> [(i64 x.Tick),(i64 x.A),(i64 x.B),(i64 x.Lane_),(i64 x.Zone_),(.list (List.map A5 x.Who))]
structure Pass where
  Zone_:Int
  Part_:Int
  From:Int
  To:Int
  deriving Inhabited
abbrev T4:Pass→List D:=fun x=> [(i64 x.Zone_),(i64 x.Part_),(i64 x.From),(i64 x.To)]
abbrev rG:(List Stay)→List D:=fun x=> [.list (List.map J8 x)]
structure Span where
  Lane_:Int
  From:Int
  To:Int
  deriving Inhabited
abbrev Ez:Span→List D:=fun x=> [(i64 x.Lane_),(i64 x.From),(i64 x.To)]
structure Anon7 where
  x:Int
  y:Int
  signed:Bool
  code:Int
  deriving Inhabited
structure RuntimeBoundsError where
  x:Int
  y:Int
  signed:Bool
  code:Int
  deriving Inhabited
structure Anon13 where
  msg:ByteArray
  addr:Int
  deriving Inhabited
structure RuntimeErrorAddressString where
  msg:ByteArray
  addr:Int
  deriving Inhabited
structure Anon24 where
  Tick:Int
  Agents:(List Agent)
  In:(List Stay)
  deriving Inhabited
structure Anon32 where
  Version:Int
  Lanes:(List Lane)
  Zones:(List Zone)
  Signals:(List Signal)
  Works:(List Work)
  deriving Inhabited
structure Anon44 where
  Route:(List Int)
  S:Int
  V:Int
  Len:Int
  Begin:Int
  Obey:Bool
  Gone:Bool
  deriving Inhabited
structure Anon60 where
  Pts:(List Spot)
  deriving Inhabited
structure Anon62 where
  Kind:Int
  Curve_:Curve
  Half:Int
  Limit:Int
  Next:(List Int)
  deriving Inhabited
structure Anon72 where
  R:Int
  S:Int
  V:Int
  Len:Int
  Begin:Int
  Disobeys:Bool
  deriving Inhabited
structure KitActor where
  R:Int
  S:Int
  V:Int
  Len:Int
  Begin:Int
  Disobeys:Bool
  deriving Inhabited
structure Anon76 where
  Tick:Int
  A:Int
  B:Int
  Lane_:Int
  Zone_:Int
  Who:(List Int)
  deriving Inhabited
structure Anon82 where
  Stamp:Int
  Lo:Int
  Hi:Int
  deriving Inhabited
structure Mark where
  Stamp:Int
  Lo:Int
  Hi:Int
  deriving Inhabited
structure Anon92 where
  Lane_:Int
  From:Int
  To:Int
  deriving Inhabited
structure Point where
  X:Int
  Y:Int
  V:Int
  deriving Inhabited
structure Anon98 where
  Stamp:Int
  Seen:(List Span)
  Points:(List Point)
  deriving Inhabited
structure Scan where
  Stamp:Int
  Seen:(List Span)
  Points:(List Point)
  deriving Inhabited
structure Anon103 where
  X:Int
  Y:Int
  deriving Inhabited
structure Anon106 where
  X:Int
  Y:Int
  V:Int
  deriving Inhabited
structure Anon113 where
  Lane_:Int
  From:Int
  To:Int
  Rank:Int
  deriving Inhabited
structure Anon116 where
  Parts:(List Part)
  Signal_:Int
  deriving Inhabited
structure Anon119 where
  Offset:Int
  Phases:(List Phase)
  deriving Inhabited
structure Anon122 where
  Lane_:Int
  From:Int
  To:Int
  Begin:Int
  End:Int
  Limit:Int
  deriving Inhabited
structure Anon126 where
  Agent_:Int
  Zone_:Int
  Since:Int
  Rank:Int
  deriving Inhabited
structure Anon134 where
  m:Map
  before:State
  after:State
  acts:(List Int)
  crashes:(List Crash)
  deriving Inhabited
structure Anon164 where
  s:ByteArray
  bad:Bool
  deriving Inhabited
structure WorldReader where
  s:ByteArray
  bad:Bool
  deriving Inhabited
structure Anon171 where
  s:ByteArray
  bad:Bool
  deriving Inhabited
structure Ref04Reader where
  s:ByteArray
  bad:Bool
  deriving Inhabited
structure Anon190 where
  from_:Int
  to:Int
  deriving Inhabited
structure Anon207 where
  Ticks:Int
  Green:(List Int)
  deriving Inhabited
structure Anon211 where
  Map_:Map
  deriving Inhabited
structure Anon228 where
  Zone_:Int
  Part_:Int
  From:Int
  To:Int
  deriving Inhabited
structure WorldBar where
  front:Spot
  rear:Spot
  deriving Inhabited
structure Anon245 where
  m:Map
  eye:Spot
  view:Int
  bodies:(List (List Span))
  bars:(List WorldBar)
  deriving Inhabited
structure WorldLooks where
  m:Map
  eye:Spot
  view:Int
  bodies:(List (List Span))
  bars:(List WorldBar)
  deriving Inhabited
structure Anon247 where
  front:Spot
  rear:Spot
  deriving Inhabited
structure Anon252 where
  x:Int
  y:Int
  deriving Inhabited
structure Anon254 where
  p:Spot
  v:CurveVector
  l:Int
  start:Int
  deriving Inhabited
structure Anon259 where
  Map_:Map
  lanes:(List Int)
  starts:(List Int)
  length:Int
  deriving Inhabited
abbrev Sy:WorldScene→List D:=fun x=> [(i64 x.m.Version),(.list (List.map Io x.m.Lanes)),(.list (List.map Ip x.m.Zones)),(.list (List.map Qf x.m.Signals)),(.list (List.map Ze x.m.Works)),(i64 x.before.Tick),(.list (List.map C9 x.before.Agents)),(.list (List.map J8 x.before.In)),(i64 x.after.Tick),(.list (List.map C9 x.after.Agents)),(.list (List.map J8 x.after.In)),(.list (List.map A5 x.acts)),(.list (List.map Gu x.crashes))]
abbrev Ar:WorldScene→List AV:=fun x=> [(.d (i64 x.m.Version)),(.d (.list (List.map Io x.m.Lanes))),(.d (.list (List.map Ip x.m.Zones))),(.d (.list (List.map Qf x.m.Signals))),(.d (.list (List.map Ze x.m.Works))),(.d (i64 x.before.Tick)),(.d (.list (List.map C9 x.before.Agents))),(.d (.list (List.map J8 x.before.In))),(.d (i64 x.after.Tick)),(.d (.list (List.map C9 x.after.Agents))),(.d (.list (List.map J8 x.after.In))),(.d (.list (List.map A5 x.acts))),(.d (.list (List.map Gu x.crashes)))]
abbrev dA:RoadsWay→List D:=fun x=> [(i64 x.Map_.Version),(.list (List.map Io x.Map_.Lanes)),(.list (List.map Ip x.Map_.Zones)),(.list (List.map Qf x.Map_.Signals)),(.list (List.map Ze x.Map_.Works)),(.list (List.map A5 x.lanes)),(.list (List.map A5 x.starts)),(i64 x.length)]
abbrev Rl:RoadsWay→List AV:=fun x=> [(.d (i64 x.Map_.Version)),(.d (.list (List.map Io x.Map_.Lanes))),(.d (.list (List.map Ip x.Map_.Zones))),(.d (.list (List.map Qf x.Map_.Signals))),(.d (.list (List.map Ze x.Map_.Works))),(.d (.list (List.map A5 x.lanes))),(.d (.list (List.map A5 x.starts))),(.d (i64 x.length))]
abbrev X2:Agent→List AV:=fun x=> [(.d (.list (List.map A5 x.Route))),(.d (i64 x.S)),(.d (i64 x.V)),(.d (i64 x.Len)),(.d (i64 x.Begin)),(.d (bo x.Obey)),(.d (bo x.Gone))]
abbrev qQ:Work→List AV:=fun x=> [(.d (i64 x.Lane_)),(.d (i64 x.From)),(.d (i64 x.To)),(.d (i64 x.Begin)),(.d (i64 x.End)),(.d (i64 x.Limit))]
abbrev VL:CurvePiece→List D:=fun x=> [(i64 x.p.X),(i64 x.p.Y),(i64 x.v.x),(i64 x.v.y),(i64 x.l),(i64 x.start)]
abbrev VM:CurvePiece→List AV:=fun x=> [(.d (i64 x.p.X)),(.d (i64 x.p.Y)),(.d (i64 x.v.x)),(.d (i64 x.v.y)),(.d (i64 x.l)),(.d (i64 x.start))]
abbrev U5:Map→List D:=fun x=> [(i64 x.Version),(.list (List.map Io x.Lanes)),(.list (List.map Ip x.Zones)),(.list (List.map Qf x.Signals)),(.list (List.map Ze x.Works))]
abbrev M7:Map→List AV:=fun x=> [(.d (i64 x.Version)),(.d (.list (List.map Io x.Lanes))),(.d (.list (List.map Ip x.Zones))),(.d (.list (List.map Qf x.Signals))),(.d (.list (List.map Ze x.Works)))]
abbrev IJ:Lane→List AV:=fun x=> [(.d (i64 x.Kind)),(.d (.list (List.map Ek x.Curve_.Pts))),(.d (i64 x.Half)),(.d (i64 x.Limit)),(.d (.list (List.map A5 x.Next)))]
abbrev FA:Part→List AV:=fun x=> [(.d (i64 x.Lane_)),(.d (i64 x.From)),(.d (i64 x.To)),(.d (i64 x.Rank))]
abbrev BM:Stay→List AV:=fun x=> [(.d (i64 x.Agent_)),(.d (i64 x.Zone_)),(.d (i64 x.Since)),(.d (i64 x.Rank))]
abbrev Cf:State→List D:=fun x=> [(i64 x.Tick),(.list (List.map C9 x.Agents)),(.list (List.map J8 x.In))]
abbrev L0:State→List AV:=fun x=> [(.d (i64 x.Tick)),(.d (.list (List.map C9 x.Agents))),(.d (.list (List.map J8 x.In)))]
def Iy (p1:State)(x1:Int):Option (Stp Int (Sum Unit Bool)):=
  cond (decide (x1< (p1.Agents.length:Int))) ((B7 p1.Agents x1).bind fun v1=>cond (decide ((v1.Route.length:Int)>10)) (some (.out (.inr false))) (some (.go (C5 (x1+1))))) (some (.out (.inl ())))
def Sz (p1:State):Option Bool:=
  cond ((decide ((p1.Agents.length:Int)>10))||(decide ((p1.In.length:Int)>20))) (some false) (thenS (loop (Iy p1) 0) (fun _=>some true) (fun r=>some r))
theorem NZ(p1 r)(h:Sz p1=some r):PCall Tryz.prog 20 [(.agg (Cf p1))] (bo r):=by
 refine C3 (fk Tryz.func20 Tryz.ntmps20 m0 (by with_unfolding_all rfl)) (nl W) ?_
 unfold Sz at h
 refine B4 (s0:=⟨T [(0,(.d _))],G []⟩) (F3 W W) ?_
 refine lr<|fun u1 _=>sm W<|sv W<|A1<|A4<|A9<|sq W<|sl W G_hit W<|sd W (D7 W)<|sv W<|sv W<|gp W (K5 W) (fun _=>W) (gf W (vl W G_hit W)<|gf W (fun w3=>(D7<|A2 w3))<|gf W (vb W W W)<|sd W (O2 W W<|fun hc=>A2<|J7 hc)<|A1<|cc W h (fun c1 h=> ?_)<|fun c1 h=> ?_)
 refine A9<|sv W<|A1<|B0 ?_
 cases h
 exact A6 (.inr W) (B6 (B2 W) C1) (.refl _)
 refine A8<|A4<|A9<|sv W<|A1<|js h fun z1 hz1 h=>E0 (fun s=> ∃(y1:Unit) (g1:Unit),z1= .inl y1∧Sb ⟨T [],G []⟩ s) ?_ ?_
 refine A7<|E3 (Iy p1) (fun (x1:Int) (g2:Unit)=>⟨T [(1,(.ptr (1,u1) 0)),(3,(di x1))],G [((1,u1),some<|.box 25 (L0 p1))]⟩) 0 () _ hz1 (F3 W W) ?_
 intro x1 g2 z2 hz2 ez2
 unfold Iy at hz2
 refine A4<|A9<|sv W<|sq W<|sl W G_hit W<|sd W (D7 W)<|sv W<|A1<|cc W hz2 (fun c2 hz2=> ?_)<|fun c2 hz2=> ?_
 refine A8<|A4<|A7<|A9<|sq W<|sl W G_hit W<|sv W<|bs hz2 fun _ hv1 hz2=>sd W (C8 W W hv1 W)<|sv W<|sd W (D6 W hv1 W)<|sd W (D7 W)<|sv W<|A1<|cc W hz2 (fun c3 hz2=> ?_)<|fun c3 hz2=> ?_
 refine A9<|sv W<|A1<|B0 ?_
 cases hz2
 obtain rfl:=ez2 _ rfl
 refine ⟨nofun,F2 ?_⟩
 rw [bT]at h
 cases h
 exact A6 (.inr W) (B6 (B2 W) C1) (.refl _)
 refine A8<|E2<|C0<|sv W<|sv W<|sv W<|A1<|E5 ?_
 cases hz2
 exact ⟨W,(),(F3 W W)⟩
 refine C6 W ?_
 cases hz2
 obtain rfl:=ez2 _ rfl
 refine ⟨nofun,C4 W<|Aj ?_⟩
 exact ⟨_,(),W,(F3 W W)⟩
 rintro _ ⟨y1,g1,rfl,q1⟩
 rw [bS]at h
 refine B4 q1<|A9<|sv W<|A1<|B0 ?_
 cases h
 exact A6 (.inr W) (B6 (B2 W) C1) (.refl _)
def Pq (p4:(List Int))(x1:(Int× (List Spot))):Option (Stp (Int× (List Spot)) (List Spot)):=
  cond (decide ((C5 (x1.1+1))< (p4.length:Int))) ((B7 p4 x1.1).bind fun v1=>(B7 p4 (C5 (x1.1+1))).bind fun v2=>(Bo x1.2 [(Spot.mk v1 v2)]).bind fun v3=>some (.go ((C5 (x1.1+2)),v3))) (some (.out x1.2))
def Y4 (p1:Int)(p2:Int)(p3:(List Int))(p4:(List Int)):Option Lane:=
  (loop (Pq p4) (0,[])).bind fun y1=>cond (p1==3) (some (Lane.mk p1 (Curve.mk y1) 500 p2 p3)) (some (Lane.mk p1 (Curve.mk y1) 1500 p2 p3))
theorem V9(p1 p2 p3 p4 r)(h:Y4 p1 p2 p3 p4=some r):PCall Tryz.prog 69 [(i64 p1),(i64 p2),(.list (List.map A5 p3)),(.list (List.map A5 p4))] (.agg (Io r)):=by
 refine C3 (fk Tryz.func69 Tryz.ntmps69 (fun r=>if r==5 then [1013]else []) (by with_unfolding_all rfl)) (nl W) ?_
 unfold Y4 at h
 refine B4 (s0:=⟨T [(0,(.d _)),(1,(.d _)),(2,(.d _)),(3,(.d _))],G []⟩) (F3 W W) ?_
 refine lr<|fun u1 _=>sm W<|A1<|lr<|fun u2 _=>sv W<|sv W<|sv W<|sv W<|sm W<|Bc W G_hit [(di p1),(.d .nilS),(di 1500),(di p2),(dl A5 p3)] W (A1<|A4<|A9<|sv W<|A1<|bs h fun y1 hy1 h=>E0 (fun s=> ∃g1:Nat,Sb ⟨T [(0,(di p1)),(8,(.ptr (8,u1) 0)),(9,(.ptr (9,u2) 0))],G [((8,u1),some<|.box 63 (((zs 4).set 1 (.d .nilS))++ [(.d .nilS)])),((9,u2),some<|.box 63 [(di p1),(oS y1 (36,g1)),(di 1500),(di p2),(dl A5 p3)]),((36,g1),oB 104 2 Ek y1)]⟩ s) ?_ ?_)
 refine A7<|E3 (Pq p4) (fun (x1:(Int× (List Spot))) (g2:Nat)=>⟨T [(0,(di p1)),(3,(dl A5 p4)),(8,(.ptr (8,u1) 0)),(9,(.ptr (9,u2) 0)),(10,(di x1.1))],G [((8,u1),some<|.box 63 (((zs 4).set 1 (.d .nilS))++ [(.d .nilS)])),((9,u2),some<|.box 63 [(di p1),(oS x1.2 (36,g2)),(di 1500),(di p2),(dl A5 p3)]),((36,g2),oB 104 2 Ek x1.2)]⟩) (0,[]) 0 _ hy1 (E1 (Ck W)<|sg W<|B5 G_hit (.of W)<|X0 trivial) ?_
 intro x1 g2 z1 hz1 ez1
 unfold Pq at hz1
 refine A4<|A9<|sv W<|sv W<|sv W<|sd W (D7 W)<|sv W<|A1<|cc W hz1 (fun c1 hz1=> ?_)<|fun c1 hz1=> ?_
 refine A8<|A4<|A7<|Rk W fun u5 _=>sq W<|sq W<|B9 (oS x1.2 (36,g2)) W (T6 W (gq W) W) (sv W<|sv W<|bs hz1 fun v1 hv1 hz1=>sd W (C8 W W hv1 W)<|sd W (D6 W hv1 W)<|sv W<|sv W<|sv W<|bs hz1 fun v2 hv2 hz1=>sd W (C8 W W hv2 W)<|sd W (D6 W hv2 W)<|sv W<|B9 (dl Ek [(Spot.mk v1 v2)]) W W (bs hz1 fun _ hv3 hz1=>V3 Ek (36,g2) x1.2 (Spot.mk v1 v2) [] _ (N3<|fun _=>W) W (gq W) hv3 (sq W<|sp W W<|Bc W (gq W) [(di p1),(.sl (36,u5)),(di 1500),(di p2),(dl A5 p3)] W (A1<|E2<|C0<|sv W<|sv W<|sv W<|A1<|E5 ?_))))
 cases hz1
 exact ⟨W,u5,(E1 (Ck W)<|sg W<|B5 G_hit (.box (cv<|.cons (.of (Aq<|Ba hv3).symm) cw))<|O6 (gq W) trivial)⟩
 refine C6 W ?_
 cases hz1
 obtain rfl:=ez1 _ rfl
 refine ⟨nofun,C4 W<|Aj ?_⟩
 exact ⟨g2,(E1 (Ck W)<|B5 G_hit (.of W)<|sg W<|B8 (gq W) trivial)⟩
 rintro _ ⟨g1,q1⟩
 refine B4 q1<|A4<|A9<|sv W<|sv W<|A1<|cc W h (fun c2 h=> ?_)<|fun c2 h=> ?_
 refine C0<|sq W<|Bc W (gq W) [(di p1),(oS y1 (36,g1)),(di 500),(di p2),(dl A5 p3)] W (A1<|A9<|B9 (Bg [(di p1),(oS y1 (36,g1)),(di 500),(di p2),(dl A5 p3)]) W (B3 W G_hit W W) (Me _ _ _ _ _ (Bb _) W W (gq W) (nl W) [(di p1),(oS y1 (36,g1)),(di 500),(di p2),(dl A5 p3)] W (A1<|B0 ?_)))
 cases h
 exact A6 (.inr W) (B6 (L4 W G_hit (nl W) W)<|Qa<|rD<|E7 (Y3<|gq W)<|rD<|rD<|rD G2) (.agg (ca W<|.cons ⟨Y2,W⟩ (cz W)))
 refine A8<|A9<|B9 (Bg [(di p1),(oS y1 (36,g1)),(di 1500),(di p2),(dl A5 p3)]) W (B3 W (gq W) W W) (Me _ _ _ _ _ (Bb _) W W G_hit (nl W) [(di p1),(oS y1 (36,g1)),(di 1500),(di p2),(dl A5 p3)] W (A1<|B0 ?_))
 cases h
 exact A6 (.inr W) (B6 (L4 W G_hit (nl W) W)<|Qa<|rD<|E7 (Y3<|gq W)<|rD<|rD<|rD G2) (.agg (ca W<|.cons ⟨Y2,W⟩ (cz W)))
def Vj:Option Map:=
  (Y4 1 1500 [] [0,0,100000,0]).bind fun v1=>(Y4 1 1500 [] [50000,(-50000),50000,50000]).bind fun v2=>some (Map.mk 0 [v1,v2] [(Zone.mk [(Part.mk 0 48000 52000 1),(Part.mk 1 48000 52000 0)] 0)] [] [])
theorem TD(r)(h:Vj=some r):PCall Tryz.prog 65 [] (.agg (U5 r)):=by
 refine C3 (fk Tryz.func65 Tryz.ntmps65 (fun r=>if r==1 then [1000,1002,1004,1007,1009]else []) (by with_unfolding_all rfl)) (nl W) ?_
 unfold Vj at h
 refine B4 (s0:=⟨T [],G []⟩) (F3 W W) ?_
 refine A9<|sm W<|A1<|A9<|B9 (dl A5 [0,0,100000,0]) W W (bs h fun v1 hv1 h=>B1 W W (.cons (.refl _) (.cons (.refl _) (.cons DLe.nil A3))) (V9 _ _ _ _ _ hv1) (.inl W) (B9 (dl A5 [50000,(-50000),50000,50000]) W W (bs h fun v2 hv2 h=>B1 W W (.cons (.refl _) (.cons (.refl _) (.cons DLe.nil A3))) (V9 _ _ _ _ _ hv2) (.inl W) (B9 (dl Io [v1,v2]) W (JU Io ([v1,v2]:List Lane) (fun _=>W) W W ⟨W,W,W,W,W,W,trivial⟩ (fun _=>W)) (sv W<|sv W<|B9 (dl Dp [(Part.mk 0 48000 52000 1),(Part.mk 1 48000 52000 0)]) W W (sv W<|B9 (dl Ip [(Zone.mk [(Part.mk 0 48000 52000 1),(Part.mk 1 48000 52000 0)] 0)]) W W (sv W<|Bc W G_hit [(di 0),(dl Io [v1,v2]),(dl Ip [(Zone.mk [(Part.mk 0 48000 52000 1),(Part.mk 1 48000 52000 0)] 0)]),(.d .nilS),(.d .nilS)] W (A1<|B0 ?_))))))))
 cases h
 exact A6 (.inr W) (B6 (L4 W G_hit (nl W) W) C1) (.agg (ca W<|ca W<|ca W<|.cons ⟨DLe.nil,W⟩ (.cons ⟨DLe.nil,W⟩ .nil)))
def Mq (p1:Int)(p2:Int)(p3:Int):Option Agent:=
  some (Agent.mk [p1] p2 p3 4000 0 false false)
theorem DA(p1 p2 p3 r)(h:Mq p1 p2 p3=some r):PCall Tryz.prog 66 [(i64 p1),(i64 p2),(i64 p3)] (.agg (C9 r)):=by
 refine C3 (fk Tryz.func66 Tryz.ntmps66 (fun r=>if r==1 then [1001]else []) (by with_unfolding_all rfl)) (nl W) ?_
 unfold Mq at h
 refine B4 (s0:=⟨T [(0,(.d _)),(1,(.d _)),(2,(.d _))],G []⟩) (F3 W W) ?_
 refine A9<|sm W<|A1<|A9<|sv W<|B9 (dl A5 [p1]) W W (sv W<|sv W<|sv W<|Bc W G_hit [(dl A5 [p1]),(di p2),(di p3),(di 4000),(di 0),(.d (bo false)),(.d (bo false))] W (A1<|B0 ?_))
 cases h
 exact A6 (.inr W) (B6 (L4 W G_hit (nl W) W) C1) (.refl _)
def T7 (p1:List Stay):Option (List Stay):=Bo [] p1
theorem Mf (p1:List Stay)(a0:D)(hl:Bo ([]:List Stay) p1=some p1)(hn: ∀h,L8 (T [(3, .d a0),(2, .d .nilS),(0, .d a0)]) h (.isnil false (.t 3))=some (.d (bo false)))(he: ∀h,Dq h 4 (.d a0)=some (List.map J8 p1)):
    PCall Tryz.prog 121 [a0] (.list (List.map J8 p1)):=by
  refine C3 (fk Tryz.func121 Tryz.ntmps121 m0 (by with_unfolding_all rfl)) (Nat.le_of_ble_eq_true W) ?_
  refine (B4 (s0:=⟨T [(0, .d a0)],G []⟩) (E1 ⟨.of W,trivial⟩ trivial) ?_)
  refine A4 ?_
  refine Eh fun _ _=> ?_
  refine B9 (.d .nilS) W W ?_
  refine A1 ?_
  refine A4 ?_
  refine A4 ?_
  refine Eh fun _ _=> ?_
  refine B9 (.d a0) W W ?_
  refine B9 (.d (bo false)) W (hn _) ?_
  refine A1 ?_
  refine Xr W ?_
  refine A8 ?_
  refine A4 ?_
  refine Eh fun _ _=> ?_
  refine Sv (.sl _) (.arr 127 4 (List.map J8 ([]:List Stay))) W W ?_
  refine B9 (.d a0) W W ?_
  refine CW J8 _ [] p1 _ (he _) W G_hit hl ?_
  refine B9 (.sl _) W W ?_
  refine A1 ?_
  refine B0 ?_
  exact A6 (.inr W) (B6 (B2 W)<|UT G_hit) (.refl _)
theorem Od(p1 r)(h:T7 p1=some r):PCall Tryz.prog 121 [.list (List.map J8 p1)] (.list (List.map J8 r)):=by
  have hr:r=p1:=by obtain ⟨_,rfl⟩:=Np h;rfl
  subst hr
  cases r with
  |cons x xs=>exact Mf (x::xs) _ h (fun _=>rfl) fun _=>N3 (fun _=>rfl)
  |nil=>
   refine PCall.nil fun A cap=> ?_
   cases A with
   |some A=>exact Mf [] (.v (.slice (some A) 0 cap)) h (fun _=>rfl) fun _=>rfl
   |none=>
    refine C3 (fk Tryz.func121 Tryz.ntmps121 m0 (by with_unfolding_all rfl)) (Nat.le_of_ble_eq_true W) ?_
    refine (B4 (s0:=⟨T [(0, .d (.v (.slice none 0 cap)))],G []⟩) (E1 ⟨.of W,trivial⟩ trivial) ?_)
    refine A4 ?_
    refine Eh fun _ _=> ?_
    refine B9 (.d .nilS) W W ?_
    refine A1 ?_
    refine A4 ?_
    refine A4 ?_
    refine Eh fun _ _=> ?_
    refine B9 (.d _) W W ?_
    refine B9 (.d (bo true)) W W ?_
    refine A1 ?_
    refine EF W ?_
    refine A4 ?_
    refine Eh fun _ _=> ?_
    refine B9 (.d .nilS) W W ?_
    refine A1 ?_
    refine B0 ?_
    exact A6 (.inr W) (B6 (B2 W) C1) .nil
def Cc (p1:List Int):Option (List Int):=Bo [] p1
theorem Oe (p1:List Int)(a0:D)(hl:Bo ([]:List Int) p1=some p1)(hn: ∀h,L8 (T [(3, .d a0),(2, .d .nilS),(0, .d a0)]) h (.isnil false (.t 3))=some (.d (bo false)))(he: ∀h,Dq h 1 (.d a0)=some (List.map A5 p1)):
    PCall Tryz.prog 178 [a0] (.list (List.map A5 p1)):=by
  refine C3 (fk Tryz.func178 Tryz.ntmps178 m0 (by with_unfolding_all rfl)) (Nat.le_of_ble_eq_true W) ?_
  refine (B4 (s0:=⟨T [(0, .d a0)],G []⟩) (E1 ⟨.of W,trivial⟩ trivial) ?_)
  refine A4 ?_
  refine Eh fun _ _=> ?_
  refine B9 (.d .nilS) W W ?_
  refine A1 ?_
  refine A4 ?_
  refine A4 ?_
  refine Eh fun _ _=> ?_
  refine B9 (.d a0) W W ?_
  refine B9 (.d (bo false)) W (hn _) ?_
  refine A1 ?_
  refine Xr W ?_
  refine A8 ?_
  refine A4 ?_
  refine Eh fun _ _=> ?_
  refine Sv (.sl _) (.arr 3 1 (List.map A5 ([]:List Int))) W W ?_
  refine B9 (.d a0) W W ?_
  refine CW A5 _ [] p1 _ (he _) W G_hit hl ?_
  refine B9 (.sl _) W W ?_
  refine A1 ?_
  refine B0 ?_
  exact A6 (.inr W) (B6 (B2 W)<|UT G_hit) (.refl _)
theorem Zf(p1 r)(h:Cc p1=some r):PCall Tryz.prog 178 [.list (List.map A5 p1)] (.list (List.map A5 r)):=by
  have hr:r=p1:=by obtain ⟨_,rfl⟩:=Np h;rfl
  subst hr
  cases r with
  |cons x xs=>exact Oe (x::xs) _ h (fun _=>rfl) fun _=>N3 (fun _=>rfl)
  |nil=>
   refine PCall.nil fun A cap=> ?_
   cases A with
   |some A=>exact Oe [] (.v (.slice (some A) 0 cap)) h (fun _=>rfl) fun _=>rfl
   |none=>
    refine C3 (fk Tryz.func178 Tryz.ntmps178 m0 (by with_unfolding_all rfl)) (Nat.le_of_ble_eq_true W) ?_
    refine (B4 (s0:=⟨T [(0, .d (.v (.slice none 0 cap)))],G []⟩) (E1 ⟨.of W,trivial⟩ trivial) ?_)
    refine A4 ?_
    refine Eh fun _ _=> ?_
    refine B9 (.d .nilS) W W ?_
    refine A1 ?_
    refine A4 ?_
    refine A4 ?_
    refine Eh fun _ _=> ?_
    refine B9 (.d _) W W ?_
    refine B9 (.d (bo true)) W W ?_
    refine A1 ?_
    refine EF W ?_
    refine A4 ?_
    refine Eh fun _ _=> ?_
    refine B9 (.d .nilS) W W ?_
    refine A1 ?_
    refine B0 ?_
    exact A6 (.inr W) (B6 (B2 W) C1) .nil
def Bp (p1:Agent):Option Agent:=
  (Cc p1.Route).bind fun v1=>some (Agent.mk v1 p1.S p1.V p1.Len p1.Begin p1.Obey p1.Gone)
theorem Qg(p1 r)(h:Bp p1=some r):PCall Tryz.prog 87 [(.agg (C9 p1))] (.agg (C9 r)):=by
 refine C3 (fk Tryz.func87 Tryz.ntmps87 m0 (by with_unfolding_all rfl)) (nl W) ?_
 unfold Bp at h
 refine B4 (s0:=⟨T [(0,(.d _))],G []⟩) (F3 W W) ?_
 refine A9<|sm W<|sn W W<|A1<|A9<|sq W<|sl W (gq W) W (bs h fun v1 hv1 h=>B1 W W A3 (Zf _ _ hv1) (.inl W) (sq W<|Bc W (gq W) ((X2 p1).set 0 (dl A5 v1)) W (A1<|A9<|sd W (B3 W G_hit W W)<|Bc W (gq W) ((X2 p1).set 0 (dl A5 v1)) W (A1<|B0 ?_))))
 cases h
 exact A6 (.inr W) (B6 (L4 W G_hit (nl W) W) C1) (.refl _)
def Dr (p1:State)(x1:(Int×State)):Option (Stp (Int×State) State):=
  cond (decide (x1.1< (p1.Agents.length:Int))) ((B7 p1.Agents x1.1).bind fun v2=>(Bp v2).bind fun v3=>(Bo x1.2.Agents [v3]).bind fun v4=>some (.go ((C5 (x1.1+1)),(State.mk x1.2.Tick v4 x1.2.In)))) (some (.out x1.2))
def Ka (p1:State):Option State:=
  (T7 p1.In).bind fun v1=>(loop (Dr p1) (0,(State.mk p1.Tick [] v1))).bind fun y1=>some y1
theorem FB(p1 r)(h:Ka p1=some r):PCall Tryz.prog 56 [(.agg (Cf p1))] (.agg (Cf r)):=by
 refine C3 (fk Tryz.func56 Tryz.ntmps56 (fun r=>if r==5 then [1004]else []) (by with_unfolding_all rfl)) (nl W) ?_
 unfold Ka at h
 refine B4 (s0:=⟨T [(0,(.d _))],G []⟩) (F3 W W) ?_
 refine lr<|fun u1 _=>sm W<|sm W<|A1<|A4<|Rk W fun u2 _=>sq W<|sl W (gq W) W (sq W<|sl W (gq W) W (bs h fun v1 hv1 h=>B1 W W A3 (Od _ _ hv1) (.inl W) (sv W<|sm W<|Bc W G_hit [(di p1.Tick),(.d .nilS),(dl J8 v1)] W (A1<|A4<|A9<|sq W<|sl W (gq W) W (sd W (D7 W)<|sv W<|A1<|bs h fun y1 hy1 h=>E0 (fun s=> ∃g1:Nat,Sb ⟨T [(2,(.ptr (2,u1) 0)),(3,(.ptr (3,u2) 0))],G [((2,u1),some<|.box 25 [(di 0),(.d .nilS),(.d .nilS)]),((3,u2),some<|.box 25 [(di y1.Tick),(oS y1.Agents (24,g1)),(dl J8 y1.In)]),((24,g1),oB 45 7 C9 y1.Agents)]⟩ s) ?_ ?_)))))
 refine A7<|E3 (Dr p1) (fun (x1:(Int×State)) (g2:Nat)=>⟨T [(2,(.ptr (2,u1) 0)),(3,(.ptr (3,u2) 0)),(13,(dl C9 p1.Agents)),(14,(di (p1.Agents.length:Int))),(15,(di x1.1))],G [((2,u1),some<|.box 25 [(di 0),(.d .nilS),(.d .nilS)]),((3,u2),some<|.box 25 [(di x1.2.Tick),(oS x1.2.Agents (24,g2)),(dl J8 x1.2.In)]),((24,g2),oB 45 7 C9 x1.2.Agents)]⟩) (0,(State.mk p1.Tick [] v1)) 0 _ hy1 (E1 (Ck W)<|sg W<|B5 G_hit (.of W)<|X0 trivial) ?_
 intro x1 g2 z1 hz1 ez1
 unfold Dr at hz1
 refine A9<|sv W<|A1<|A4<|cc W hz1 (fun c1 hz1=> ?_)<|fun c1 hz1=> ?_
 refine A8<|A4<|A7<|A9<|bs hz1 fun v2 hv2 hz1=>sd W (C8 W W hv2 W)<|sd W (D2 W hv2 W W)<|sm W<|Bc W G_hit (X2 v2) W (A1<|Rk W fun u6 _=>sq W<|B9 (oS x1.2.Agents (24,g2)) W (T6 W (gq W) W) (sd W (B3 W G_hit W W)<|bs hz1 fun v3 hv3 hz1=>B1 W W A3 (Qg _ _ hv3) (.inl W) (B9 (dl C9 [v3]) W W (bs hz1 fun _ hv4 hz1=>V3 C9 (24,g2) x1.2.Agents v3 [] _ (N3<|fun _=>W) W (gq W) hv4 (sq W<|Bc W (gq W) [(di x1.2.Tick),(.sl (24,u6)),(dl J8 x1.2.In)] W (A1<|E2<|C0<|sv W<|sv W<|A1<|E5 ?_))))))
 cases hz1
 exact ⟨W,u6,(E1 (Ck W)<|sg W<|B5 G_hit (.box (cv<|.cons (.of (Aq<|Ba hv4).symm) cw))<|O6 (gq W) trivial)⟩
 refine C6 W ?_
 cases hz1
 obtain rfl:=ez1 _ rfl
 refine ⟨nofun,C4 W<|Aj ?_⟩
 exact ⟨g2,(E1 (Ck W)<|B5 G_hit (.of W)<|sg W<|B8 (gq W) trivial)⟩
 rintro _ ⟨g1,q1⟩
 refine B4 q1<|A9<|B9 (Bg [(di y1.Tick),(oS y1.Agents (24,g1)),(dl J8 y1.In)]) W (B3 W (gq W) W W) (Me _ _ _ _ _ (Bb _) W W G_hit (nl W) [(di y1.Tick),(oS y1.Agents (24,g1)),(dl J8 y1.In)] W (A1<|B0 ?_))
 cases h
 exact A6 (.inr W) (B6 (L4 W G_hit (nl W) W)<|Qa<|rD<|E7 (Y3<|gq W)<|rD G2) (.agg (ca W<|.cons ⟨Y2,W⟩ (cz W)))
def Bu (p1:Int)(p2:Int)(p3:Int):Option Bool:=
  some ((decide (p2≤p1))&& (decide (p1≤p3)))
theorem Gw(p1 p2 p3 r)(h:Bu p1 p2 p3=some r):PCall Tryz.prog 209 [(i64 p1),(i64 p2),(i64 p3)] (bo r):=by
 refine C3 (fk Tryz.func209 Tryz.ntmps209 m0 (by with_unfolding_all rfl)) (nl W) ?_
 unfold Bu at h
 refine B4 (s0:=⟨T [(0,(.d _)),(1,(.d _)),(2,(.d _))],G []⟩) (F3 W W) ?_
 refine A9<|sv W<|A1<|A9<|sv W<|sv W<|sv W<|sv W<|gt W (fun _=>W)<|gt W (fun _=>W)<|gt W (fun w3=>(N1 (A2 w3) (A2 w3) W))<|sa W W W<|sv W<|A1<|B0 ?_
 cases h
 exact A6 (.inr W) (B6 (B2 W) C1) (.refl _)
def W0 (p1:RoadsCheck):Option Int:=
  (Bu p1.Map_.Version 0 1099511627776).bind fun v1=>cond (!v1) (some 2) (cond ((p1.Map_.Lanes.length:Int)==0) (some 6) (cond ((((decide ((p1.Map_.Lanes.length:Int)>12))||(decide ((p1.Map_.Zones.length:Int)>12)))||(decide ((p1.Map_.Signals.length:Int)>4)))||(decide ((p1.Map_.Works.length:Int)>8))) (some 8) (some 0)))
theorem AH(p1 r)(h:W0 p1=some r):PCall Tryz.prog 148 [(.agg (U5 p1.Map_))] (i64 r):=by
 refine C3 (fk Tryz.func148 Tryz.ntmps148 m0 (by with_unfolding_all rfl)) (nl W) ?_
 unfold W0 at h
 refine B4 (s0:=⟨T [(0,(.d _))],G []⟩) (F3 W W) ?_
 refine A9<|sm W<|sv W<|A1<|A4<|A7<|A9<|sq W<|sp W W<|sl W G_hit W<|bs h fun v1 hv1 h=>B1 W W A3 (Gw _ _ _ _ hv1) (.inl W) (B9 (.d (bo (!v1))) W W (sv W<|A1<|cc W h (fun c1 h=> ?_)<|fun c1 h=> ?_))
 refine A9<|sv W<|A1<|B0 ?_
 cases h
 exact A6 (.inr W) (B6 (B2 W) C1) (.refl _)
 refine A9<|sq W<|sp W W<|sl W G_hit W<|sd W (D7 W)<|sv W<|sv W<|A1<|cc W h (fun c2 h=> ?_)<|fun c2 h=> ?_
 refine A9<|sv W<|A1<|B0 ?_
 cases h
 exact A6 (.inr W) (B6 (B2 W) C1) (.refl _)
 refine A9<|sq W<|sp W W<|sl W G_hit W<|sd W (D7 W)<|sv W<|sv W<|gp W (K5 W) (fun _=>W) ?_
 refine N2 _ (.ptr _ _) W (K5 W) (fun w2=>(by simp only [A2 w2];rfl)) ?_
 refine gf W (vl W G_hit W)<|gf W (fun w4=>(D7<|A2 w4))<|gf W (vb W W W)<|sd W (O2 W W<|fun hc=>A2<|J7 hc)<|sv W<|gp W (K5 W) (fun _=>W) ?_
 refine N2 _ (.ptr _ _) W (K5 W) (fun w7=>(by simp only [A2 w7];rfl)) ?_
 refine gf W (vl W G_hit W)<|gf W (fun w9=>(D7<|A2 w9))<|gf W (vb W W W)<|sd W (O2 W W<|fun hc=>A2<|J7 hc)<|sv W<|gp W (K5 W) (fun _=>W) ?_
 refine N2 _ (.ptr _ _) W (K5 W) (fun w12=>(by simp only [A2 w12];rfl)) ?_
 refine gf W (vl W G_hit W)<|gf W (fun w14=>(D7<|A2 w14))<|gf W (vb W W W)<|sd W (O2 W W<|fun hc=>A2<|J7 hc)<|sv W<|A1<|cc W h (fun c3 h=> ?_)<|fun c3 h=> ?_
 refine A9<|sv W<|A1<|B0 ?_
 cases h
 exact A6 (.inr W) (B6 (B2 W) C1) (.refl _)
 refine A8<|E2<|A9<|sv W<|A1<|B0 ?_
 cases h
 exact A6 (.inr W) (B6 (B2 W) C1) (.refl _)
def Cq (p1:Int):Option (Int×Int×Int):=
  cond ((decide (p1<0))||(decide (p1≥4))) (some (0,0,0)) ((B7 ([(0,0,0),(2000,30,90),(1000,20,60),(300,100,300)]:List (Int×Int×Int)) p1).bind fun v1=>some (v1.1,v1.2.1,v1.2.2))
theorem Oz(p1 r)(h:Cq p1=some r):PCall Tryz.prog 157 [(i64 p1)] (.tup [(i64 r.1),(i64 r.2.1),(i64 r.2.2)]):=by
 refine C3 (fk Tryz.func157 Tryz.ntmps157 m0 (by with_unfolding_all rfl)) (nl W) ?_
 unfold Cq at h
 refine B4 (s0:=⟨T [(0,(.d _))],G []⟩) (F3 W W) ?_
 refine A9<|sv W<|sv W<|sv W<|A1<|A9<|sv W<|sv W<|sv W<|sv W<|sm W<|Bc W G_hit [(di 0),(di 0),(di 0),(di 2000),(di 30),(di 90),(di 1000),(di 20),(di 60),(di 300),(di 100),(di 300)] W (A1<|A4<|A9<|sv W<|sv W<|sv W<|gf W (fun _=>W)<|gf W (vb W W W)<|sd W (O2 W W<|fun hc=>A2<|J7 hc)<|A1<|cc W h (fun c1 h=> ?_)<|fun c1 h=> ?_)
 refine A9<|sv W<|sv W<|sv W<|A1<|B0 ?_
 cases h
 exact A6 (.inr W) (HW (B2 W) (B2 W) (B2 W) C1 C1 C1) (.refl _)
 refine A8<|A9<|sv W<|bs h fun v1 hv1 h=>sp W (mQ W W hv1 W)<|sd W (iD (f:=qP) W G_hit hv1 (fun _=>W) W W)<|sm W<|Bc W G_hit [(di v1.1),(di v1.2.1),(di v1.2.2)] W (A1<|A4<|F4 W<|sq W<|sl W G_hit W<|sq W<|sl W G_hit W<|sq W<|sl W G_hit W<|sv W<|sv W<|sv W<|A1<|B0 ?_)
 cases h
 exact A6 (.inr W) (HW (B2 W) (B2 W) (B2 W) C1 C1 C1) (.refl _)
def Cl (p1:(List Spot))(x1:Int):Option (Stp Int (Sum Unit Bool)):=
  cond (decide (x1< (p1.length:Int))) ((B7 p1 x1).bind fun v1=>cond ((decide ((Us false v1.X v1.Y)< (-16777216)))||(decide ((Us true v1.X v1.Y)>16777216))) (some (.out (.inr false))) (some (.go (C5 (x1+1))))) (some (.out (.inl ())))
def Mr (p1:(List Spot)):Option Bool:=
  thenS (loop (Cl p1) 0) (fun _=>some true) (fun r=>some r)
theorem PS(p1 r)(h:Mr p1=some r):PCall Tryz.prog 237 [(.list (List.map Ek p1))] (bo r):=by
 refine C3 (fk Tryz.func237 Tryz.ntmps237 m0 (by with_unfolding_all rfl)) (nl W) ?_
 unfold Mr at h
 refine B4 (s0:=⟨T [(0,(.d _))],G []⟩) (F3 W W) ?_
 refine A9<|sv W<|A1<|A4<|A9<|sv W<|sd W (D7 W)<|sv W<|A1<|js h fun z1 hz1 h=>E0 (fun s=> ∃(y1:Unit) (g1:Unit),z1= .inl y1∧Sb ⟨T [],G []⟩ s) ?_ ?_
 refine A7<|E3 (Cl p1) (fun (x1:Int) (g2:Unit)=>⟨T [(5,(dl Ek p1)),(6,(di (p1.length:Int))),(7,(di x1))],G []⟩) 0 () _ hz1 (F3 W W) ?_
 intro x1 g2 z2 hz2 ez2
 unfold Cl at hz2
 refine A9<|sv W<|A1<|A4<|cc W hz2 (fun c1 hz2=> ?_)<|fun c1 hz2=> ?_
 refine A8<|A4<|A7<|A9<|bs hz2 fun v1 hv1 hz2=>sd W (C8 W W hv1 W)<|sd W (D2 W hv1 W W)<|sm W<|Bc W G_hit [(di v1.X),(di v1.Y)] W (A1<|A9<|sq W<|sl W G_hit W<|sq W<|sl W G_hit W<|sv W<|sv W<|sv W<|gp W (K5 W) (fun _=>W) (gf W (vl W G_hit W)<|gp W (K5 W) (fun _=>W) (gf W (vl W G_hit W) ?_)))
 refine gf W (fun w5=>(by simp only [A2 w5];rfl)) ?_
 refine gf W (vb W W W)<|sd W (O2 W W<|fun hc=>A2<|J7 hc)<|A1<|cc W hz2 (fun c2 hz2=> ?_)<|fun c2 hz2=> ?_
 refine A9<|sv W<|A1<|B0 ?_
 cases hz2
 obtain rfl:=ez2 _ rfl
 refine ⟨nofun,F2 ?_⟩
 rw [bT]at h
 cases h
 exact A6 (.inr W) (B6 (B2 W) C1) (.refl _)
 refine A8<|E2<|C0<|sv W<|sv W<|A1<|E5 ?_
 cases hz2
 exact ⟨W,(),(F3 W W)⟩
 refine C6 W ?_
 cases hz2
 obtain rfl:=ez2 _ rfl
 refine ⟨nofun,C4 W<|Aj ?_⟩
 exact ⟨_,(),W,(F3 W W)⟩
 rintro _ ⟨y1,g1,rfl,q1⟩
 rw [bS]at h
 refine B4 q1<|A9<|sv W<|A1<|B0 ?_
 cases h
 exact A6 (.inr W) (B6 (B2 W) C1) (.refl _)
def Kb (p1:Spot)(p2:Spot):Option CurveVector:=
  some (CurveVector.mk (C5 (p2.X - p1.X)) (C5 (p2.Y - p1.Y)))
theorem FC(p1 p2 r)(h:Kb p1 p2=some r):PCall Tryz.prog 238 [(.agg [(i64 p1.X),(i64 p1.Y)]),(.agg [(i64 p2.X),(i64 p2.Y)])] (.agg [(i64 r.x),(i64 r.y)]):=by
 refine C3 (fk Tryz.func238 Tryz.ntmps238 m0 (by with_unfolding_all rfl)) (nl W) ?_
 unfold Kb at h
 refine B4 (s0:=⟨T [(0,(.d _)),(1,(.d _))],G []⟩) (F3 W W) ?_
 refine A9<|sm W<|sn W W<|sm W<|A1<|A9<|sq W<|sl W (gq W) W (sq W<|sl W (gq W) W (sv W<|sq W<|sl W (gq W) W (sq W<|sl W (gq W) W (sv W<|sv W<|Bc W G_hit [(di<|C5 (p2.X - p1.X)),(di<|C5 (p2.Y - p1.Y))] W (A1<|B0 ?_)))))
 cases h
 exact A6 (.inr W) (B6 (L4 W G_hit (nl W) W) C1) (.refl _)
def Z6 (p1:CurveVector)(p2:CurveVector):Option Int:=
  some (C5 ((C5 (p1.x*p2.x))+ (C5 (p1.y*p2.y))))
theorem Og(p1 p2 r)(h:Z6 p1 p2=some r):PCall Tryz.prog 240 [(.agg [(i64 p1.x),(i64 p1.y)]),(.agg [(i64 p2.x),(i64 p2.y)])] (i64 r):=by
 refine C3 (fk Tryz.func240 Tryz.ntmps240 m0 (by with_unfolding_all rfl)) (nl W) ?_
 unfold Z6 at h
 refine B4 (s0:=⟨T [(0,(.d _)),(1,(.d _))],G []⟩) (F3 W W) ?_
 refine A9<|sm W<|sn W W<|sv W<|A1<|A9<|sq W<|sl W (gq W) W (sq W<|sl W G_hit W<|sv W<|sq W<|sl W (gq W) W (sq W<|sl W G_hit W<|sv W<|sv W<|sv W<|A1<|B0 ?_))
 cases h
 exact A6 (.inr W) (B6 (B2 W) C1) (.refl _)
def Fh (p1:Int)(x1:(Int×Int)):Option (Stp (Int×Int) Int):=
  cond (decide (x1.1<x1.2)) (cond (decide ((C5 ((C5 ((C5 (x1.1+x1.2)).tdiv 2))* (C5 ((C5 (x1.1+x1.2)).tdiv 2))))<p1)) (some (.go ((C5 ((C5 ((C5 (x1.1+x1.2)).tdiv 2))+1)),x1.2))) (some (.go (x1.1,(C5 ((C5 (x1.1+x1.2)).tdiv 2)))))) (some (.out x1.1))
def Hz (p1:Int):Option (Int×Bool):=
  (loop (Fh p1) (0,67108864)).bind fun y1=>some (y1,((C5 (y1*y1))==p1))
theorem FD(p1 r)(h:Hz p1=some r):PCall Tryz.prog 239 [(i64 p1)] (.tup [(i64 r.1),(bo r.2)]):=by
 refine C3 (fk Tryz.func239 Tryz.ntmps239 m0 (by with_unfolding_all rfl)) (nl W) ?_
 unfold Hz at h
 refine B4 (s0:=⟨T [(0,(.d _))],G []⟩) (F3 W W) ?_
 refine A9<|sv W<|sv W<|A1<|A9<|sv W<|sv W<|A1<|A4<|bs h fun y1 hy1 h=>E0 (fun s=> ∃g1:Unit,Sb ⟨T [(0,(di p1)),(4,(di y1))],G []⟩ s) ?_ ?_
 refine A7<|E3 (Fh p1) (fun (x1:(Int×Int)) (g2:Unit)=>⟨T [(0,(di p1)),(4,(di x1.1)),(5,(di x1.2))],G []⟩) (0,67108864) () _ hy1 (F3 W W) ?_
 intro x1 g2 z1 hz1 ez1
 unfold Fh at hz1
 refine A4<|A9<|sv W<|sv W<|sv W<|A1<|cc W hz1 (fun c1 hz1=> ?_)<|fun c1 hz1=> ?_
 refine A8<|A7<|A9<|sv W<|sv W<|sv W<|sv W<|sv W<|A1<|A9<|sv W<|sv W<|sv W<|sv W<|sv W<|A1<|cc W hz1 (fun c2 hz1=> ?_)<|fun c2 hz1=> ?_
 refine C0<|sv W<|sv W<|sv W<|A1<|E2<|E5 ?_
 cases hz1
 exact ⟨W,(),(F3 W W)⟩
 refine C0<|sv W<|sv W<|A1<|E2<|E5 ?_
 cases hz1
 exact ⟨W,(),(F3 W W)⟩
 refine C6 W ?_
 cases hz1
 obtain rfl:=ez1 _ rfl
 refine ⟨nofun,C4 W<|Aj ?_⟩
 exact ⟨(),(F3 W W)⟩
 rintro _ ⟨g1,q1⟩
 refine B4 q1<|A9<|sv W<|sv W<|sv W<|sv W<|sv W<|sv W<|sv W<|sv W<|A1<|B0 ?_
 cases h
 exact A6 (.inr W) (Po (B2 W) (B2 W) C1 C1) (.refl _)
def Bq (p1:Curve)(x1:(Int×CurveVector)):Option (Stp (Int×CurveVector) (Sum Unit Int)):=
  cond (decide (x1.1< (C5 ((p1.Pts.length:Int) - 1)))) ((B7 p1.Pts x1.1).bind fun v2=>(B7 p1.Pts (C5 (x1.1+1))).bind fun v3=>(Kb v2 v3).bind fun v4=>(Z6 v4 v4).bind fun v5=>(Hz v5).bind fun v6=>cond (!v6.2) (some (.out (.inr 3))) (cond ((decide (v6.1<1000))||(decide (v6.1>1048576))) (some (.out (.inr 2))) (((cond (decide (x1.1>0)) (Z6 x1.2 v4) (some default))).bind fun v7=>cond ((decide (x1.1>0))&& (decide (v7≤0))) (some (.out (.inr 12))) (some (.go ((C5 (x1.1+1)),v4)))))) (some (.out (.inl ())))
def Hb (p1:Curve):Option Int:=
  cond (decide ((p1.Pts.length:Int)<2)) (some 6) (cond (decide ((p1.Pts.length:Int)>16)) (some 5) ((Mr p1.Pts).bind fun v1=>cond (!v1) (some 2) (thenS (loop (Bq p1) (0,(CurveVector.mk 0 0))) (fun _=>some 0) (fun r=>some r))))
theorem DB(p1 r)(h:Hb p1=some r):PCall Tryz.prog 198 [(.agg [(.list (List.map Ek p1.Pts))])] (i64 r):=by
 refine C3 (fk Tryz.func198 Tryz.ntmps198 m0 (by with_unfolding_all rfl)) (nl W) ?_
 unfold Hb at h
 refine B4 (s0:=⟨T [(0,(.d _))],G []⟩) (F3 W W) ?_
 refine lr<|fun u1 _=>sm W<|sv W<|A1<|A4<|A7<|A9<|sq W<|sl W G_hit W<|sd W (D7 W)<|sv W<|sv W<|A1<|cc W h (fun c1 h=> ?_)<|fun c1 h=> ?_
 refine A9<|sv W<|A1<|B0 ?_
 cases h
 exact A6 (.inr W) (B6 (B2 W) C1) (.refl _)
 refine A9<|sq W<|sl W G_hit W<|sd W (D7 W)<|sv W<|sv W<|A1<|cc W h (fun c2 h=> ?_)<|fun c2 h=> ?_
 refine A9<|sv W<|A1<|B0 ?_
 cases h
 exact A6 (.inr W) (B6 (B2 W) C1) (.refl _)
 refine A9<|sq W<|sl W G_hit W<|bs h fun v1 hv1 h=>B1 W W A3 (PS _ _ hv1) (.inl W) (B9 (.d (bo (!v1))) W W (sv W<|A1<|cc W h (fun c3 h=> ?_)<|fun c3 h=> ?_))
 refine A9<|sv W<|A1<|B0 ?_
 cases h
 exact A6 (.inr W) (B6 (B2 W) C1) (.refl _)
 refine A8<|E2<|lr<|fun u8 _=>sm W<|A1<|A4<|A9<|sq W<|sl W (gq W) W (sd W (D7 W)<|sv W<|sv W<|A1<|js h fun z1 hz1 h=>E0 (fun s=> ∃(y1:Unit) (g1:Unit),z1= .inl y1∧Sb ⟨T [],G []⟩ s) ?_ ?_)
 refine A7<|E3 (Bq p1) (fun (x1:(Int×CurveVector)) (g2:Unit)=>⟨T [(1,(.ptr (1,u1) 0)),(3,(.ptr (3,u8) 0)),(26,(di<|C5 ((p1.Pts.length:Int) - 1))),(27,(di x1.1))],G [((1,u1),some<|.box 61 [(dl Ek p1.Pts)]),((3,u8),some<|.box 253 [(di x1.2.x),(di x1.2.y)])]⟩) (0,(CurveVector.mk 0 0)) () _ hz1 (F3 W W) ?_
 intro x1 g2 z2 hz2 ez2
 unfold Bq at hz2
 refine A9<|sv W<|A1<|A4<|cc W hz2 (fun c4 hz2=> ?_)<|fun c4 hz2=> ?_
 refine A8<|A4<|A7<|A9<|sv W<|sv W<|A1<|A4<|F4 W<|sq W<|sl W G_hit W<|sv W<|bs hz2 fun _ hv2 hz2=>sd W (C8 W W hv2 W)<|sd W (D2 W hv2 W W)<|sq W<|sl W G_hit W<|sv W<|sv W<|bs hz2 fun _ hv3 hz2=>sd W (C8 W W hv3 W)<|sd W (D2 W hv3 W W)<|bs hz2 fun v4 hv4 hz2=>B1 W W A3 (FC _ _ _ hv4) (.inl W) (sm W<|Bc W G_hit [(di v4.x),(di v4.y)] W (A1<|A9<|sd W (B3 W G_hit W W)<|sd W (B3 W G_hit W W)<|bs hz2 fun _ hv5 hz2=>B1 W W A3 (Og _ _ _ hv5) (.inl W) (bs hz2 fun v6 hv6 hz2=>B1 W W A3 (FD _ _ hv6) (.inl W) (sv W<|sv W<|sv W<|sv W<|sv W<|A1<|A4<|A7<|A9<|sv W<|B9 (.d (bo (!v6.2))) W W (sv W<|A1<|cc W hz2 (fun c5 hz2=> ?_)<|fun c5 hz2=> ?_)))))
 refine A9<|sv W<|A1<|B0 ?_
 cases hz2
 obtain rfl:=ez2 _ rfl
 refine ⟨nofun,F2 ?_⟩
 rw [bT]at h
 cases h
 exact A6 (.inr W) (B6 (B2 W) C1) (.refl _)
 refine A9<|sv W<|sv W<|sv W<|gf W (fun _=>W)<|gf W (vb W W W)<|sd W (O2 W W<|fun hc=>A2<|J7 hc)<|sv W<|A1<|cc W hz2 (fun c6 hz2=> ?_)<|fun c6 hz2=> ?_
 refine A9<|sv W<|A1<|B0 ?_
 cases hz2
 obtain rfl:=ez2 _ rfl
 refine ⟨nofun,F2 ?_⟩
 rw [bT]at h
 cases h
 exact A6 (.inr W) (B6 (B2 W) C1) (.refl _)
 refine A9<|sv W<|sv W<|sv W<|gt W (fun _=>(B3 W (gq W) W W))<|gt W (fun _=>(B3 W G_hit W W))<|bs hz2 fun v7 hv7 hz2=> ?_
 refine O3 _ (i64 v7) (M8 W) (fun w5=>⟨_,[(.d (.agg [(i64 x1.2.x),(i64 x1.2.y)])),(.d (.agg [(i64 v4.x),(i64 v4.y)]))],_,_,(by simp only [A2 w5];rfl),W,A3,Og _ _ _<|C2 w5 hv7,(.inl W)⟩) ?_
 refine gt W (vb W W W)<|sa W W W<|sv W<|A1<|cc W hz2 (fun c7 hz2=> ?_)<|fun c7 hz2=> ?_
 refine A9<|sv W<|A1<|B0 ?_
 cases hz2
 obtain rfl:=ez2 _ rfl
 refine ⟨nofun,F2 ?_⟩
 rw [bT]at h
 cases h
 exact A6 (.inr W) (B6 (B2 W) C1) (.refl _)
 refine A8<|E2<|C0<|sd W (B3 W G_hit W W)<|Bc W (gq W) [(di v4.x),(di v4.y)] W (A1<|E2<|C0<|sv W<|sv W<|A1<|E5 ?_)
 cases hz2
 exact ⟨W,(),(F3 W W)⟩
 refine C6 W ?_
 cases hz2
 obtain rfl:=ez2 _ rfl
 refine ⟨nofun,C4 W<|Aj ?_⟩
 exact ⟨_,(),W,(F3 W W)⟩
 rintro _ ⟨y1,g1,rfl,q1⟩
 rw [bS]at h
 refine B4 q1<|A9<|sv W<|A1<|B0 ?_
 cases h
 exact A6 (.inr W) (B6 (B2 W) C1) (.refl _)
def Ax (p1:(List Int))(p3:Int)(x1:(Int×Int)):Option (Stp (Int×Int) (Sum Unit Bool)):=
  cond (decide (x1.2< (p1.length:Int))) ((B7 p1 x1.2).bind fun v1=>cond ((decide (v1<x1.1))||(decide (v1≥p3))) (some (.out (.inr false))) (some (.go ((C5 (v1+1)),(C5 (x1.2+1)))))) (some (.out (.inl ())))
def Ds (p1:(List Int))(p2:Int)(p3:Int):Option Bool:=
  thenS (loop (Ax p1 p3) (p2,0)) (fun _=>some true) (fun r=>some r)
theorem Ts(p1 p2 p3 r)(h:Ds p1 p2 p3=some r):PCall Tryz.prog 210 [(.list (List.map A5 p1)),(i64 p2),(i64 p3)] (bo r):=by
 refine C3 (fk Tryz.func210 Tryz.ntmps210 m0 (by with_unfolding_all rfl)) (nl W) ?_
 unfold Ds at h
 refine B4 (s0:=⟨T [(0,(.d _)),(1,(.d _)),(2,(.d _))],G []⟩) (F3 W W) ?_
 refine A9<|sv W<|A1<|A4<|A9<|sv W<|sd W (D7 W)<|sv W<|A1<|js h fun z1 hz1 h=>E0 (fun s=> ∃(y1:Unit) (g1:Unit),z1= .inl y1∧Sb ⟨T [],G []⟩ s) ?_ ?_
 refine A7<|E3 (Ax p1 p3) (fun (x1:(Int×Int)) (g2:Unit)=>⟨T [(1,(di x1.1)),(2,(di p3)),(9,(dl A5 p1)),(10,(di (p1.length:Int))),(11,(di x1.2))],G []⟩) (p2,0) () _ hz1 (F3 W W) ?_
 intro x1 g2 z2 hz2 ez2
 unfold Ax at hz2
 refine A9<|sv W<|A1<|A4<|cc W hz2 (fun c1 hz2=> ?_)<|fun c1 hz2=> ?_
 refine A8<|A4<|A7<|A9<|bs hz2 fun _ hv1 hz2=>sd W (C8 W W hv1 W)<|sd W (D6 W hv1 W)<|sv W<|A1<|A4<|A9<|sv W<|sv W<|sv W<|sv W<|gf W (fun _=>W)<|gf W (fun _=>W)<|gf W (fun w3=>(N1 (A2 w3) (A2 w3) W))<|sd W (O2 W W<|fun hc=>A2<|J7 hc)<|A1<|cc W hz2 (fun c2 hz2=> ?_)<|fun c2 hz2=> ?_
 refine A9<|sv W<|A1<|B0 ?_
 cases hz2
 obtain rfl:=ez2 _ rfl
 refine ⟨nofun,F2 ?_⟩
 rw [bT]at h
 cases h
 exact A6 (.inr W) (B6 (B2 W) C1) (.refl _)
 refine A8<|C0<|sv W<|sv W<|sv W<|A1<|E2<|C0<|sv W<|sv W<|A1<|E5 ?_
 cases hz2
 exact ⟨W,(),(F3 W W)⟩
 refine C6 W ?_
 cases hz2
 obtain rfl:=ez2 _ rfl
 refine ⟨nofun,C4 W<|Aj ?_⟩
 exact ⟨_,(),W,(F3 W W)⟩
 rintro _ ⟨y1,g1,rfl,q1⟩
 rw [bS]at h
 refine B4 q1<|A9<|sv W<|A1<|B0 ?_
 cases h
 exact A6 (.inr W) (B6 (B2 W) C1) (.refl _)
def T8 (p1:RoadsCheck)(x1:Int):Option (Stp Int (Sum Unit Int)):=
  cond (decide (x1< (p1.Map_.Lanes.length:Int))) ((B7 p1.Map_.Lanes x1).bind fun v1=>(Cq v1.Kind).bind fun v2=>cond (v2.1==0) (some (.out (.inr 4))) ((Hb v1.Curve_).bind fun v3=>cond (v3 !=0) (some (.out (.inr v3))) ((Bu v1.Half 200 4000).bind fun v4=>((cond (!(!v4)) (Bu v1.Limit 1 v2.1) (some default))).bind fun v5=>cond ((!v4)||(!v5)) (some (.out (.inr 2))) (cond (decide ((v1.Next.length:Int)>3)) (some (.out (.inr 8))) ((Ds v1.Next (C5 (x1+1)) (p1.Map_.Lanes.length:Int)).bind fun v6=>cond (!v6) (some (.out (.inr 11))) (some (.go (C5 (x1+1))))))))) (some (.out (.inl ())))
def Ab (p1:RoadsCheck):Option Int:=
  thenS (loop (T8 p1) 0) (fun _=>some 0) (fun r=>some r)
theorem DC(p1 r)(h:Ab p1=some r):PCall Tryz.prog 149 [(.agg (U5 p1.Map_))] (i64 r):=by
 refine C3 (fk Tryz.func149 Tryz.ntmps149 m0 (by with_unfolding_all rfl)) (nl W) ?_
 unfold Ab at h
 refine B4 (s0:=⟨T [(0,(.d _))],G []⟩) (F3 W W) ?_
 refine lr<|fun u1 _=>sm W<|sv W<|A1<|A4<|A9<|sq W<|sp W W<|sl W G_hit W<|sd W (D7 W)<|sv W<|A1<|js h fun z1 hz1 h=>E0 (fun s=> ∃(y1:Unit) (g1:Unit),z1= .inl y1∧Sb ⟨T [],G []⟩ s) ?_ ?_
 refine A7<|E3 (T8 p1) (fun (x1:Int) (g2:Unit)=>⟨T [(1,(.ptr (1,u1) 0)),(11,(dl Io p1.Map_.Lanes)),(12,(di (p1.Map_.Lanes.length:Int))),(13,(di x1))],G [((1,u1),some<|.box 212 (M7 p1.Map_))]⟩) 0 () _ hz1 (F3 W W) ?_
 intro x1 g2 z2 hz2 ez2
 unfold T8 at hz2
 refine A9<|sv W<|A1<|A4<|cc W hz2 (fun c1 hz2=> ?_)<|fun c1 hz2=> ?_
 refine A8<|A4<|A7<|A9<|sv W<|bs hz2 fun v1 hv1 hz2=>sd W (C8 W W hv1 W)<|sd W (D2 W hv1 W W)<|sm W<|sv W<|Bc W G_hit (IJ v1) W (A1<|A9<|sq W<|sl W G_hit W<|bs hz2 fun v2 hv2 hz2=>B1 W W A3 (Oz _ _ hv2) (.inl W) (sv W<|sv W<|sv W<|sv W<|sv W<|sv W<|sv W<|A1<|A4<|A9<|sv W<|sv W<|A1<|cc W hz2 (fun c2 hz2=> ?_)<|fun c2 hz2=> ?_))
 refine A9<|sv W<|A1<|B0 ?_
 cases hz2
 obtain rfl:=ez2 _ rfl
 refine ⟨nofun,F2 ?_⟩
 rw [bT]at h
 cases h
 exact A6 (.inr W) (B6 (B2 W) C1) (.refl _)
 refine A8<|A4<|A9<|sq W<|sd W (B3 W G_hit W W)<|bs hz2 fun _ hv3 hz2=>B1 W W A3 (DB _ _ hv3) (.inl W) (sv W<|A1<|A9<|sv W<|sv W<|A1<|cc W hz2 (fun c3 hz2=> ?_)<|fun c3 hz2=> ?_)
 refine A9<|sv W<|sv W<|A1<|B0 ?_
 cases hz2
 obtain rfl:=ez2 _ rfl
 refine ⟨nofun,F2 ?_⟩
 rw [bT]at h
 cases h
 exact A6 (.inr W) (B6 (B2 W) C1) (.refl _)
 refine A8<|A7<|A9<|sq W<|sl W G_hit W<|bs hz2 fun v4 hv4 hz2=>B1 W W A3 (Gw _ _ _ _ hv4) (.inl W) (B9 (.d (bo (!v4))) W W (sv W<|gp W (K5 W) (fun _=>W) (gf W (vl W G_hit W)<|gf W (fun _=>W)<|bs hz2 fun v5 hv5 hz2=> ?_)))
 refine O3 _ (bo v5) (K5 W) (fun w4=>⟨_,[(di v1.Limit),(di 1),(di v2.1)],_,_,(by simp only [A2 w4];rfl),W,A3,Gw _ _ _ _<|C2 w4 hv5,(.inl W)⟩) ?_
 refine N2 _ (.d (bo (!v5))) W (K5 W) (fun w5=>(by simp only [A2 w5];rfl)) ?_
 refine sd W (O2 W W<|fun hc=>A2<|J7 hc)<|sv W<|A1<|cc W hz2 (fun c4 hz2=> ?_)<|fun c4 hz2=> ?_
 refine A9<|sv W<|A1<|B0 ?_
 cases hz2
 obtain rfl:=ez2 _ rfl
 refine ⟨nofun,F2 ?_⟩
 rw [bT]at h
 cases h
 exact A6 (.inr W) (B6 (B2 W) C1) (.refl _)
 refine A9<|sq W<|sl W G_hit W<|sd W (D7 W)<|sv W<|sv W<|A1<|cc W hz2 (fun c5 hz2=> ?_)<|fun c5 hz2=> ?_
 refine A9<|sv W<|A1<|B0 ?_
 cases hz2
 obtain rfl:=ez2 _ rfl
 refine ⟨nofun,F2 ?_⟩
 rw [bT]at h
 cases h
 exact A6 (.inr W) (B6 (B2 W) C1) (.refl _)
 refine A9<|sq W<|sl W G_hit W<|sv W<|sv W<|sq W<|sp W W<|sl W (gq W) W (sd W (D7 W)<|bs hz2 fun v6 hv6 hz2=>B1 W W A3 (Ts _ _ _ _ hv6) (.inl W) (B9 (.d (bo (!v6))) W W (sv W<|A1<|cc W hz2 (fun c6 hz2=> ?_)<|fun c6 hz2=> ?_)))
 refine A9<|sv W<|A1<|B0 ?_
 cases hz2
 obtain rfl:=ez2 _ rfl
 refine ⟨nofun,F2 ?_⟩
 rw [bT]at h
 cases h
 exact A6 (.inr W) (B6 (B2 W) C1) (.refl _)
 refine A8<|E2<|E2<|C0<|sv W<|sv W<|A1<|E5 ?_
 cases hz2
 exact ⟨W,(),(F3 W W)⟩
 refine C6 W ?_
 cases hz2
 obtain rfl:=ez2 _ rfl
 refine ⟨nofun,C4 W<|Aj ?_⟩
 exact ⟨_,(),W,(F3 W W)⟩
 rintro _ ⟨y1,g1,rfl,q1⟩
 rw [bS]at h
 refine B4 q1<|A9<|sv W<|A1<|B0 ?_
 cases h
 exact A6 (.inr W) (B6 (B2 W) C1) (.refl _)
def R6 (p1:RoadsCheck)(v1:Lane)(v2:Spot)(x2:Int):Option (Stp Int (Sum Unit Int)):=
  cond (decide (x2< (v1.Next.length:Int))) ((B7 v1.Next x2).bind fun v3=>(B7 p1.Map_.Lanes v3).bind fun v4=>cond (v4.Kind !=v1.Kind) (some (.out (.inr 4))) ((B7 p1.Map_.Lanes v3).bind fun v5=>(B7 v5.Curve_.Pts 0).bind fun v6=>cond (!(v6.X==v2.X&& (v6.Y==v2.Y&&true))) (some (.out (.inr 3))) (some (.go (C5 (x2+1)))))) (some (.out (.inl ())))
def R7 (p1:RoadsCheck)(x1:Int):Option (Stp Int (Sum Unit Int)):=
  cond (decide (x1< (p1.Map_.Lanes.length:Int))) ((B7 p1.Map_.Lanes x1).bind fun v1=>(B7 v1.Curve_.Pts (C5 ((v1.Curve_.Pts.length:Int) - 1))).bind fun v2=>thenS (loop (R6 p1 v1 v2) 0) (fun _=>some (.go (C5 (x1+1)))) (fun r=>some (.out (.inr r)))) (some (.out (.inl ())))
def Y0 (p1:RoadsCheck):Option Int:=
  thenS (loop (R7 p1) 0) (fun _=>some 0) (fun r=>some r)
theorem BY(p1 r)(h:Y0 p1=some r):PCall Tryz.prog 150 [(.agg (U5 p1.Map_))] (i64 r):=by
 refine C3 (fk Tryz.func150 Tryz.ntmps150 m0 (by with_unfolding_all rfl)) (nl W) ?_
 unfold Y0 at h
 refine B4 (s0:=⟨T [(0,(.d _))],G []⟩) (F3 W W) ?_
 refine lr<|fun u1 _=>sm W<|sv W<|A1<|A4<|A9<|sq W<|sp W W<|sl W G_hit W<|sd W (D7 W)<|sv W<|A1<|js h fun z1 hz1 h=>E0 (fun s=> ∃(y1:Unit) (g1:Unit),z1= .inl y1∧Sb ⟨T [],G []⟩ s) ?_ ?_
 refine A7<|E3 (R7 p1) (fun (x1:Int) (g2:Unit)=>⟨T [(1,(.ptr (1,u1) 0)),(10,(dl Io p1.Map_.Lanes)),(11,(di (p1.Map_.Lanes.length:Int))),(12,(di x1))],G [((1,u1),some<|.box 212 (M7 p1.Map_))]⟩) 0 () _ hz1 (F3 W W) ?_
 intro x1 g2 z2 hz2 ez2
 unfold R7 at hz2
 refine A9<|sv W<|A1<|A4<|cc W hz2 (fun c1 hz2=> ?_)<|fun c1 hz2=> ?_
 refine A8<|A4<|A7<|lr<|fun u4 _=>bs hz2 fun v1 hv1 hz2=>sd W (C8 W W hv1 W)<|sd W (D2 W hv1 W W)<|sm W<|Bc W G_hit (IJ v1) W (A1<|lr<|fun u5 _=>sq W<|sq W<|sl W G_hit W<|sq W<|sp W W<|sl W G_hit W<|sd W (D7 W)<|sv W<|bs hz2 fun v2 hv2 hz2=>sd W (C8 W W hv2 W)<|sd W (D2 W hv2 W W)<|sm W<|Bc W G_hit [(di v2.X),(di v2.Y)] W (A1<|A9<|sq W<|sl W (gq W) W (sd W (D7 W)<|sv W<|A1<|js hz2 fun z3 hz3 hz2=>E0 (fun s=> ∃(y2:Unit) (g3:Unit),z3= .inl y2∧Sb ⟨T [(1,(.ptr (1,u1) 0)),(10,(dl Io p1.Map_.Lanes)),(11,(di (p1.Map_.Lanes.length:Int))),(12,(di x1))],G [((1,u1),some<|.box 212 (M7 p1.Map_))]⟩ s) ?_ ?_)))
 refine A7<|E3 (R6 p1 v1 v2) (fun (x2:Int) (g4:Unit)=>⟨T [(1,(.ptr (1,u1) 0)),(4,(.ptr (4,u4) 0)),(5,(.ptr (5,u5) 0)),(10,(dl Io p1.Map_.Lanes)),(11,(di (p1.Map_.Lanes.length:Int))),(12,(di x1)),(27,(dl A5 v1.Next)),(28,(di (v1.Next.length:Int))),(29,(di x2))],G [((1,u1),some<|.box 212 (M7 p1.Map_)),((4,u4),some<|.box 63 (IJ v1)),((5,u5),some<|.box 104 [(di v2.X),(di v2.Y)])]⟩) 0 () _ hz3 (F3 W W) ?_
 intro x2 g4 z4 hz4 ez4
 unfold R6 at hz4
 refine A9<|sv W<|A1<|A4<|cc W hz4 (fun c2 hz4=> ?_)<|fun c2 hz4=> ?_
 refine A8<|A4<|A7<|A9<|bs hz4 fun _ hv3 hz4=>sd W (C8 W W hv3 W)<|sd W (D6 W hv3 W)<|sv W<|A1<|A4<|A4<|F4 W<|sq W<|sq W<|sl W G_hit W<|sv W<|bs hz4 fun _ hv4 hz4=>sd W (C8 W W hv4 W)<|sv W<|sd W (D6 W hv4 W)<|sq W<|sl W (gq W) W (sv W<|A1<|cc W hz4 (fun c3 hz4=> ?_)<|fun c3 hz4=> ?_)
 refine A9<|sv W<|A1<|B0 ?_
 cases hz4
 obtain rfl:=ez4 _ rfl
 refine ⟨nofun,F2 ?_⟩
 rw [bT]at hz2
 cases hz2
 obtain rfl:=ez2 _ rfl
 refine ⟨nofun,F2 ?_⟩
 rw [bT]at h
 cases h
 exact A6 (.inr W) (B6 (B2 W) C1) (.refl _)
 refine A8<|A4<|F4 W<|sq W<|sq W<|sl W G_hit W<|sv W<|bs hz4 fun _ hv5 hz4=>sd W (C8 W W hv5 W)<|sv W<|sv W<|sd W (D6 W hv5 W)<|bs hz4 fun v6 hv6 hz4=>sd W (C8 W W hv6 W)<|sd W (D2 W hv6 W W)<|sd W (B3 W (gq W) W W)<|B9 (.d (bo (!(v6.X==v2.X&& (v6.Y==v2.Y&&true))))) W W (A1<|cc W hz4 (fun c4 hz4=> ?_)<|fun c4 hz4=> ?_)
 refine A9<|sv W<|A1<|B0 ?_
 cases hz4
 obtain rfl:=ez4 _ rfl
 refine ⟨nofun,F2 ?_⟩
 rw [bT]at hz2
 cases hz2
 obtain rfl:=ez2 _ rfl
 refine ⟨nofun,F2 ?_⟩
 rw [bT]at h
 cases h
 exact A6 (.inr W) (B6 (B2 W) C1) (.refl _)
 refine A8<|E2<|C0<|sv W<|sv W<|A1<|E5 ?_
 cases hz4
 exact ⟨W,(),(F3 W W)⟩
 refine C6 W ?_
 cases hz4
 obtain rfl:=ez4 _ rfl
 refine ⟨nofun,C4 W<|Aj ?_⟩
 exact ⟨_,(),W,(F3 W W)⟩
 rintro _ ⟨y2,g3,rfl,q1⟩
 rw [bS]at hz2
 refine E2<|B4 q1<|C0<|sv W<|sv W<|A1<|E5 ?_
 cases hz2
 exact ⟨W,(),(F3 W W)⟩
 refine C6 W ?_
 cases hz2
 obtain rfl:=ez2 _ rfl
 refine ⟨nofun,C4 W<|Aj ?_⟩
 exact ⟨_,(),W,(F3 W W)⟩
 rintro _ ⟨y1,g1,rfl,q2⟩
 rw [bS]at h
 refine B4 q2<|A9<|sv W<|A1<|B0 ?_
 cases h
 exact A6 (.inr W) (B6 (B2 W) C1) (.refl _)
def Aa (p1:Phase):Option Bool:=
  (Bu p1.Ticks 1 10000).bind fun v1=>some (!v1)
theorem Yh(p1 r)(h:Aa p1=some r):PCall Tryz.prog 212 [(.agg [(i64 p1.Ticks),(.list (List.map A5 p1.Green))])] (bo r):=by
 refine C3 (fk Tryz.func212 Tryz.ntmps212 m0 (by with_unfolding_all rfl)) (nl W) ?_
 unfold Aa at h
 refine B4 (s0:=⟨T [(0,(.d _))],G []⟩) (F3 W W) ?_
 refine A9<|sm W<|sv W<|A1<|A9<|sq W<|sl W G_hit W<|bs h fun v1 hv1 h=>B1 W W A3 (Gw _ _ _ _ hv1) (.inl W) (B9 (.d (bo (!v1))) W W (sv W<|A1<|B0 ?_))
 cases h
 exact A6 (.inr W) (B6 (B2 W) C1) (.refl _)
def F0 (p1:(List Phase))(x1:Int):Option (Stp Int (Sum Unit Int)):=
  cond (decide (x1< (p1.length:Int))) ((B7 p1 x1).bind fun v1=>(Aa v1).bind fun v2=>cond v2 (some (.out (.inr x1))) (some (.go (C5 (x1+1))))) (some (.out (.inl ())))
def H4 (p1:(List Phase)):Option Int:=
  thenS (loop (F0 p1) 0) (fun _=>some (-1)) (fun r=>some r)
theorem Fa(p1 r)(h:H4 p1=some r):PCall Tryz.prog 243 [(.list (List.map Dg p1)),(.fn (.func 212) [] [])] (i64 r):=by
 refine C3 (fk Tryz.func243 Tryz.ntmps243 m0 (by with_unfolding_all rfl)) (nl W) ?_
 unfold H4 at h
 refine B4 (s0:=⟨T [(0,(.d _)),(1,(.d _))],G []⟩) (F3 W W) ?_
 refine A9<|sv W<|A1<|A4<|A9<|sv W<|sd W (D7 W)<|sv W<|A1<|js h fun z1 hz1 h=>E0 (fun s=> ∃(y1:Unit) (g1:Unit),z1= .inl y1∧Sb ⟨T [],G []⟩ s) ?_ ?_
 refine A7<|E3 (F0 p1) (fun (x1:Int) (g2:Unit)=>⟨T [(0,(dl Dg p1)),(1,(.d (.fn (.func 212) [] []))),(7,(di (p1.length:Int))),(8,(di x1))],G []⟩) 0 () _ hz1 (F3 W W) ?_
 intro x1 g2 z2 hz2 ez2
 unfold F0 at hz2
 refine A9<|sv W<|A1<|A4<|cc W hz2 (fun c1 hz2=> ?_)<|fun c1 hz2=> ?_
 refine A8<|A4<|A7<|A9<|sv W<|sv W<|A1<|A9<|sv W<|sv W<|sv W<|bs hz2 fun _ hv1 hz2=>sd W (C8 W W hv1 W)<|sd W (D2 W hv1 W W)<|bs hz2 fun _ hv2 hz2=>B1 W W A3 (Yh _ _ hv2) (.inl W) (A1<|cc W hz2 (fun c2 hz2=> ?_)<|fun c2 hz2=> ?_)
 refine A9<|sv W<|sv W<|A1<|B0 ?_
 cases hz2
 obtain rfl:=ez2 _ rfl
 refine ⟨nofun,F2 ?_⟩
 rw [bT]at h
 cases h
 exact A6 (.inr W) (B6 (B2 W) C1) (.refl _)
 refine A8<|E2<|C0<|sv W<|sv W<|A1<|E5 ?_
 cases hz2
 exact ⟨W,(),(F3 W W)⟩
 refine C6 W ?_
 cases hz2
 obtain rfl:=ez2 _ rfl
 refine ⟨nofun,C4 W<|Aj ?_⟩
 exact ⟨_,(),W,(F3 W W)⟩
 rintro _ ⟨y1,g1,rfl,q1⟩
 rw [bS]at h
 refine B4 q1<|A9<|sv W<|A1<|B0 ?_
 cases h
 exact A6 (.inr W) (B6 (B2 W) C1) (.refl _)
def F1 (p1:(List Phase)):Option Bool:=
  (H4 p1).bind fun v1=>some (decide (v1≥0))
theorem Eb(p1 r)(h:F1 p1=some r):PCall Tryz.prog 211 [(.list (List.map Dg p1)),(.fn (.func 212) [] [])] (bo r):=by
 refine C3 (fk Tryz.func211 Tryz.ntmps211 m0 (by with_unfolding_all rfl)) (nl W) ?_
 unfold F1 at h
 refine B4 (s0:=⟨T [(0,(.d _)),(1,(.d _))],G []⟩) (F3 W W) ?_
 refine A9<|sv W<|A1<|A9<|sv W<|sv W<|bs h fun _ hv1 h=>B1 W W A3 (Fa _ _ hv1) (.inl W) (sv W<|sv W<|A1<|B0 ?_)
 cases h
 exact A6 (.inr W) (B6 (B2 W) C1) (.refl _)
def W3 (p1:Phase)(p2:RoadsCheck):Option Bool:=
  (Ds p1.Green 0 (p2.Map_.Lanes.length:Int)).bind fun v1=>some (!v1)
theorem Vv(p1 p2 r)(h:W3 p1 p2=some r):PCall Tryz.prog 213 [(.agg [(i64 p1.Ticks),(.list (List.map A5 p1.Green))]),(.bp (U5 p2.Map_) 0)] (bo r):=by
 refine C3 (fk Tryz.func213 Tryz.ntmps213 m0 (by with_unfolding_all rfl)) (nl W) ?_
 unfold W3 at h
 refine B4 (s0:=⟨T [(0,(.d _)),(1,(.d _))],G []⟩) (F3 W W) ?_
 refine A9<|sm W<|sv W<|A1<|A9<|sq W<|sl W G_hit W<|sv W<|sv W<|sv W<|sd W (D7 W)<|bs h fun v1 hv1 h=>B1 W W A3 (Ts _ _ _ _ hv1) (.inl W) (B9 (.d (bo (!v1))) W W (sv W<|A1<|B0 ?_))
 cases h
 exact A6 (.inr W) (B6 (B2 W) C1) (.refl _)
def E8 (p1:(List Phase))(p2:RoadsCheck)(x1:Int):Option (Stp Int (Sum Unit Int)):=
  cond (decide (x1< (p1.length:Int))) ((B7 p1 x1).bind fun v1=>(W3 v1 p2).bind fun v2=>cond v2 (some (.out (.inr x1))) (some (.go (C5 (x1+1))))) (some (.out (.inl ())))
def G8 (p1:(List Phase))(p2:RoadsCheck):Option Int:=
  thenS (loop (E8 p1 p2) 0) (fun _=>some (-1)) (fun r=>some r)
theorem Er(p1 p2 r)(h:G8 p1 p2=some r):PCall Tryz.prog 243 [(.list (List.map Dg p1)),(.fn (.func 213) [] [(.bp (U5 p2.Map_) 0)])] (i64 r):=by
 refine C3 (fk Tryz.func243 Tryz.ntmps243 m0 (by with_unfolding_all rfl)) (nl W) ?_
 unfold G8 at h
 refine B4 (s0:=⟨T [(0,(.d _)),(1,(.d _))],G []⟩) (F3 W W) ?_
 refine A9<|sv W<|A1<|A4<|A9<|sv W<|sd W (D7 W)<|sv W<|A1<|js h fun z1 hz1 h=>E0 (fun s=> ∃(y1:Unit) (g1:Unit),z1= .inl y1∧Sb ⟨T [],G []⟩ s) ?_ ?_
 refine A7<|E3 (E8 p1 p2) (fun (x1:Int) (g2:Unit)=>⟨T [(0,(dl Dg p1)),(1,(.d (.fn (.func 213) [] [(.bp (U5 p2.Map_) 0)]))),(7,(di (p1.length:Int))),(8,(di x1))],G []⟩) 0 () _ hz1 (F3 W W) ?_
 intro x1 g2 z2 hz2 ez2
 unfold E8 at hz2
 refine A9<|sv W<|A1<|A4<|cc W hz2 (fun c1 hz2=> ?_)<|fun c1 hz2=> ?_
 refine A8<|A4<|A7<|A9<|sv W<|sv W<|A1<|A9<|sv W<|sv W<|sv W<|bs hz2 fun _ hv1 hz2=>sd W (C8 W W hv1 W)<|sd W (D2 W hv1 W W)<|bs hz2 fun _ hv2 hz2=>B1 W W A3 (Vv _ _ _ hv2) (.inl W) (A1<|cc W hz2 (fun c2 hz2=> ?_)<|fun c2 hz2=> ?_)
 refine A9<|sv W<|sv W<|A1<|B0 ?_
 cases hz2
 obtain rfl:=ez2 _ rfl
 refine ⟨nofun,F2 ?_⟩
 rw [bT]at h
 cases h
 exact A6 (.inr W) (B6 (B2 W) C1) (.refl _)
 refine A8<|E2<|C0<|sv W<|sv W<|A1<|E5 ?_
 cases hz2
 exact ⟨W,(),(F3 W W)⟩
 refine C6 W ?_
 cases hz2
 obtain rfl:=ez2 _ rfl
 refine ⟨nofun,C4 W<|Aj ?_⟩
 exact ⟨_,(),W,(F3 W W)⟩
 rintro _ ⟨y1,g1,rfl,q1⟩
 rw [bS]at h
 refine B4 q1<|A9<|sv W<|A1<|B0 ?_
 cases h
 exact A6 (.inr W) (B6 (B2 W) C1) (.refl _)
def E9 (p1:(List Phase))(p2:RoadsCheck):Option Bool:=
  (G8 p1 p2).bind fun v1=>some (decide (v1≥0))
theorem Dt(p1 p2 r)(h:E9 p1 p2=some r):PCall Tryz.prog 211 [(.list (List.map Dg p1)),(.fn (.func 213) [] [(.bp (U5 p2.Map_) 0)])] (bo r):=by
 refine C3 (fk Tryz.func211 Tryz.ntmps211 m0 (by with_unfolding_all rfl)) (nl W) ?_
 unfold E9 at h
 refine B4 (s0:=⟨T [(0,(.d _)),(1,(.d _))],G []⟩) (F3 W W) ?_
 refine A9<|sv W<|A1<|A9<|sv W<|sv W<|bs h fun _ hv1 h=>B1 W W A3 (Er _ _ _ hv1) (.inl W) (sv W<|sv W<|A1<|B0 ?_)
 cases h
 exact A6 (.inr W) (B6 (B2 W) C1) (.refl _)
def Q3 (p1:RoadsCheck)(x1:Int):Option (Stp Int (Sum Unit Int)):=
  cond (decide (x1< (p1.Map_.Signals.length:Int))) ((B7 p1.Map_.Signals x1).bind fun v1=>cond ((v1.Phases.length:Int)==0) (some (.out (.inr 6))) (cond (decide ((v1.Phases.length:Int)>6)) (some (.out (.inr 8))) ((Bu v1.Offset 0 1099511627776).bind fun v2=>cond (!v2) (some (.out (.inr 2))) ((F1 v1.Phases).bind fun v3=>cond v3 (some (.out (.inr 2))) ((E9 v1.Phases p1).bind fun v4=>cond v4 (some (.out (.inr 11))) (some (.go (C5 (x1+1))))))))) (some (.out (.inl ())))
def W1 (p1:RoadsCheck):Option Int:=
  thenS (loop (Q3 p1) 0) (fun _=>some 0) (fun r=>some r)
theorem AI(p1 r)(h:W1 p1=some r):PCall Tryz.prog 151 [(.agg (U5 p1.Map_))] (i64 r):=by
 refine C3 (fk Tryz.func151 Tryz.ntmps151 m0 (by with_unfolding_all rfl)) (nl W) ?_
 unfold W1 at h
 refine B4 (s0:=⟨T [(0,(.d _))],G []⟩) (F3 W W) ?_
 refine lr<|fun u1 _=>sm W<|sv W<|A1<|A4<|A9<|sq W<|sp W W<|sl W G_hit W<|sd W (D7 W)<|sv W<|A1<|js h fun z1 hz1 h=>E0 (fun s=> ∃(y1:Unit) (g1:Unit),z1= .inl y1∧Sb ⟨T [],G []⟩ s) ?_ ?_
 refine A7<|E3 (Q3 p1) (fun (x1:Int) (g2:Unit)=>⟨T [(1,(.ptr (1,u1) 0)),(8,(dl Qf p1.Map_.Signals)),(9,(di (p1.Map_.Signals.length:Int))),(10,(di x1))],G [((1,u1),some<|.box 212 (M7 p1.Map_))]⟩) 0 () _ hz1 (F3 W W) ?_
 intro x1 g2 z2 hz2 ez2
 unfold Q3 at hz2
 refine A9<|sv W<|A1<|A4<|cc W hz2 (fun c1 hz2=> ?_)<|fun c1 hz2=> ?_
 refine A8<|A4<|A7<|A9<|bs hz2 fun v1 hv1 hz2=>sd W (C8 W W hv1 W)<|sd W (D2 W hv1 W W)<|sm W<|Bc W G_hit [(di v1.Offset),(dl Dg v1.Phases)] W (A1<|A9<|sq W<|sl W G_hit W<|sd W (D7 W)<|sv W<|A1<|A7<|A9<|sv W<|sv W<|sv W<|A1<|cc W hz2 (fun c2 hz2=> ?_)<|fun c2 hz2=> ?_)
 refine A9<|sv W<|A1<|B0 ?_
 cases hz2
 obtain rfl:=ez2 _ rfl
 refine ⟨nofun,F2 ?_⟩
 rw [bT]at h
 cases h
 exact A6 (.inr W) (B6 (B2 W) C1) (.refl _)
 refine A9<|sv W<|sv W<|sv W<|A1<|cc W hz2 (fun c3 hz2=> ?_)<|fun c3 hz2=> ?_
 refine A9<|sv W<|A1<|B0 ?_
 cases hz2
 obtain rfl:=ez2 _ rfl
 refine ⟨nofun,F2 ?_⟩
 rw [bT]at h
 cases h
 exact A6 (.inr W) (B6 (B2 W) C1) (.refl _)
 refine A9<|sq W<|sl W G_hit W<|bs hz2 fun v2 hv2 hz2=>B1 W W A3 (Gw _ _ _ _ hv2) (.inl W) (B9 (.d (bo (!v2))) W W (sv W<|A1<|cc W hz2 (fun c4 hz2=> ?_)<|fun c4 hz2=> ?_))
 refine A9<|sv W<|A1<|B0 ?_
 cases hz2
 obtain rfl:=ez2 _ rfl
 refine ⟨nofun,F2 ?_⟩
 rw [bT]at h
 cases h
 exact A6 (.inr W) (B6 (B2 W) C1) (.refl _)
 refine A9<|sq W<|sl W G_hit W<|bs hz2 fun _ hv3 hz2=>B1 W W A3 (Eb _ _ hv3) (.inl W) (sv W<|A1<|cc W hz2 (fun c5 hz2=> ?_)<|fun c5 hz2=> ?_)
 refine A9<|sv W<|A1<|B0 ?_
 cases hz2
 obtain rfl:=ez2 _ rfl
 refine ⟨nofun,F2 ?_⟩
 rw [bT]at h
 cases h
 exact A6 (.inr W) (B6 (B2 W) C1) (.refl _)
 refine A9<|sq W<|sl W G_hit W<|B9 (.fn _ _ _) W W (bs hz2 fun _ hv4 hz2=>B1 W (rD<|E7 (EY G2<|E7 (Df (gq W)<|rD<|rD<|rD<|rD<|rD G2) G2) G2) A3 (Dt _ _ _ hv4) (.inr W) (sv W<|A1<|cc W hz2 (fun c6 hz2=> ?_)<|fun c6 hz2=> ?_))
 refine A9<|sv W<|A1<|B0 ?_
 cases hz2
 obtain rfl:=ez2 _ rfl
 refine ⟨nofun,F2 ?_⟩
 rw [bT]at h
 cases h
 exact A6 (.inr W) (B6 (B2 W) C1) (.refl _)
 refine A8<|E2<|E2<|C0<|sv W<|sv W<|A1<|E5 ?_
 cases hz2
 exact ⟨W,(),(F3 W W)⟩
 refine C6 W ?_
 cases hz2
 obtain rfl:=ez2 _ rfl
 refine ⟨nofun,C4 W<|Aj ?_⟩
 exact ⟨_,(),W,(F3 W W)⟩
 rintro _ ⟨y1,g1,rfl,q1⟩
 rw [bS]at h
 refine B4 q1<|A9<|sv W<|A1<|B0 ?_
 cases h
 exact A6 (.inr W) (B6 (B2 W) C1) (.refl _)
/-- kerbstone/curve.pieces$1 -/
def Xs:AC:=(.seq (.reg [oo 3 (.mv (ci 0))]) (.seq (.reg [oo 8 (.fieldA 0 (.t 1)),oo 9 (.load 1 false (.t 8)),oo 10 (.len (.t 9)),oo 11 (.bin .sub (.t 10) (ci 1)),oo 12 (.mv (ci 0))]) (.block 0 (.loop (.seq (.reg [oo 13 (.bin .lss (.t 12) (.t 11))]) (.seq (.cond (.t 13) .skip (.exit 0)) (.seq (.block 1 (.seq (.reg [oo 14 (.mv (.t 12)),oo 4 (.mv (.t 14))]) (.seq (.draw [oo 15 (.fieldA 0 (.t 1)),oo 16 (.load 1 false (.t 15)),oo 17 (.mv (.t 4)),oo 18 (.idxS 2 (.t 16) (.t 17)),oo 19 (.load 2 true (.t 18)),oo 20 (.fieldA 0 (.t 1)),oo 21 (.load 1 false (.t 20)),oo 22 (.mv (.t 4)),oo 23 (.bin .add (.t 22) (ci 1)),oo 24 (.idxS 2 (.t 21) (.t 23)),oo 25 (.load 2 true (.t 24)),oo 26 (.call (cf 238) [(.t 19),(.t 25)]),oo 5 (.alloc 253 [z0,z0]),oe (.store 2 (.t 5) (.t 26))] []) (.seq (.reg [oo 28 (.load 2 true (.t 5)),oo 29 (.load 2 true (.t 5)),oo 30 (.call (cf 240) [(.t 28),(.t 29)]),oo 31 (.call (cf 239) [(.t 30)]),oo 27 (.mv (.t 31)),oo 32 (.ext (.t 27) 0),oo 33 (.ext (.t 27) 1),oo 6 (.mv (.t 32)),oo 7 (.mv (.t 33))]) (.seq (.seq (.drawB [oo 34 (.mv (.t 0)),oo 35 (.mv (.t 4)),oo 36 (.fieldA 0 (.t 1)),oo 37 (.load 1 false (.t 36)),oo 38 (.mv (.t 4)),oo 39 (.idxS 2 (.t 37) (.t 38)),oo 40 (.load 2 true (.t 39)),oo 41 (.load 2 true (.t 5)),oo 42 (.mv (.t 6)),oo 43 (.mv (.t 3)),oo 44 (.build [z0,z0,z0,z0,z0,z0] [(0,2,(.t 40)),(2,2,(.t 41)),(4,1,(.t 42)),(5,1,(.t 43))]),oo 45 (.icall (.t 34) [(.t 35),(.t 44)]),oo 46 (.un .not (.t 45))] 11 []) (.cond (.t 46) .ret .skip)) (.reg [oo 47 (.mv (.t 3)),oo 48 (.mv (.t 6)),oo 49 (.bin .add (.t 47) (.t 48)),oo 3 (.mv (.t 49))])))))) (.reg [oo 50 (.bin .add (.t 12) (ci 1)),oo 12 (.mv (.t 50))]))))))))
theorem IK:FnOK Tryz.prog 260 51 [] Xs:=⟨_,_,Tryz.func260,rfl,Tryz.ntmps260,by kernel_rfl,⟨fun r=>if r==6 then [11]else [],by kernel_rfl⟩,by kernel_rfl⟩
/-- The pieces of a chain of points, from a number on. -/
def Ms (pts:List Spot):Nat→Nat→Int→Option (List (Int×CurvePiece))
  |0,_,_=>some []
  |n+1,i,start=>(pts[i]?).bind fun p=>(pts[i+1]?).bind fun q=>(Kb p q).bind fun v=>(Z6 v v).bind fun d=>(Hz d).bind fun r=>
   (Ms pts n (i+1) (C5 (start+r.1))).bind fun l=>some (((i:Int),CurvePiece.mk p v r.1 start)::l)
def Xt (pts:List Spot):Option (List (Int×CurvePiece)):=if pts.length≤1000000 then Ms pts (pts.length - 1) 0 0 else none
/-- kerbstone/curve.pieces -/
def BN:AC:=(.seq (.reg [oo 1 (.box 61 true (.t 0)),oo 2 (.mv (.c (.v .nilFunc)))]) (.seq (.reg [oo 3 (.mkfn (.func 260) [] [(.t 1)]),oo 2 (.mv (.t 3))]) .ret))
theorem LH:FnOK Tryz.prog 241 4 [.t 2] BN:=⟨_,_,Tryz.func241,rfl,Tryz.ntmps241,by kernel_rfl,⟨fun _=> [],by kernel_rfl⟩,by kernel_rfl⟩
abbrev TE (a:Int×CurvePiece):List D:= [i64 a.1, .agg [i64 a.2.p.X,i64 a.2.p.Y,i64 a.2.v.x,i64 a.2.v.y,i64 a.2.l,i64 a.2.start]]
theorem VN (c:Curve):PCall Tryz.prog 241 [.agg [.list (List.map Ek c.Pts)]] (.fn (.func 260) [] [.bp [.list (List.map Ek c.Pts)] 0]):=by
  refine gC LH (by simp) ?_
  unfold BN
  refine Rj<|Vr fun _ _=> ?_
  refine XU (.ptr _ _) _ W W ?_
  refine G7 (.d _) W W ?_
  refine De ?_
  refine Rj<|Vr fun u' hu'=> ?_
  refine G7 (.fn _ _ _) W W ?_
  refine G7 (.fn _ _ _) W W ?_
  refine De ?_
  refine XQ ⟨.inr W,?_⟩
  refine B6 (B2 (v:= .fn _ _ _) W) ?_
  exact EY G2<|E7 (Df (by simp only [Dd,if_true];rfl)<|E7 C1 G2) G2
theorem iH (ps:List Spot)(n:Int)(i:Nat)(p:Spot)(hn:n=i)(h:ps[i]? =some p):(List.map Ek ps)[n.toNat]? =some (Ek p):=by
  subst hn
  rw [bU,lJ,h];rfl
theorem YI {n:Int}(h: -9223372036854775808≤n∧n≤9223372036854775807):C5 n=n:=Go.IntWalk.i64_in n h
theorem LI (pts:List Spot): ∀n i s L,Ms pts n i s=some L→L.length=n:=by
  intro n
  induction n with
  |zero=>intro i s L h;cases h;rfl
  |succ n ih=>
   intro i s L h
   rw [Ms]at h
   obtain ⟨p,hp,h⟩:=bind_some h
   obtain ⟨q,hq,h⟩:=bind_some h
   obtain ⟨v,hv,h⟩:=bind_some h
   obtain ⟨d,hd,h⟩:=bind_some h
   obtain ⟨r,hr,h⟩:=bind_some h
   obtain ⟨l,hl,h⟩:=bind_some h
   cases h
   rw [lK,ih _ _ _ hl]
theorem VO {pts:List Spot}{L:List (Int×CurvePiece)}(h:Xt pts=some L):gN Tryz.prog (.fn (.func 260) [] [.bp [.list (List.map Ek pts)] 0]) (L.map TE):=by
  unfold Xt at h
  split at h
  case isFalse=>cases h
  rename_i hlen
  refine ⟨260,[],_,W,?_⟩
  intro k h0 Inv Stop hi0 hy
  refine NL IK (by simp) ?_
  unfold Xs
  refine Rj<|Vr fun u hu=> ?_
  refine G7 (.d _) W W ?_
  refine De ?_
  refine Rj<|Vr fun u hu=> ?_
  refine G7 (.d _) W W ?_
  refine G7 (.d _) W W ?_
  refine G7 (.d (i64 pts.length)) W (D7 (f:=Ek) W) ?_
  refine G7 (.d _) W W ?_
  refine G7 (.d _) W W ?_
  refine De ?_
  refine NH ?_
  refine UP (α:=Nat×Int×E4) (fun x=>⟨T [(0, .yld k),(1, .d (.bp [.list (List.map Ek pts)] 0)),(3, .d (i64 x.2.1)),(11, .d (i64<|C5 (pts.length - 1))),(12, .d (i64 x.1))],x.2.2⟩) (fun x=>pts.length - x.1)
    (fun x=>Inv x.1 x.2.2∧x.1≤pts.length - 1∧Ms pts (pts.length - 1 - x.1) x.1 x.2.1=some (L.drop x.1)) (0,0,h0) ⟨hi0,by omega,h⟩ (CT ⟨rfl,rfl,rfl,rfl,rfl,trivial⟩ fun _ _ h=>h) ?_
  rintro ⟨i,start,hh⟩ ⟨hinv,hi,hgo⟩
  dsimp only at hinv hi hgo ⊢
  refine Rj<|Vr fun u hu=> ?_
  refine G7 (.d _) W W ?_
  refine De ?_
  refine Rj ?_
  refine gF W (fun hlt=> ?_)<|fun hlt=> ?_
  ·refine SQ ?_
   have hlen1:C5 ((pts.length:Int) - 1)=pts.length - 1:=YI (by omega)
   rw [hlen1]at hlt
   have hi1:i+1<pts.length:=by omega
   have hw1:IntKind.i64.wrap ((i:Int)+1)=(i:Int)+1:=YI (by omega)
   obtain ⟨m,hm⟩: ∃m,pts.length - 1 - i=m+1:=⟨pts.length - 1 - i - 1,by omega⟩
   rw [hm,Ms]at hgo
   obtain ⟨p,hp,hgo⟩:=bind_some hgo
   obtain ⟨q,hq,hgo⟩:=bind_some hgo
   obtain ⟨v,hv,hgo⟩:=bind_some hgo
   obtain ⟨d,hd,hgo⟩:=bind_some hgo
   obtain ⟨r,hr,hgo⟩:=bind_some hgo
   obtain ⟨l,hl,hgo⟩:=bind_some hgo
   have hgo:((i:Int),CurvePiece.mk p v r.1 start)::l=L.drop i:=lD hgo
   have hLi:L[i]? =some ((i:Int),CurvePiece.mk p v r.1 start):=by
     have:=congrArg (fun z=>z[0]?) hgo
     simpa using this.symm
   have hLd:L.drop (i+1)=l:=by
     have:=congrArg (fun z=>z.drop 1) hgo
     simpa using this.symm
   have hin: ∀(p:Spot) (n:Int) (j:Nat),n=j→pts[j]? =some p→(List.map Ek pts)[n.toNat]? =some (Ek p):=fun p n j=>iH pts n j p
   refine Rj ?_
   refine NH ?_
   refine Rj<|Vr fun u hu=> ?_
   refine G7 (.d _) W W ?_
   refine G7 (.d _) W W ?_
   refine De ?_
   refine Rj<|ZT W fun u hu=> ?_
   refine G7 (.d _) W W ?_
   refine G7 (.d _) W W ?_
   refine G7 (.d _) W W ?_
   refine XV _ _ _ _ W W (Int.natCast_nonneg i) (hin p _ i W hp) W ?_
   refine JN _ _ _ _ _ W (hin p _ i W hp) (by simp) W ?_
   refine G7 (.d _) W W ?_
   refine G7 (.d _) W W ?_
   refine G7 (.d _) W W ?_
   refine G7 (.d _) W W ?_
   refine XV _ _ _ _ W W (by rw [hw1];omega) (hin q _ (i+1) (by rw [hw1];rfl) hq) W ?_
   refine JN _ _ _ _ _ W (hin q _ (i+1) (by rw [hw1];rfl) hq) (by simp) W ?_
   refine EE W W (FC p q _ hv) (.inl W) ?_
   refine XU (.ptr _ _) _ W W ?_
   refine US _ _ _ _ _ W W W (by simp only [Dd,if_true];rfl) (by simp) ?_
   refine De ?_
   refine Rj<|Vr fun u' hu'=> ?_
   refine NN _ _ _ _ (.d (.agg [i64 v.x,i64 v.y])) W (by simp only [Dd,if_true];rfl) (by simp [Nm]) W ?_
   refine NN _ _ _ _ (.d (.agg [i64 v.x,i64 v.y])) W (by simp only [Dd,if_true];rfl) (by simp [Nm]) W ?_
   refine EE W W (Og v v _ hd) (.inl W) ?_
   refine EE W W (FD d _ hr) (.inl W) ?_
   refine G7 (.d _) W W ?_
   refine G7 (.d _) W W ?_
   refine G7 (.d _) W W ?_
   refine G7 (.d _) W W ?_
   refine G7 (.d _) W W ?_
   refine De ?_
   refine Rj<|Rj ?_
   refine gB W fun _ _=> ?_
   simp only [List.take,List.drop]
   refine G7 (.yld _) W W ?_
   refine G7 (.d _) W W ?_
   refine G7 (.d _) W W ?_
   refine G7 (.d _) W W ?_
   refine G7 (.d _) W W ?_
   refine XV _ _ _ _ W W (Int.natCast_nonneg i) (hin p _ i W hp) W ?_
   refine JN _ _ _ _ _ W (hin p _ i W hp) (by simp) W ?_
   refine NN _ _ _ _ (.d (.agg [i64 v.x,i64 v.y])) W (by simp only [Dd,if_true];rfl) (by simp [Nm]) W ?_
   refine G7 (.d _) W W ?_
   refine G7 (.d _) W W ?_
   refine G7 (.d _) W W ?_
   refine De ?_
   intro u3 hu3
   refine gJ k ((TE ((i:Int),CurvePiece.mk p v r.1 start)).map .d) W W ?_
   refine YCall.weak (ZU hu<|ZU hu fun _ _ h=>h) ((hy i hh _ (by rw [lJ,hLi];rfl) hinv).mono ?_)
   rintro v' h' (⟨rfl,hin⟩|⟨rfl,hst⟩)
   ·intro u4 hu4
    refine G7 (.d _) W W ?_
    refine De ?_
    refine HU (t:=false) W (fun h=>by cases h) (fun _=> ?_)
    refine SQ ?_
    refine Vr fun u hu=> ?_
    refine G7 (.d _) W W ?_
    refine G7 (.d _) W W ?_
    refine G7 (.d _) W W ?_
    refine G7 (.d _) W W ?_
    refine De ?_
    refine Vr fun u hu=> ?_
    refine G7 (.d _) W W ?_
    refine G7 (.d _) W W ?_
    refine De ?_
    refine ⟨(i+1,C5 (start+r.1),h'),⟨hin,by dsimp only;omega,?_⟩,by dsimp only;omega,CT ⟨rfl,rfl,rfl,rfl,?_,trivial⟩ fun _ _ h=>h⟩
    ·dsimp only
     rw [hLd,show pts.length - 1 - (i+1)=m by omega];exact hl
    ·show AV.d (i64 (IntKind.i64.wrap ((i:Int)+1)))=_
     rw [hw1];rfl
   ·intro u4 hu4
    refine G7 (.d _) W W ?_
    refine De ?_
    refine HU (t:=true) W (fun _=> ?_) (fun h=>by cases h)
    refine XQ ?_
    dsimp only
    exact ⟨Or.inr trivial,AV.tup [],W,Or.inr hst⟩
  ·refine SR ?_
   have hlen1:1≤pts.length→C5 ((pts.length:Int) - 1)=pts.length - 1:=fun _=>YI (by omega)
   have:i=pts.length - 1:=by
     by_cases h:1≤pts.length
     ·rw [hlen1 h]at hlt;omega
     ·omega
   subst this
   rw [Nat.sub_self,Ms]at hgo
   have hL:(L.map TE).length=pts.length - 1:=by
     have h1:L.drop (pts.length - 1)= []:=(lD hgo).symm
     have h2:=List.drop_eq_nil_iff.1 h1
     rw [lR]
     refine Nat.le_antisymm h2 ?_
     exact Nat.le_of_eq (LI _ _ _ _ _ h).symm
   exact ⟨.inl W,_,W, .inl (by rw [hL];exact hinv)⟩
def Bv (x1:(List Int))(a1:(Int×CurvePiece)):Option (Stp (List Int) (List Int)):=
  (Bo x1 [a1.2.l]).bind fun v3=>some (.go v3)
def Hc (p1:Curve):Option (List Int):=
  (Hb p1).bind fun v1=>cond (v1 !=0) (some []) (((Xt p1.Pts).bind fun v2=>loopL (Bv) (fun (x1:(List Int))=>x1) v2 []).bind fun y1=>some y1)
theorem LJ(p1 r)(h:Hc p1=some r):PCall Tryz.prog 261 [(.agg [(.list (List.map Ek p1.Pts))])] (.list (List.map A5 r)):=by
 refine C3 (fk Tryz.func261 Tryz.ntmps261 (fun r=>if r==6 then [1003]else []) (by with_unfolding_all rfl)) (nl W) ?_
 unfold Hc at h
 refine B4 (s0:=⟨T [(0,(.d _))],G []⟩) (F3 W W) ?_
 refine A9<|sm W<|sv W<|A1<|A4<|A9<|sd W (B3 W G_hit W W)<|bs h fun _ hv1 h=>B1 W W A3 (DB _ _ hv1) (.inl W) (sv W<|A1<|cc W h (fun c1 h=> ?_)<|fun c1 h=> ?_)
 refine A9<|sv W<|A1<|B0 ?_
 cases h
 exact A6 (.inr W) (B6 (B2 W) C1) DLe.nil
 refine A8<|lr<|fun u4 _=>sm W<|A1<|A4<|A9<|sd W (B3 W (gq W) W W)<|B1 W W A3 (VN p1) (.inl W) (A1<|bs h fun y1 hy1 h=>E0 (fun s=> ∃g1:Nat,Sb ⟨T [(3,(.ptr (3,u4) 0))],G [((3,u4),some<|.box 48 [(oS y1 (17,g1))]),((17,g1),oB 2 1 A5 y1)]⟩ s) ?_ ?_)
 refine A7<|bs hy1 fun v2 hv2 hy1=>B4 (s0:=⟨T [(3,(.ptr _ _)),(10,(.d _))],G [((3,u4),some<|.box 48 _)]⟩) (F3 W W) ?_
 refine gP (.fn (.func 260) [] [(.bp [(.list (List.map Ek p1.Pts))] 0)]) TE v2 (Bv) (fun (x1:(List Int))=>x1) (fun (x1:(List Int)) (g2:Nat)=> [((3,u4),some<|.box 48 [(oS x1 (17,g2))]),((17,g2),oB 2 1 A5 x1)]) [] 0 _ W (VO hv2) (fun _=>W) hy1 (E1 trivial<|B5 G_hit (.of W)<|X0 trivial) nofun ?_ ?_
 intro u7 hu7 hku7
 refine ⟨fun x1 g2=>(F9 W<|F9 W W),?_⟩
 intro r1 x1 g2 a1 z1 hrr1 hz1 ez1
 unfold Bv at hz1
 show Fb _ _ _ _ _ _ ⟨T [(12,(.d (.agg (VL a1.2)))),(11,(di a1.1)),(3,(.ptr (3,u4) 0)),(10,(.d (.fn (.func 260) [] [(.bp [(.list (List.map Ek p1.Pts))] 0)])))],G [((1000000,u7),some (.obj (T [(3,(.ptr (3,u4) 0)),(10,(.d (.fn (.func 260) [] [(.bp [(.list (List.map Ek p1.Pts))] 0)])))]) r1)),((3,u4),some (.box 48 [(oS x1 (17,g2))])),((17,g2),oB 2 1 A5 x1)]⟩
 refine C0<|sm W<|Bc W G_hit (VM a1.2) W (A1<|Aj<|YC (gq W) ?_)
 refine A7<|Eh fun u9 _=>B9 (oS x1 (17,g2)) W (T6 W (gq W) W) (sq W<|sl W (gq W) W (B9 (dl A5 [a1.2.l]) W W (bs hz1 fun _ hv3 hz1=>V3 A5 (17,g2) x1 a1.2.l [] _ (N3<|fun _=>W) W (gq W) hv3 (Bc W (gq W) [(.sl (17,u9))] W (A1<|E2<|E5 ?_)))))
 cases hz1
 exact gQ (gq W) u9 (B5 G_hit (.box (.cons (.of (Aq<|Ba hv3).symm) .nil))<|O6 (gq W) trivial)
 rintro x1 g2 _ rfl qx1
 refine E2<|Aj ?_
 exact ⟨g2,(Sb.after qx1<|E1 ⟨.of W,trivial⟩<|B5 G_hit (.of W)<|B8 (gq W) trivial)⟩
 rintro _ ⟨g1,q1⟩
 refine B4 q1<|A9<|B9 (oS y1 (17,g1)) W (T6 W G_hit W) (B9 (oS y1 (17,g1)) W W (A1<|B0 ?_))
 cases h
 exact A6 (.inr W) (B6 (B2 W)<|Y3<|gq W) Y2
def Y5 (v1:(List Int))(x1:(Int×Int)):Option (Stp (Int×Int) Int):=
  cond (decide (x1.2< (v1.length:Int))) ((B7 v1 x1.2).bind fun v2=>some (.go ((C5 (x1.1+v2)),(C5 (x1.2+1))))) (some (.out x1.1))
def Hd (p1:Curve):Option Int:=
  (Hc p1).bind fun v1=>(loop (Y5 v1) (0,0)).bind fun y1=>some y1
theorem LK(p1 r)(h:Hd p1=some r):PCall Tryz.prog 242 [(.agg [(.list (List.map Ek p1.Pts))])] (i64 r):=by
 refine C3 (fk Tryz.func242 Tryz.ntmps242 m0 (by with_unfolding_all rfl)) (nl W) ?_
 unfold Hd at h
 refine B4 (s0:=⟨T [(0,(.d _))],G []⟩) (F3 W W) ?_
 refine A9<|sm W<|sv W<|A1<|A9<|sv W<|A1<|A4<|A9<|sd W (B3 W G_hit W W)<|bs h fun v1 hv1 h=>B1 W W A3 (LJ _ _ hv1) (.inl W) (sd W (D7 W)<|sv W<|A1<|bs h fun y1 hy1 h=>E0 (fun s=> ∃g1:Unit,Sb ⟨T [(3,(di y1))],G []⟩ s) ?_ ?_)
 refine A7<|E3 (Y5 v1) (fun (x1:(Int×Int)) (g2:Unit)=>⟨T [(3,(di x1.1)),(7,(dl A5 v1)),(8,(di (v1.length:Int))),(9,(di x1.2))],G []⟩) (0,0) () _ hy1 (F3 W W) ?_
 intro x1 g2 z1 hz1 ez1
 unfold Y5 at hz1
 refine A9<|sv W<|A1<|A4<|cc W hz1 (fun c1 hz1=> ?_)<|fun c1 hz1=> ?_
 refine A8<|A4<|A7<|A9<|bs hz1 fun _ hv2 hz1=>sd W (C8 W W hv2 W)<|sd W (D6 W hv2 W)<|sv W<|A1<|C0<|sv W<|sv W<|sv W<|sv W<|A1<|E2<|C0<|sv W<|sv W<|A1<|E5 ?_
 cases hz1
 exact ⟨W,(),(F3 W W)⟩
 refine C6 W ?_
 cases hz1
 obtain rfl:=ez1 _ rfl
 refine ⟨nofun,C4 W<|Aj ?_⟩
 exact ⟨(),(F3 W W)⟩
 rintro _ ⟨g1,q1⟩
 refine B4 q1<|A9<|sv W<|sv W<|A1<|B0 ?_
 cases h
 exact A6 (.inr W) (B6 (B2 W) C1) (.refl _)
def Es (p1:Map)(p2:Int):Option Int:=
  (B7 p1.Lanes p2).bind fun v1=>(Hd v1.Curve_).bind fun v2=>some v2
theorem Sk(p1 p2 r)(h:Es p1 p2=some r):PCall Tryz.prog 207 [(.agg (U5 p1)),(i64 p2)] (i64 r):=by
 refine C3 (fk Tryz.func207 Tryz.ntmps207 m0 (by with_unfolding_all rfl)) (nl W) ?_
 unfold Es at h
 refine B4 (s0:=⟨T [(0,(.d _)),(1,(.d _))],G []⟩) (F3 W W) ?_
 refine A9<|sm W<|sv W<|A1<|A9<|sq W<|sl W G_hit W<|sv W<|bs h fun _ hv1 h=>sd W (C8 W W hv1 W)<|sv W<|sd W (D2 W hv1 W W)<|bs h fun _ hv2 h=>B1 W W A3 (LK _ _ hv2) (.inl W) (sv W<|A1<|B0 ?_)
 cases h
 exact A6 (.inr W) (B6 (B2 W) C1) (.refl _)
def T9 (p1:RoadsCheck)(v1:Zone)(x3:Int):Option (Stp Int (Sum Unit Int)):=
  cond (decide (x3< (v1.Parts.length:Int))) ((B7 v1.Parts x3).bind fun v5=>((cond (!((decide (v5.From<0))||(decide (v5.From≥v5.To)))) (Es p1.Map_ v5.Lane_) (some default))).bind fun v6=>cond (((((decide (v5.From<0))||(decide (v5.From≥v5.To)))||(decide (v5.To>v6)))||(decide (v5.Rank<0)))||(decide (v5.Rank>100))) (some (.out (.inr 2))) (some (.go (C5 (x3+1))))) (some (.out (.inl ())))
def As (v1:Zone)(x2:((List Int)×Int)):Option (Stp ((List Int)×Int) (List Int)):=
  cond (decide (x2.2< (v1.Parts.length:Int))) ((B7 v1.Parts x2.2).bind fun v2=>(Bo x2.1 [v2.Lane_]).bind fun v3=>some (.go (v3,(C5 (x2.2+1))))) (some (.out x2.1))
def U0 (p1:RoadsCheck)(x1:Int):Option (Stp Int (Sum Unit Int)):=
  cond (decide (x1< (p1.Map_.Zones.length:Int))) ((B7 p1.Map_.Zones x1).bind fun v1=>cond (decide ((v1.Parts.length:Int)<2)) (some (.out (.inr 6))) (cond (decide ((v1.Parts.length:Int)>6)) (some (.out (.inr 8))) (cond ((decide (v1.Signal_<0))||(decide (v1.Signal_>(p1.Map_.Signals.length:Int)))) (some (.out (.inr 2))) ((loop (As v1) ([],0)).bind fun y2=>(Ds y2 0 (p1.Map_.Lanes.length:Int)).bind fun v4=>cond (!v4) (some (.out (.inr 11))) (thenS (loop (T9 p1 v1) 0) (fun _=>some (.go (C5 (x1+1)))) (fun r=>some (.out (.inr r)))))))) (some (.out (.inl ())))
def Ac (p1:RoadsCheck):Option Int:=
  thenS (loop (U0 p1) 0) (fun _=>some 0) (fun r=>some r)
theorem DD(p1 r)(h:Ac p1=some r):PCall Tryz.prog 152 [(.agg (U5 p1.Map_))] (i64 r):=by
 refine C3 (fk Tryz.func152 Tryz.ntmps152 (fun r=>if r==15 then [1003]else []) (by with_unfolding_all rfl)) (nl W) ?_
 unfold Ac at h
 refine B4 (s0:=⟨T [(0,(.d _))],G []⟩) (F3 W W) ?_
 refine lr<|fun u1 _=>sm W<|sv W<|A1<|A4<|A9<|sq W<|sp W W<|sl W G_hit W<|sd W (D7 W)<|sv W<|A1<|js h fun z1 hz1 h=>E0 (fun s=> ∃(y1:Unit) (g1:Unit),z1= .inl y1∧Sb ⟨T [],G []⟩ s) ?_ ?_
 refine A7<|E3 (U0 p1) (fun (x1:Int) (g2:Unit)=>⟨T [(1,(.ptr (1,u1) 0)),(13,(dl Ip p1.Map_.Zones)),(14,(di (p1.Map_.Zones.length:Int))),(15,(di x1))],G [((1,u1),some<|.box 212 (M7 p1.Map_))]⟩) 0 () _ hz1 (F3 W W) ?_
 intro x1 g2 z2 hz2 ez2
 unfold U0 at hz2
 refine A9<|sv W<|A1<|A4<|cc W hz2 (fun c1 hz2=> ?_)<|fun c1 hz2=> ?_
 refine A8<|A4<|A7<|lr<|fun u4 _=>bs hz2 fun v1 hv1 hz2=>sd W (C8 W W hv1 W)<|sd W (D2 W hv1 W W)<|sm W<|Bc W G_hit [(dl Dp v1.Parts),(di v1.Signal_)] W (A1<|A4<|A9<|sq W<|sl W G_hit W<|sd W (D7 W)<|sv W<|A1<|A7<|A9<|sv W<|sv W<|sv W<|A1<|cc W hz2 (fun c2 hz2=> ?_)<|fun c2 hz2=> ?_)
 refine A9<|sv W<|A1<|B0 ?_
 cases hz2
 obtain rfl:=ez2 _ rfl
 refine ⟨nofun,F2 ?_⟩
 rw [bT]at h
 cases h
 exact A6 (.inr W) (B6 (B2 W) C1) (.refl _)
 refine A9<|sv W<|sv W<|sv W<|A1<|cc W hz2 (fun c3 hz2=> ?_)<|fun c3 hz2=> ?_
 refine A9<|sv W<|A1<|B0 ?_
 cases hz2
 obtain rfl:=ez2 _ rfl
 refine ⟨nofun,F2 ?_⟩
 rw [bT]at h
 cases h
 exact A6 (.inr W) (B6 (B2 W) C1) (.refl _)
 refine A9<|sq W<|sl W G_hit W<|sv W<|sv W<|gp W (K5 W) (fun _=>W) (gf W (vl W G_hit W)<|gp W (K5 W) (fun _=>W) ?_)
 refine N2 _ (.ptr _ _) W (K5 W) (fun w4=>(by simp only [A2 w4];rfl)) ?_
 refine gf W (vl W (gq W) W)<|gf W (fun w6=>(D7<|A2 w6))<|gf W (fun w7=>(N1 (A2 w7) (A2 w7) W))<|sd W (O2 W W<|fun hc=>A2<|J7 hc)<|sv W<|A1<|cc W hz2 (fun c4 hz2=> ?_)<|fun c4 hz2=> ?_
 refine A9<|sv W<|A1<|B0 ?_
 cases hz2
 obtain rfl:=ez2 _ rfl
 refine ⟨nofun,F2 ?_⟩
 rw [bT]at h
 cases h
 exact A6 (.inr W) (B6 (B2 W) C1) (.refl _)
 refine A8<|E2<|A9<|sv W<|A1<|A4<|A9<|sq W<|sl W G_hit W<|sd W (D7 W)<|sv W<|A1<|bs hz2 fun y2 hy2 hz2=>E0 (fun s=> ∃g3:Nat,Sb ⟨T [(1,(.ptr (1,u1) 0)),(4,(.ptr (4,u4) 0)),(6,(oS y2 (52,g3))),(13,(dl Ip p1.Map_.Zones)),(14,(di (p1.Map_.Zones.length:Int))),(15,(di x1))],G [((1,u1),some<|.box 212 (M7 p1.Map_)),((4,u4),some<|.box 117 [(dl Dp v1.Parts),(di v1.Signal_)]),((52,g3),oB 3 1 A5 y2)]⟩ s) ?_ ?_
 refine A7<|E3 (As v1) (fun (x2:((List Int)×Int)) (g4:Nat)=>⟨T [(1,(.ptr (1,u1) 0)),(4,(.ptr (4,u4) 0)),(6,(oS x2.1 (52,g4))),(13,(dl Ip p1.Map_.Zones)),(14,(di (p1.Map_.Zones.length:Int))),(15,(di x1)),(42,(dl Dp v1.Parts)),(43,(di (v1.Parts.length:Int))),(44,(di x2.2))],G [((1,u1),some<|.box 212 (M7 p1.Map_)),((4,u4),some<|.box 117 [(dl Dp v1.Parts),(di v1.Signal_)]),((52,g4),oB 3 1 A5 x2.1)]⟩) ([],0) 0 _ hy2 (E1 (Ck W)<|sg W<|B5 G_hit (.of W)<|X0 trivial) ?_
 intro x2 g4 z3 hz3 ez3
 unfold As at hz3
 refine A9<|sv W<|A1<|A4<|cc W hz3 (fun c5 hz3=> ?_)<|fun c5 hz3=> ?_
 refine A8<|A4<|A7<|A9<|bs hz3 fun v2 hv2 hz3=>sd W (C8 W W hv2 W)<|sd W (D2 W hv2 W W)<|sm W<|Bc W G_hit (FA v2) W (A1<|Eh fun u16 _=>B9 (oS x2.1 (52,g4)) W W (sq W<|sl W G_hit W<|B9 (dl A5 [v2.Lane_]) W W (bs hz3 fun _ hv3 hz3=>V3 A5 (52,g4) x2.1 v2.Lane_ [] _ (N3<|fun _=>W) W (gq W) hv3 (ss W<|A1<|E2<|C0<|sv W<|sv W<|A1<|E5 ?_))))
 cases hz3
 exact ⟨W,u16,(E1 ⟨.of W, .of W,(.of (Aq<|Ba hv3).symm), .of W, .of W, .of W, .of W, .of W, .of W,trivial⟩<|sg W<|sg W<|O6 G_hit trivial)⟩
 refine C6 W ?_
 cases hz3
 obtain rfl:=ez3 _ rfl
 refine ⟨nofun,C4 W<|Aj ?_⟩
 exact ⟨g4,(E1 (Ck W)<|B5 G_hit (.of W)<|sg W<|B8 (gq W) trivial)⟩
 rintro _ ⟨g3,q1⟩
 refine B4 q1<|A4<|A9<|B9 (oS y2 (52,g3)) W W (sq W<|sp W W<|sl W G_hit W<|sd W (D7 W)<|bs hz2 fun v4 hv4 hz2=>B1 W (E7 (Y3<|gq W)<|rD<|rD G2) (.cons Y2 (.cons (.refl _) A3)) (Ts _ _ _ _ hv4) (.inr W) (B9 (.d (bo (!v4))) W W (A1<|cc W hz2 (fun c6 hz2=> ?_)<|fun c6 hz2=> ?_)))
 refine A9<|sv W<|A1<|B0 ?_
 cases hz2
 obtain rfl:=ez2 _ rfl
 refine ⟨nofun,F2 ?_⟩
 rw [bT]at h
 cases h
 exact A6 (.inr W) (B6 (B2 W) C1) (.refl _)
 refine A8<|A9<|sq W<|sl W (gq W) W (sd W (D7 W)<|sv W<|A1<|js hz2 fun z4 hz4 hz2=>E0 (fun s=> ∃(y3:Unit) (g5:Unit),z4= .inl y3∧Sb ⟨T [(1,(.ptr (1,u1) 0)),(13,(dl Ip p1.Map_.Zones)),(14,(di (p1.Map_.Zones.length:Int))),(15,(di x1))],G [((1,u1),some<|.box 212 (M7 p1.Map_))]⟩ s) ?_ ?_)
 refine A7<|E3 (T9 p1 v1) (fun (x3:Int) (g6:Unit)=>⟨T [(1,(.ptr (1,u1) 0)),(13,(dl Ip p1.Map_.Zones)),(14,(di (p1.Map_.Zones.length:Int))),(15,(di x1)),(62,(dl Dp v1.Parts)),(63,(di (v1.Parts.length:Int))),(64,(di x3))],G [((1,u1),some<|.box 212 (M7 p1.Map_))]⟩) 0 () _ hz4 (F3 W W) ?_
 intro x3 g6 z5 hz5 ez5
 unfold T9 at hz5
 refine A9<|sv W<|A1<|A4<|cc W hz5 (fun c7 hz5=> ?_)<|fun c7 hz5=> ?_
 refine A8<|A4<|A7<|A9<|bs hz5 fun v5 hv5 hz5=>sd W (C8 W W hv5 W)<|sd W (D2 W hv5 W W)<|sm W<|Bc W G_hit (FA v5) W (A1<|A4<|F4 W<|sq W<|sl W G_hit W<|sv W<|sv W<|gp W (K5 W) (fun _=>W) (gf W (vl W G_hit W)<|gp W (K5 W) (fun _=>W) (gf W (vl W G_hit W)<|gf W (fun w12=>(N1 (A2 w12) (A2 w12) W))<|sd W (O2 W W<|fun hc=>A2<|J7 hc)<|sv W<|gp W (K5 W) (fun _=>W) (gf W (vl W G_hit W)<|gp W (K5 W) (fun _=>W) (gf W (fun w16=>(B3 (A2 w16) (gq W) W W))<|gp W (K5 W) (fun _=>W) (gf W (vl W G_hit W)<|bs hz5 fun v6 hv6 hz5=> ?_))))))
 refine O3 _ (i64 v6) (K5 W) (fun w19=>⟨_,[(.d (.agg (U5 p1.Map_))),(di v5.Lane_)],_,_,(by simp only [A2 w19];rfl),W,A3,Sk _ _ _<|C2 w19 hv6,(.inl W)⟩) ?_
 refine gf W (fun w20=>(N1 (A2 w20) (A2 w20) W))<|sd W (O2 W W<|fun hc=>A2<|J7 hc)<|sv W<|gp W (K5 W) (fun _=>W) (gf W (vl W G_hit W)<|gf W (vb W W W)<|sd W (O2 W W<|fun hc=>A2<|J7 hc)<|sv W<|gp W (K5 W) (fun _=>W) (gf W (vl W G_hit W)<|gf W (vb W W W)<|sd W (O2 W W<|fun hc=>A2<|J7 hc)<|A1<|cc W hz5 (fun c8 hz5=> ?_)<|fun c8 hz5=> ?_))
 refine A9<|sv W<|A1<|B0 ?_
 cases hz5
 obtain rfl:=ez5 _ rfl
 refine ⟨nofun,F2 ?_⟩
 rw [bT]at hz2
 cases hz2
 obtain rfl:=ez2 _ rfl
 refine ⟨nofun,F2 ?_⟩
 rw [bT]at h
 cases h
 exact A6 (.inr W) (B6 (B2 W) C1) (.refl _)
 refine A8<|E2<|C0<|sv W<|sv W<|A1<|E5 ?_
 cases hz5
 exact ⟨W,(),(F3 W W)⟩
 refine C6 W ?_
 cases hz5
 obtain rfl:=ez5 _ rfl
 refine ⟨nofun,C4 W<|Aj ?_⟩
 exact ⟨_,(),W,(F3 W W)⟩
 rintro _ ⟨y3,g5,rfl,q2⟩
 rw [bS]at hz2
 refine E2<|B4 q2<|C0<|sv W<|sv W<|A1<|E5 ?_
 cases hz2
 exact ⟨W,(),(F3 W W)⟩
 refine C6 W ?_
 cases hz2
 obtain rfl:=ez2 _ rfl
 refine ⟨nofun,C4 W<|Aj ?_⟩
 exact ⟨_,(),W,(F3 W W)⟩
 rintro _ ⟨y1,g1,rfl,q3⟩
 rw [bS]at h
 refine B4 q3<|A9<|sv W<|A1<|B0 ?_
 cases h
 exact A6 (.inr W) (B6 (B2 W) C1) (.refl _)
def U1 (p1:RoadsCheck)(x1:Int):Option (Stp Int (Sum Unit Int)):=
  cond (decide (x1< (p1.Map_.Works.length:Int))) ((B7 p1.Map_.Works x1).bind fun v1=>cond ((decide (v1.Lane_<0))||(decide (v1.Lane_≥(p1.Map_.Lanes.length:Int)))) (some (.out (.inr 7))) ((B7 p1.Map_.Lanes v1.Lane_).bind fun v2=>(Cq v2.Kind).bind fun v3=>((cond (!((decide (v1.From<0))||(decide (v1.From>v1.To)))) (Es p1.Map_ v1.Lane_) (some default))).bind fun v4=>((cond (!((((((decide (v1.From<0))||(decide (v1.From>v1.To)))||(decide (v1.To>v4)))||(decide (v1.Begin<0)))||(decide (v1.Begin≥v1.End)))||(decide (v1.End>1099511627776)))) (Bu v1.Limit 0 v3.1) (some default))).bind fun v5=>cond (((((((decide (v1.From<0))||(decide (v1.From>v1.To)))||(decide (v1.To>v4)))||(decide (v1.Begin<0)))||(decide (v1.Begin≥v1.End)))||(decide (v1.End>1099511627776)))||(!v5)) (some (.out (.inr 2))) (some (.go (C5 (x1+1)))))) (some (.out (.inl ())))
def Ad (p1:RoadsCheck):Option Int:=
  thenS (loop (U1 p1) 0) (fun _=>some 0) (fun r=>some r)
theorem DE(p1 r)(h:Ad p1=some r):PCall Tryz.prog 153 [(.agg (U5 p1.Map_))] (i64 r):=by
 refine C3 (fk Tryz.func153 Tryz.ntmps153 m0 (by with_unfolding_all rfl)) (nl W) ?_
 unfold Ad at h
 refine B4 (s0:=⟨T [(0,(.d _))],G []⟩) (F3 W W) ?_
 refine lr<|fun u1 _=>sm W<|sv W<|A1<|A4<|A9<|sq W<|sp W W<|sl W G_hit W<|sd W (D7 W)<|sv W<|A1<|js h fun z1 hz1 h=>E0 (fun s=> ∃(y1:Unit) (g1:Unit),z1= .inl y1∧Sb ⟨T [],G []⟩ s) ?_ ?_
 refine A7<|E3 (U1 p1) (fun (x1:Int) (g2:Unit)=>⟨T [(1,(.ptr (1,u1) 0)),(10,(dl Ze p1.Map_.Works)),(11,(di (p1.Map_.Works.length:Int))),(12,(di x1))],G [((1,u1),some<|.box 212 (M7 p1.Map_))]⟩) 0 () _ hz1 (F3 W W) ?_
 intro x1 g2 z2 hz2 ez2
 unfold U1 at hz2
 refine A9<|sv W<|A1<|A4<|cc W hz2 (fun c1 hz2=> ?_)<|fun c1 hz2=> ?_
 refine A8<|A4<|A7<|A9<|bs hz2 fun v1 hv1 hz2=>sd W (C8 W W hv1 W)<|sd W (D2 W hv1 W W)<|sm W<|Bc W G_hit (qQ v1) W (A1<|A4<|A9<|sq W<|sl W G_hit W<|sv W<|sv W<|gp W (K5 W) (fun _=>W) (gf W (vl W G_hit W)<|gp W (K5 W) (fun _=>W) ?_))
 refine N2 _ (.ptr _ _) W (K5 W) (fun w4=>(by simp only [A2 w4];rfl)) ?_
 refine gf W (vl W (gq W) W)<|gf W (fun w6=>(D7<|A2 w6))<|gf W (fun w7=>(N1 (A2 w7) (A2 w7) W))<|sd W (O2 W W<|fun hc=>A2<|J7 hc)<|A1<|cc W hz2 (fun c2 hz2=> ?_)<|fun c2 hz2=> ?_
 refine A9<|sv W<|A1<|B0 ?_
 cases hz2
 obtain rfl:=ez2 _ rfl
 refine ⟨nofun,F2 ?_⟩
 rw [bT]at h
 cases h
 exact A6 (.inr W) (B6 (B2 W) C1) (.refl _)
 refine A8<|A9<|sq W<|sp W W<|sl W (gq W) W (sq W<|sl W G_hit W<|bs hz2 fun _ hv2 hz2=>sd W (C8 W W hv2 W)<|sv W<|sd W (D6 W hv2 W)<|bs hz2 fun v3 hv3 hz2=>B1 W W A3 (Oz _ _ hv3) (.inl W) (sv W<|sv W<|sv W<|sv W<|sv W<|sv W<|sv W<|A1<|A4<|F4 W<|sq W<|sl W G_hit W<|sv W<|sv W<|gp W (K5 W) (fun _=>W) (gf W (vl W G_hit W)<|gp W (K5 W) (fun _=>W) (gf W (vl W G_hit W)<|gf W (fun w12=>(N1 (A2 w12) (A2 w12) W))<|sd W (O2 W W<|fun hc=>A2<|J7 hc)<|sv W<|gp W (K5 W) (fun _=>W) (gf W (vl W G_hit W)<|gp W (K5 W) (fun _=>W) (gf W (fun w16=>(B3 (A2 w16) (gq W) W W))<|gp W (K5 W) (fun _=>W) (gf W (vl W G_hit W)<|bs hz2 fun v4 hv4 hz2=> ?_)))))))
 refine O3 _ (i64 v4) (K5 W) (fun w19=>⟨_,[(.d (.agg (U5 p1.Map_))),(di v1.Lane_)],_,_,(by simp only [A2 w19];rfl),W,A3,Sk _ _ _<|C2 w19 hv4,(.inl W)⟩) ?_
 refine gf W (fun w20=>(N1 (A2 w20) (A2 w20) W))<|sd W (O2 W W<|fun hc=>A2<|J7 hc)<|sv W<|gp W (K5 W) (fun _=>W) (gf W (vl W G_hit W)<|gf W (vb W W W)<|sd W (O2 W W<|fun hc=>A2<|J7 hc)<|sv W<|gp W (K5 W) (fun _=>W) (gf W (vl W G_hit W)<|gp W (K5 W) (fun _=>W) (gf W (vl W G_hit W)<|gf W (fun w28=>(N1 (A2 w28) (A2 w28) W))<|sd W (O2 W W<|fun hc=>A2<|J7 hc)<|sv W<|gp W (K5 W) (fun _=>W) (gf W (vl W G_hit W)<|gf W (vb W W W)<|sd W (O2 W W<|fun hc=>A2<|J7 hc)<|sv W<|gp W (K5 W) (fun _=>W) (gf W (vl W G_hit W)<|gf W (fun _=>W)<|bs hz2 fun v5 hv5 hz2=> ?_)))))
 refine O3 _ (bo v5) (K5 W) (fun w35=>⟨_,[(di v1.Limit),(di 0),(di v3.1)],_,_,(by simp only [A2 w35];rfl),W,A3,Gw _ _ _ _<|C2 w35 hv5,(.inl W)⟩) ?_
 refine N2 _ (.d (bo (!v5))) W (K5 W) (fun w36=>(by simp only [A2 w36];rfl)) ?_
 refine sd W (O2 W W<|fun hc=>A2<|J7 hc)<|A1<|cc W hz2 (fun c3 hz2=> ?_)<|fun c3 hz2=> ?_
 refine A9<|sv W<|A1<|B0 ?_
 cases hz2
 obtain rfl:=ez2 _ rfl
 refine ⟨nofun,F2 ?_⟩
 rw [bT]at h
 cases h
 exact A6 (.inr W) (B6 (B2 W) C1) (.refl _)
 refine A8<|E2<|C0<|sv W<|sv W<|A1<|E5 ?_
 cases hz2
 exact ⟨W,(),(F3 W W)⟩
 refine C6 W ?_
 cases hz2
 obtain rfl:=ez2 _ rfl
 refine ⟨nofun,C4 W<|Aj ?_⟩
 exact ⟨_,(),W,(F3 W W)⟩
 rintro _ ⟨y1,g1,rfl,q1⟩
 rw [bS]at h
 refine B4 q1<|A9<|sv W<|A1<|B0 ?_
 cases h
 exact A6 (.inr W) (B6 (B2 W) C1) (.refl _)
def W4 (v:Nat)(p1:RoadsCheck):Option Int:=
  cond (Nat.beq v 148) (W0 p1) (cond (Nat.beq v 149) (Ab p1) (cond (Nat.beq v 150) (Y0 p1) (cond (Nat.beq v 151) (W1 p1) (cond (Nat.beq v 152) (Ac p1) (cond (Nat.beq v 153) (Ad p1) (none))))))
theorem Ta(v p1 r)(h:W4 v p1=some r):PCall Tryz.prog v [(.agg [(i64 p1.Map_.Version),(.list (List.map Io p1.Map_.Lanes)),(.list (List.map Ip p1.Map_.Zones)),(.list (List.map Qf p1.Map_.Signals)),(.list (List.map Ze p1.Map_.Works))])] (i64 r):=by
  unfold W4 at h
  rcases JV h with ⟨rfl,h⟩|⟨_,h⟩
  ·exact AH _ r h
  rcases JV h with ⟨rfl,h⟩|⟨_,h⟩
  ·exact DC _ r h
  rcases JV h with ⟨rfl,h⟩|⟨_,h⟩
  ·exact BY _ r h
  rcases JV h with ⟨rfl,h⟩|⟨_,h⟩
  ·exact AI _ r h
  rcases JV h with ⟨rfl,h⟩|⟨_,h⟩
  ·exact DD _ r h
  rcases JV h with ⟨rfl,h⟩|⟨_,h⟩
  ·exact DE _ r h
  cases h
def P5 (p1:Map)(x1:Int):Option (Stp Int (Sum Unit Int)):=
  cond (decide (x1< ([148,149,150,151,152,153].length:Int))) ((B7 [148,149,150,151,152,153] x1).bind fun v1=>(W4 v1 (RoadsCheck.mk p1)).bind fun v2=>cond (v2 !=0) (some (.out (.inr v2))) (some (.go (C5 (x1+1))))) (some (.out (.inl ())))
def Fi (p1:Map):Option Int:=
  thenS (loop (P5 p1) 0) (fun _=>some 0) (fun r=>some r)
theorem Vw(p1 r)(h:Fi p1=some r):PCall Tryz.prog 71 [(.agg (U5 p1))] (i64 r):=by
 refine C3 (fk Tryz.func71 Tryz.ntmps71 (fun r=>if r==1 then [1000]else []) (by with_unfolding_all rfl)) (nl W) ?_
 unfold Fi at h
 refine B4 (s0:=⟨T [(0,(.d _))],G []⟩) (F3 W W) ?_
 refine lr<|fun u1 _=>sm W<|sv W<|A1<|A4<|A9<|B9 (dl sA [148,149,150,151,152,153]) W W (sd W (D7 W)<|sv W<|A1<|js h fun z1 hz1 h=>E0 (fun s=> ∃(y1:Unit) (g1:Unit),z1= .inl y1∧Sb ⟨T [],G []⟩ s) ?_ ?_)
 refine A7<|E3 (P5 p1) (fun (x1:Int) (g2:Unit)=>⟨T [(1,(.ptr (1,u1) 0)),(6,(dl sA [148,149,150,151,152,153])),(7,(di ([148,149,150,151,152,153].length:Int))),(8,(di x1))],G [((1,u1),some<|.box 33 (M7 p1))]⟩) 0 () _ hz1 (F3 W W) ?_
 intro x1 g2 z2 hz2 ez2
 unfold P5 at hz2
 refine A9<|sv W<|A1<|A4<|cc W hz2 (fun c1 hz2=> ?_)<|fun c1 hz2=> ?_
 refine A8<|A4<|A7<|A9<|bs hz2 fun _ hv1 hz2=>sd W (C8 W W hv1 W)<|sd W (D6 W hv1 W)<|sv W<|A1<|A9<|sv W<|sd W (B3 W G_hit W W)<|sv W<|bs hz2 fun _ hv2 hz2=>B1 W W A3 (Ta _ _ _ hv2) (.inl W) (sv W<|A1<|A9<|sv W<|sv W<|A1<|cc W hz2 (fun c2 hz2=> ?_)<|fun c2 hz2=> ?_)
 refine A9<|sv W<|sv W<|A1<|B0 ?_
 cases hz2
 obtain rfl:=ez2 _ rfl
 refine ⟨nofun,F2 ?_⟩
 rw [bT]at h
 cases h
 exact A6 (.inr W) (B6 (B2 W) C1) (.refl _)
 refine A8<|E2<|C0<|sv W<|sv W<|A1<|E5 ?_
 cases hz2
 exact ⟨W,(),(F3 W W)⟩
 refine C6 W ?_
 cases hz2
 obtain rfl:=ez2 _ rfl
 refine ⟨nofun,C4 W<|Aj ?_⟩
 exact ⟨_,(),W,(F3 W W)⟩
 rintro _ ⟨y1,g1,rfl,q1⟩
 rw [bS]at h
 refine B4 q1<|A9<|sv W<|A1<|B0 ?_
 cases h
 exact A6 (.inr W) (B6 (B2 W) C1) (.refl _)
def R8 (p1:(List Int))(p2:Int)(x1:Int):Option (Stp Int (Sum Unit Int)):=
  cond (decide (x1< (p1.length:Int))) ((B7 p1 x1).bind fun v1=>cond (p2==v1) (some (.out (.inr x1))) (some (.go (C5 (x1+1))))) (some (.out (.inl ())))
def X7 (p1:(List Int))(p2:Int):Option Int:=
  thenS (loop (R8 p1 p2) 0) (fun _=>some (-1)) (fun r=>some r)
theorem Pr(p1 p2 r)(h:X7 p1 p2=some r):PCall Tryz.prog 244 [(.list (List.map A5 p1)),(i64 p2)] (i64 r):=by
 refine C3 (fk Tryz.func244 Tryz.ntmps244 m0 (by with_unfolding_all rfl)) (nl W) ?_
 unfold X7 at h
 refine B4 (s0:=⟨T [(0,(.d _)),(1,(.d _))],G []⟩) (F3 W W) ?_
 refine A9<|sv W<|A1<|A4<|A9<|sv W<|sd W (D7 W)<|sv W<|A1<|js h fun z1 hz1 h=>E0 (fun s=> ∃(y1:Unit) (g1:Unit),z1= .inl y1∧Sb ⟨T [],G []⟩ s) ?_ ?_
 refine A7<|E3 (R8 p1 p2) (fun (x1:Int) (g2:Unit)=>⟨T [(0,(dl A5 p1)),(1,(di p2)),(7,(di (p1.length:Int))),(8,(di x1))],G []⟩) 0 () _ hz1 (F3 W W) ?_
 intro x1 g2 z2 hz2 ez2
 unfold R8 at hz2
 refine A9<|sv W<|A1<|A4<|cc W hz2 (fun c1 hz2=> ?_)<|fun c1 hz2=> ?_
 refine A8<|A4<|A7<|A9<|sv W<|sv W<|A1<|A9<|sv W<|sv W<|sv W<|bs hz2 fun _ hv1 hz2=>sd W (C8 W W hv1 W)<|sd W (D6 W hv1 W)<|sv W<|A1<|cc W hz2 (fun c2 hz2=> ?_)<|fun c2 hz2=> ?_
 refine A9<|sv W<|sv W<|A1<|B0 ?_
 cases hz2
 obtain rfl:=ez2 _ rfl
 refine ⟨nofun,F2 ?_⟩
 rw [bT]at h
 cases h
 exact A6 (.inr W) (B6 (B2 W) C1) (.refl _)
 refine A8<|E2<|C0<|sv W<|sv W<|A1<|E5 ?_
 cases hz2
 exact ⟨W,(),(F3 W W)⟩
 refine C6 W ?_
 cases hz2
 obtain rfl:=ez2 _ rfl
 refine ⟨nofun,C4 W<|Aj ?_⟩
 exact ⟨_,(),W,(F3 W W)⟩
 rintro _ ⟨y1,g1,rfl,q1⟩
 rw [bS]at h
 refine B4 q1<|A9<|sv W<|A1<|B0 ?_
 cases h
 exact A6 (.inr W) (B6 (B2 W) C1) (.refl _)
def N6 (p1:(List Int))(p2:Int):Option Bool:=
  (X7 p1 p2).bind fun v1=>some (decide (v1≥0))
theorem Fz(p1 p2 r)(h:N6 p1 p2=some r):PCall Tryz.prog 215 [(.list (List.map A5 p1)),(i64 p2)] (bo r):=by
 refine C3 (fk Tryz.func215 Tryz.ntmps215 m0 (by with_unfolding_all rfl)) (nl W) ?_
 unfold N6 at h
 refine B4 (s0:=⟨T [(0,(.d _)),(1,(.d _))],G []⟩) (F3 W W) ?_
 refine A9<|sv W<|A1<|A9<|sv W<|sv W<|bs h fun _ hv1 h=>B1 W W A3 (Pr _ _ _ hv1) (.inl W) (sv W<|sv W<|A1<|B0 ?_)
 cases h
 exact A6 (.inr W) (B6 (B2 W) C1) (.refl _)
def Cx (p1:Map)(p2:Int)(x1:((List Int)×Int)):Option (Stp ((List Int)×Int) (List Int)):=
  cond (decide (x1.2< (p1.Lanes.length:Int))) ((B7 p1.Lanes x1.2).bind fun v1=>(N6 v1.Next p2).bind fun v2=>cond v2 ((Bo x1.1 [x1.2]).bind fun v3=>some (.go (v3,(C5 (x1.2+1))))) (some (.go (x1.1,(C5 (x1.2+1)))))) (some (.out x1.1))
def He (p1:Map)(p2:Int):Option (List Int):=
  (loop (Cx p1 p2) ([],0)).bind fun y1=>some y1
theorem LL(p1 p2 r)(h:He p1 p2=some r):PCall Tryz.prog 214 [(.agg (U5 p1)),(i64 p2)] (.list (List.map A5 r)):=by
 refine C3 (fk Tryz.func214 Tryz.ntmps214 (fun r=>if r==6 then [1002]else []) (by with_unfolding_all rfl)) (nl W) ?_
 unfold He at h
 refine B4 (s0:=⟨T [(0,(.d _)),(1,(.d _))],G []⟩) (F3 W W) ?_
 refine A9<|sm W<|sv W<|A1<|A9<|sv W<|A1<|A4<|A9<|sq W<|sl W G_hit W<|sd W (D7 W)<|sv W<|A1<|bs h fun y1 hy1 h=>E0 (fun s=> ∃g1:Nat,Sb ⟨T [(5,(oS y1 (23,g1)))],G [((23,g1),oB 3 1 A5 y1)]⟩ s) ?_ ?_
 refine A7<|E3 (Cx p1 p2) (fun (x1:((List Int)×Int)) (g2:Nat)=>⟨T [(1,(di p2)),(5,(oS x1.1 (23,g2))),(9,(dl Io p1.Lanes)),(10,(di (p1.Lanes.length:Int))),(11,(di x1.2))],G [((23,g2),oB 3 1 A5 x1.1)]⟩) ([],0) 0 _ hy1 (E1 (Ck W)<|X0 trivial) ?_
 intro x1 g2 z1 hz1 ez1
 unfold Cx at hz1
 refine A9<|sv W<|A1<|A4<|cc W hz1 (fun c1 hz1=> ?_)<|fun c1 hz1=> ?_
 refine A8<|A4<|A7<|A9<|sv W<|bs hz1 fun v1 hv1 hz1=>sd W (C8 W W hv1 W)<|sd W (D2 W hv1 W W)<|sm W<|sv W<|Bc W G_hit (IJ v1) W (A1<|A9<|sq W<|sl W G_hit W<|sv W<|bs hz1 fun _ hv2 hz1=>B1 W W A3 (Fz _ _ _ hv2) (.inl W) (A1<|cc W hz1 (fun c2 hz1=> ?_)<|fun c2 hz1=> ?_))
 refine Eh fun u7 _=>B9 (oS x1.1 (23,g2)) W W (sv W<|B9 (dl A5 [x1.2]) W W (bs hz1 fun _ hv3 hz1=>V3 A5 (23,g2) x1.1 x1.2 [] _ (N3<|fun _=>W) W (gq W) hv3 (ss W<|A1<|E2<|C0<|sv W<|sv W<|A1<|E5 ?_)))
 cases hz1
 exact ⟨W,u7,(E1 ⟨.of W,(.of (Aq<|Ba hv3).symm), .of W, .of W, .of W,trivial⟩<|O6 G_hit trivial)⟩
 refine A8<|E2<|C0<|sv W<|sv W<|A1<|E5 ?_
 cases hz1
 exact ⟨W,g2,(E1 (Ck W)<|B8 (gq W) trivial)⟩
 refine C6 W ?_
 cases hz1
 obtain rfl:=ez1 _ rfl
 refine ⟨nofun,C4 W<|Aj ?_⟩
 exact ⟨g2,(E1 ⟨.of W,trivial⟩<|B8 G_hit trivial)⟩
 rintro _ ⟨g1,q1⟩
 refine B4 q1<|A9<|B9 (oS y1 (23,g1)) W W (B9 (oS y1 (23,g1)) W W (A1<|B0 ?_))
 cases h
 exact A6 (.inr W) (B6 (B2 W)<|Y3 G_hit) Y2
def S6 (p1:Map)(v7:List Int)(x1:(Int×Int)):Option (Stp (Int×Int) (Sum Unit Int)):=
  cond (decide (x1.2< (v7.length:Int))) ((B7 v7 x1.2).bind fun v8=>(B7 p1.Lanes x1.1).bind fun v9=>(N6 v9.Next v8).bind fun v10=>cond (!v10) (some (.out (.inr 13))) (some (.go (v8,(C5 (x1.2+1)))))) (some (.out (.inl ())))
def Bd (p1:Map)(p2:(List Int)):Option Int:=
  (Fi p1).bind fun v1=>cond (v1 !=0) (some v1) (((cond (!(((p2.length:Int)==0)||(decide ((p2.length:Int)>8)))) (B7 p2 0) (some default))).bind fun v2=>((cond (!((((p2.length:Int)==0)||(decide ((p2.length:Int)>8)))||(decide (v2<0)))) (B7 p2 0) (some default))).bind fun v3=>((cond (!(((((p2.length:Int)==0)||(decide ((p2.length:Int)>8)))||(decide (v2<0)))||(decide (v3≥(p1.Lanes.length:Int))))) (B7 p2 0) (some default))).bind fun v4=>((cond (!(((((p2.length:Int)==0)||(decide ((p2.length:Int)>8)))||(decide (v2<0)))||(decide (v3≥(p1.Lanes.length:Int))))) (He p1 v4) (some default))).bind fun v5=>cond ((((((p2.length:Int)==0)||(decide ((p2.length:Int)>8)))||(decide (v2<0)))||(decide (v3≥(p1.Lanes.length:Int))))||(decide ((v5.length:Int)>0))) (some 13) ((B7 p2 0).bind fun v6=>(XZ p2 1 (p2.length:Int)).bind fun v7=>thenS (loop (S6 p1 v7) (v6,0)) (fun _=>some 0) (fun r=>some r)))
theorem Ut(p1 p2 r)(h:Bd p1 p2=some r):PCall Tryz.prog 154 [(.agg (U5 p1)),(.list (List.map A5 p2))] (i64 r):=by
 refine C3 (fk Tryz.func154 Tryz.ntmps154 m0 (by with_unfolding_all rfl)) (nl W) ?_
 unfold Bd at h
 refine B4 (s0:=⟨T [(0,(.d _)),(1,(.d _))],G []⟩) (F3 W W) ?_
 refine lr<|fun u1 _=>sm W<|sv W<|A1<|A4<|A9<|sd W (B3 W G_hit W W)<|bs h fun _ hv1 h=>B1 W W A3 (Vw _ _ hv1) (.inl W) (sv W<|A1<|A9<|sv W<|sv W<|A1<|cc W h (fun c1 h=> ?_)<|fun c1 h=> ?_)
 refine A9<|sv W<|sv W<|A1<|B0 ?_
 cases h
 exact A6 (.inr W) (B6 (B2 W) C1) (.refl _)
 refine A8<|A4<|A4<|F4 W<|sv W<|sd W (D7 W)<|sv W<|sv W<|gf W (fun _=>W)<|gf W (fun w2=>(D7<|A2 w2))<|gf W (vb W W W)<|sd W (O2 W W<|fun hc=>A2<|J7 hc)<|sv W<|gf W (fun _=>W)<|bs h fun _ hv2 h=>gf W (fun w5=>(C8 (A2 w5) W (C2 w5 hv2) W))<|gf W (fun w6=>(D6 (A2 w6) (C2 w6 hv2) W))<|gf W (vb W W W)<|sd W (O2 W W<|fun hc=>A2<|J7 hc)<|sv W<|gf W (fun _=>W)<|bs h fun _ hv3 h=>gf W (fun w9=>(C8 (A2 w9) W (C2 w9 hv3) W))<|gf W (fun w10=>(D6 (A2 w10) (C2 w10 hv3) W))<|gp W (K5 W) (fun _=>W) (gf W (vl W G_hit W)<|gf W (fun w13=>(D7<|A2 w13))<|gf W (fun w14=>(N1 (A2 w14) (A2 w14) W))<|sd W (O2 W W<|fun hc=>A2<|J7 hc)<|sv W<|gf W (fun _=>(B3 W G_hit W W))<|gf W (fun _=>W)<|bs h fun v4 hv4 h=>gf W (fun w17=>(C8 (A2 w17) W (C2 w17 hv4) W))<|gf W (fun w18=>(D6 (A2 w18) (C2 w18 hv4) W))<|bs h fun v5 hv5 h=> ?_)
 refine O3 _ (.list (List.map A5 v5)) (K5 W) (fun w19=>⟨_,[(.d (.agg (U5 p1))),(di v4)],_,_,(by simp only [A2 w19];rfl),W,A3,LL _ _ _<|C2 w19 hv5,(.inl W)⟩) ?_
 refine gf W (fun w20=>(D7<|A2 w20))<|gf W (vb W W W)<|sd W (O2 W W<|fun hc=>A2<|J7 hc)<|A1<|cc W h (fun c2 h=> ?_)<|fun c2 h=> ?_
 refine A9<|sv W<|A1<|B0 ?_
 cases h
 exact A6 (.inr W) (B6 (B2 W) C1) (.refl _)
 refine A8<|A9<|sv W<|bs h fun v6 hv6 h=>sd W (C8 W W hv6 W)<|sd W (D6 W hv6 W)<|sv W<|A1<|A4<|A9<|sv W<|bs h fun v7 hv7 h=>sd W (qH W (fun _=>W) (rM W) oZ hv7)<|sd W (D7 W)<|sv W<|A1<|js h fun z1 hz1 h=>E0 (fun s=> ∃(y1:Unit) (g1:Unit),z1= .inl y1∧Sb ⟨T [],G []⟩ s) ?_ ?_
 refine A7<|E3 (S6 p1 v7) (fun (x1:(Int×Int)) (g2:Unit)=>⟨T [(2,(.ptr (2,u1) 0)),(6,(di x1.1)),(50,(dl A5 v7)),(51,(di (v7.length:Int))),(52,(di x1.2))],G [((2,u1),some<|.box 33 (M7 p1))]⟩) (v6,0) () _ hz1 (F3 W W) ?_
 intro x1 g2 z2 hz2 ez2
 unfold S6 at hz2
 refine A9<|sv W<|A1<|A4<|cc W hz2 (fun c3 hz2=> ?_)<|fun c3 hz2=> ?_
 refine A8<|A4<|A7<|A9<|bs hz2 fun _ hv8 hz2=>sd W (C8 W W hv8 W)<|sd W (D6 W hv8 W)<|sv W<|A1<|A4<|A9<|sq W<|sl W G_hit W<|sv W<|bs hz2 fun _ hv9 hz2=>sd W (C8 W W hv9 W)<|sv W<|sd W (D6 W hv9 W)<|sv W<|bs hz2 fun v10 hv10 hz2=>B1 W W A3 (Fz _ _ _ hv10) (.inl W) (B9 (.d (bo (!v10))) W W (A1<|cc W hz2 (fun c4 hz2=> ?_)<|fun c4 hz2=> ?_))
 refine A9<|sv W<|A1<|B0 ?_
 cases hz2
 obtain rfl:=ez2 _ rfl
 refine ⟨nofun,F2 ?_⟩
 rw [bT]at h
 cases h
 exact A6 (.inr W) (B6 (B2 W) C1) (.refl _)
 refine A8<|C0<|sv W<|sv W<|A1<|E2<|C0<|sv W<|sv W<|A1<|E5 ?_
 cases hz2
 exact ⟨W,(),(F3 W W)⟩
 refine C6 W ?_
 cases hz2
 obtain rfl:=ez2 _ rfl
 refine ⟨nofun,C4 W<|Aj ?_⟩
 exact ⟨_,(),W,(F3 W W)⟩
 rintro _ ⟨y1,g1,rfl,q1⟩
 rw [bS]at h
 refine B4 q1<|A9<|sv W<|A1<|B0 ?_
 cases h
 exact A6 (.inr W) (B6 (B2 W) C1) (.refl _)
def Ay (p1:Map)(p2:(List Int))(x1:(Int× ((List Int)×Int))):Option (Stp (Int× ((List Int)×Int)) ((List Int)×Int)):=
  cond (decide (x1.1< (p2.length:Int))) ((B7 p2 x1.1).bind fun v2=>(Bo x1.2.1 [x1.2.2]).bind fun v3=>(Es p1 v2).bind fun v4=>some (.go ((C5 (x1.1+1)),(v3,(C5 (x1.2.2+v4)))))) (some (.out x1.2))
def Cr (p1:Map)(p2:(List Int)):Option RoadsWay:=
  (Bd p1 p2).bind fun v1=>cond (v1 !=0) (some (RoadsWay.mk (Map.mk 0 [] [] [] []) [] [] 0)) ((loop (Ay p1 p2) (0,([],0))).bind fun y1=>some (RoadsWay.mk p1 p2 y1.1 y1.2))
theorem Pa(p1 p2 r)(h:Cr p1 p2=some r):PCall Tryz.prog 205 [(.agg (U5 p1)),(.list (List.map A5 p2))] (.agg (dA r)):=by
 refine C3 (fk Tryz.func205 Tryz.ntmps205 (fun r=>if r==7 then [1004]else []) (by with_unfolding_all rfl)) (nl W) ?_
 unfold Cr at h
 refine B4 (s0:=⟨T [(0,(.d _)),(1,(.d _))],G []⟩) (F3 W W) ?_
 refine lr<|fun u1 _=>sm W<|sm W<|A1<|A4<|A9<|sd W (B3 W (gq W) W W)<|sv W<|bs h fun _ hv1 h=>B1 W W A3 (Ut _ _ _ hv1) (.inl W) (sv W<|A1<|cc W h (fun c1 h=> ?_)<|fun c1 h=> ?_)
 refine A9<|sv W<|Bc W G_hit [(di 0),(.d .nilS),(.d .nilS),(.d .nilS),(.d .nilS),(.d .nilS),(.d .nilS),(di 0)] W (A1<|B0 ?_)
 cases h
 exact A6 (.inr W) (B6 (L4 W G_hit (nl W) W) C1) (.agg (ca W<|.cons ⟨DLe.nil,W⟩ (.cons ⟨DLe.nil,W⟩ (.cons ⟨DLe.nil,W⟩ (.cons ⟨DLe.nil,W⟩ (.cons ⟨DLe.nil,W⟩ (.cons ⟨DLe.nil,W⟩ (cz W))))))))
 refine A8<|lr<|fun u4 _=>sd W (B3 W (gq W) W W)<|sv W<|sv W<|sm W<|Bc W G_hit ((M7 p1)++ [(dl A5 p2),(.d .nilS),(di 0)]) W (A1<|A4<|A9<|sv W<|sd W (D7 W)<|sv W<|A1<|bs h fun y1 hy1 h=>E0 (fun s=> ∃g1:Nat,Sb ⟨T [(4,(.ptr (4,u1) 0)),(5,(.ptr (5,u4) 0))],G [((4,u1),some<|.box 260 [(di 0),(.d .nilS),(.d .nilS),(.d .nilS),(.d .nilS),(.d .nilS),(.d .nilS),(di 0)]),((5,u4),some<|.box 260 ((M7 p1)++ [(dl A5 p2),(oS y1.1 (27,g1)),(di y1.2)])),((27,g1),oB 2 1 A5 y1.1)]⟩ s) ?_ ?_)
 refine A7<|E3 (Ay p1 p2) (fun (x1:(Int× ((List Int)×Int))) (g2:Nat)=>⟨T [(2,(.ptr (2,u1) 0)),(4,(.ptr (4,u1) 0)),(5,(.ptr (5,u4) 0)),(16,(dl A5 p2)),(17,(di (p2.length:Int))),(18,(di x1.1))],G [((2,u1),some<|.box 33 (M7 p1)),((4,u1),some<|.box 260 [(di 0),(.d .nilS),(.d .nilS),(.d .nilS),(.d .nilS),(.d .nilS),(.d .nilS),(di 0)]),((5,u4),some<|.box 260 ((M7 p1)++ [(dl A5 p2),(oS x1.2.1 (27,g2)),(di x1.2.2)])),((27,g2),oB 2 1 A5 x1.2.1)]⟩) (0,([],0)) 0 _ hy1 (E1 (Ck W)<|sg W<|sg W<|B5 G_hit (.of W)<|X0 trivial) ?_
 intro x1 g2 z1 hz1 ez1
 unfold Ay at hz1
 refine A9<|sv W<|A1<|A4<|cc W hz1 (fun c2 hz1=> ?_)<|fun c2 hz1=> ?_
 refine A8<|A4<|A7<|A9<|bs hz1 fun _ hv2 hz1=>sd W (C8 W W hv2 W)<|sd W (D6 W hv2 W)<|sv W<|A1<|lr<|fun u8 _=>sq W<|B9 (oS x1.2.1 (27,g2)) W (T6 W (gq W) W) (sq W<|sl W (gq W) W (B9 (dl A5 [x1.2.2]) W W (bs hz1 fun _ hv3 hz1=>V3 A5 (27,g2) x1.2.1 x1.2.2 [] _ (N3<|fun _=>W) W (gq W) hv3 (sq W<|Bc W (gq W) ((M7 p1)++ [(dl A5 p2),(.sl (27,u8)),(di x1.2.2)]) W (A1<|F4 W<|sq W<|sl W G_hit W<|sd W (B3 W (gq W) W W)<|sv W<|bs hz1 fun v4 hv4 hz1=>B1 W W A3 (Sk _ _ _ hv4) (.inl W) (sv W<|sq W<|Bc W G_hit ((M7 p1)++ [(dl A5 p2),(.sl (27,u8)),(di<|C5 (x1.2.2+v4))]) W (A1<|E2<|C0<|sv W<|sv W<|A1<|E5 ?_)))))))
 cases hz1
 exact ⟨W,u8,(E1 (Ck W)<|sg W<|sg W<|B5 G_hit (.box (cv<|cv<|cv<|cv<|cv<|cv<|.cons (.of (Aq<|Ba hv3).symm) cw))<|O6 (gq W) trivial)⟩
 refine C6 W ?_
 cases hz1
 obtain rfl:=ez1 _ rfl
 refine ⟨nofun,C4 W<|Aj ?_⟩
 exact ⟨g2,(E1 (Ck W)<|sg W<|sg W<|B8 (gq W) trivial)⟩
 rintro _ ⟨g1,q1⟩
 refine B4 q1<|A9<|B9 (Bg ((M7 p1)++ [(dl A5 p2),(oS y1.1 (27,g1)),(di y1.2)])) W (B3 W (gq W) W W) (Me _ _ _ _ _ (Bb _) W W G_hit (nl W) ((M7 p1)++ [(dl A5 p2),(oS y1.1 (27,g1)),(di y1.2)]) W (A1<|B0 ?_))
 cases h
 exact A6 (.inr W) (B6 (L4 W G_hit (nl W) W)<|Qa<|rD<|rD<|rD<|rD<|rD<|rD<|E7 (Y3<|gq W)<|rD G2) (.agg (ca W<|ca W<|ca W<|ca W<|ca W<|ca W<|.cons ⟨Y2,W⟩ (cz W)))
def Ae (p1:Map)(p2:(List Int)):Option Int:=
  (Cr p1 p2).bind fun v1=>some v1.length
theorem Tb(p1 p2 r)(h:Ae p1 p2=some r):PCall Tryz.prog 155 [(.agg (U5 p1)),(.list (List.map A5 p2))] (i64 r):=by
 refine C3 (fk Tryz.func155 Tryz.ntmps155 m0 (by with_unfolding_all rfl)) (nl W) ?_
 unfold Ae at h
 refine B4 (s0:=⟨T [(0,(.d _)),(1,(.d _))],G []⟩) (F3 W W) ?_
 refine A9<|sm W<|sv W<|A1<|A9<|sd W (B3 W G_hit W W)<|sv W<|bs h fun _ hv1 h=>B1 W W A3 (Pa _ _ _ hv1) (.inl W) (sv W<|sv W<|A1<|B0 ?_)
 cases h
 exact A6 (.inr W) (B6 (B2 W) C1) (.refl _)
def Du (p1:Map)(p2:(List Int)):Option (List Int):=
  (Cr p1 p2).bind fun v1=>some v1.starts
theorem Tt(p1 p2 r)(h:Du p1 p2=some r):PCall Tryz.prog 139 [(.agg (U5 p1)),(.list (List.map A5 p2))] (.list (List.map A5 r)):=by
 refine C3 (fk Tryz.func139 Tryz.ntmps139 m0 (by with_unfolding_all rfl)) (nl W) ?_
 unfold Du at h
 refine B4 (s0:=⟨T [(0,(.d _)),(1,(.d _))],G []⟩) (F3 W W) ?_
 refine A9<|sm W<|sv W<|A1<|A9<|sd W (B3 W G_hit W W)<|sv W<|bs h fun _ hv1 h=>B1 W W A3 (Pa _ _ _ hv1) (.inl W) (sv W<|sv W<|A1<|B0 ?_)
 cases h
 exact A6 (.inr W) (B6 (B2 W) C1) (.refl _)
def Dv (p2:Agent)(v1:(List Int))(x1:Int):Option (Stp Int Int):=
  (B7 v1 x1).bind fun v2=>cond (decide (v2>p2.S)) (some (.go (C5 (x1 - 1)))) (some (.out x1))
def Kc (p1:Map)(p2:Agent):Option (Int×Int):=
  (Du p1 p2.Route).bind fun v1=>(loop (Dv p2 v1) (C5 ((v1.length:Int) - 1))).bind fun y1=>(B7 p2.Route y1).bind fun v3=>(B7 v1 y1).bind fun v4=>some (v3,(C5 (p2.S - v4)))
theorem FE(p1 p2 r)(h:Kc p1 p2=some r):PCall Tryz.prog 156 [(.agg (U5 p1)),(.agg (C9 p2))] (.tup [(i64 r.1),(i64 r.2)]):=by
 refine C3 (fk Tryz.func156 Tryz.ntmps156 m0 (by with_unfolding_all rfl)) (nl W) ?_
 unfold Kc at h
 refine B4 (s0:=⟨T [(0,(.d _)),(1,(.d _))],G []⟩) (F3 W W) ?_
 refine lr<|fun u1 _=>sm W<|sm W<|sv W<|sv W<|A1<|A9<|sd W (B3 W (gq W) W W)<|sq W<|sl W G_hit W<|bs h fun v1 hv1 h=>B1 W W A3 (Tt _ _ _ hv1) (.inl W) (sv W<|A1<|A9<|sv W<|sd W (D7 W)<|sv W<|sv W<|A1<|A4<|bs h fun y1 hy1 h=>E0 (fun s=> ∃g1:Unit,Sb ⟨T [(3,(.ptr (3,u1) 0)),(6,(dl A5 v1)),(7,(di y1))],G [((3,u1),some<|.box 45 (X2 p2))]⟩ s) ?_ ?_)
 refine A7<|E3 (Dv p2 v1) (fun (x1:Int) (g2:Unit)=>⟨T [(3,(.ptr (3,u1) 0)),(6,(dl A5 v1)),(7,(di x1))],G [((3,u1),some<|.box 45 (X2 p2))]⟩) (C5 ((v1.length:Int) - 1)) () _ hy1 (F3 W W) ?_
 intro x1 g2 z1 hz1 ez1
 unfold Dv at hz1
 refine A4<|A4<|F4 W<|sv W<|sv W<|bs hz1 fun _ hv2 hz1=>sd W (C8 W W hv2 W)<|sd W (D6 W hv2 W)<|sq W<|sl W G_hit W<|sv W<|A1<|cc W hz1 (fun c1 hz1=> ?_)<|fun c1 hz1=> ?_
 refine A8<|A7<|C0<|sv W<|sv W<|sv W<|A1<|E2<|E5 ?_
 cases hz1
 exact ⟨W,(),(F3 W W)⟩
 refine C6 W ?_
 cases hz1
 obtain rfl:=ez1 _ rfl
 refine ⟨nofun,C4 W<|Aj ?_⟩
 exact ⟨(),(F3 W W)⟩
 rintro _ ⟨g1,q1⟩
 refine B4 q1<|A4<|F4 W<|sq W<|sl W G_hit W<|sv W<|bs h fun _ hv3 h=>sd W (C8 W W hv3 W)<|sd W (D6 W hv3 W)<|sq W<|sl W G_hit W<|sv W<|sv W<|bs h fun _ hv4 h=>sd W (C8 W W hv4 W)<|sd W (D6 W hv4 W)<|sv W<|sv W<|sv W<|A1<|B0 ?_
 cases h
 exact A6 (.inr W) (Po (B2 W) (B2 W) C1 C1) (.refl _)
def Bx (p1:Agent):Option WorldSpan:=
  some (WorldSpan.mk (C5 (p1.S - p1.Len)) p1.S)
theorem Li(p1 r)(h:Bx p1=some r):PCall Tryz.prog 140 [(.agg (C9 p1))] (.agg [(i64 r.from_),(i64 r.to)]):=by
 refine C3 (fk Tryz.func140 Tryz.ntmps140 m0 (by with_unfolding_all rfl)) (nl W) ?_
 unfold Bx at h
 refine B4 (s0:=⟨T [(0,(.d _))],G []⟩) (F3 W W) ?_
 refine A9<|sm W<|sn W W<|A1<|A9<|sq W<|sl W (gq W) W (sq W<|sl W (gq W) W (sv W<|sq W<|sl W (gq W) W (sv W<|Bc W G_hit [(di<|C5 (p1.S - p1.Len)),(di p1.S)] W (A1<|B0 ?_))))
 cases h
 exact A6 (.inr W) (B6 (L4 W G_hit (nl W) W) C1) (.refl _)
def Kd (p1:Map)(p2:Agent):Option Bool:=
  (Bx p2).bind fun v1=>(Ae p1 p2.Route).bind fun v2=>some (decide (v1.from_>v2))
theorem FF(p1 p2 r)(h:Kd p1 p2=some r):PCall Tryz.prog 158 [(.agg (U5 p1)),(.agg (C9 p2))] (bo r):=by
 refine C3 (fk Tryz.func158 Tryz.ntmps158 m0 (by with_unfolding_all rfl)) (nl W) ?_
 unfold Kd at h
 refine B4 (s0:=⟨T [(0,(.d _)),(1,(.d _))],G []⟩) (F3 W W) ?_
 refine A9<|sm W<|sn W W<|sv W<|A1<|A4<|F4 W<|sd W (B3 W G_hit W W)<|bs h fun _ hv1 h=>B1 W W A3 (Li _ _ hv1) (.inl W) (sv W<|sd W (B3 W (gq W) W W)<|sq W<|sl W G_hit W<|bs h fun _ hv2 h=>B1 W W A3 (Tb _ _ _ hv2) (.inl W) (sv W<|sv W<|A1<|B0 ?_))
 cases h
 exact A6 (.inr W) (B6 (B2 W) C1) (.refl _)
def Cd (p1:Map)(p2:State)(p3:Int):Option Int:=
  (B7 p2.Agents p3).bind fun v1=>(Bd p1 v1.Route).bind fun v2=>cond (v2 !=0) (some 13) (((cond (!(((((decide (v1.Len<300))||(decide (v1.Len>20000)))||(decide (v1.Begin<0)))||(decide (v1.Begin>1099511627776)))||(decide (v1.S<0)))) (Ae p1 v1.Route) (some default))).bind fun v3=>cond ((((((decide (v1.Len<300))||(decide (v1.Len>20000)))||(decide (v1.Begin<0)))||(decide (v1.Begin>1099511627776)))||(decide (v1.S<0)))||(decide (v1.S>(C5 ((C5 (v3+v1.Len))+2000))))) (some 2) ((Kc p1 v1).bind fun v4=>(B7 p1.Lanes v4.1).bind fun v5=>(Cq v5.Kind).bind fun v6=>cond ((decide (v1.V<0))||(decide (v1.V>v6.1))) (some 2) ((Kd p1 v1).bind fun v7=>cond ((!(v1.Gone==v7))||(((decide (v1.Begin>p2.Tick))&& (v1.S !=0))||((p3==0)&& (v1.Begin !=0)))) (some 10) (some 0))))
theorem ES(p1 p2 p3 r)(h:Cd p1 p2 p3=some r):PCall Tryz.prog 72 [(.agg (U5 p1)),(.agg (Cf p2)),(i64 p3)] (i64 r):=by
 refine C3 (fk Tryz.func72 Tryz.ntmps72 m0 (by with_unfolding_all rfl)) (nl W) ?_
 unfold Cd at h
 refine B4 (s0:=⟨T [(0,(.d _)),(1,(.d _)),(2,(.d _))],G []⟩) (F3 W W) ?_
 refine A9<|sm W<|sn W W<|sv W<|A1<|A9<|sq W<|sl W G_hit W<|sv W<|bs h fun v1 hv1 h=>sd W (C8 W W hv1 W)<|sd W (D2 W hv1 W W)<|sm W<|Bc W G_hit (X2 v1) W (A1<|A4<|A9<|sd W (B3 W (gq W) W W)<|sq W<|sl W G_hit W<|bs h fun _ hv2 h=>B1 W W A3 (Ut _ _ _ hv2) (.inl W) (sv W<|A1<|cc W h (fun c1 h=> ?_)<|fun c1 h=> ?_))
 refine A9<|sv W<|A1<|B0 ?_
 cases h
 exact A6 (.inr W) (B6 (B2 W) C1) (.refl _)
 refine A8<|A4<|A4<|F4 W<|sq W<|sl W G_hit W<|sv W<|sv W<|gp W (K5 W) (fun _=>W) (gf W (vl W G_hit W)<|gf W (vb W W W)<|sd W (O2 W W<|fun hc=>A2<|J7 hc)<|sv W<|gp W (K5 W) (fun _=>W) (gf W (vl W G_hit W)<|gf W (vb W W W)<|sd W (O2 W W<|fun hc=>A2<|J7 hc)<|sv W<|gp W (K5 W) (fun _=>W) (gf W (vl W G_hit W)<|gf W (vb W W W)<|sd W (O2 W W<|fun hc=>A2<|J7 hc)<|sv W<|gp W (K5 W) (fun _=>W) (gf W (vl W G_hit W)<|gf W (vb W W W)<|sd W (O2 W W<|fun hc=>A2<|J7 hc)<|sv W<|gp W (K5 W) (fun _=>W) (gf W (vl W G_hit W)<|gf W (fun _=>(B3 W (gq W) W W))<|gp W (K5 W) (fun _=>W) (gf W (vl W G_hit W)<|bs h fun v3 hv3 h=> ?_))))))
 refine O3 _ (i64 v3) (K5 W) (fun w18=>⟨_,[(.d (.agg (U5 p1))),(dl A5 v1.Route)],_,_,(by simp only [A2 w18];rfl),W,A3,Tb _ _ _<|C2 w18 hv3,(.inl W)⟩) ?_
 refine gp W (K5 W) (fun _=>W) (gf W (vl W G_hit W)<|gf W (fun w21=>(N1 (A2 w21) (A2 w21) W))<|gf W (vb W W W)<|gf W (fun w23=>(N1 (A2 w23) (A2 w23) W))<|sd W (O2 W W<|fun hc=>A2<|J7 hc)<|A1<|cc W h (fun c2 h=> ?_)<|fun c2 h=> ?_)
 refine A9<|sv W<|A1<|B0 ?_
 cases h
 exact A6 (.inr W) (B6 (B2 W) C1) (.refl _)
 refine A8<|A9<|sd W (B3 W (gq W) W W)<|sd W (B3 W G_hit W W)<|bs h fun _ hv4 h=>B1 W W A3 (FE _ _ _ hv4) (.inl W) (sv W<|sv W<|sv W<|sv W<|sv W<|A1<|A4<|A9<|sq W<|sl W (gq W) W (sv W<|bs h fun _ hv5 h=>sd W (C8 W W hv5 W)<|sv W<|sd W (D6 W hv5 W)<|bs h fun _ hv6 h=>B1 W W A3 (Oz _ _ hv6) (.inl W) (sv W<|sv W<|sv W<|sv W<|sv W<|sv W<|sv W<|A1<|A9<|sq W<|sl W G_hit W<|sv W<|sv W<|gp W (K5 W) (fun _=>W) (gf W (vl W G_hit W)<|gf W (fun _=>W)<|gf W (fun w27=>(N1 (A2 w27) (A2 w27) W))<|sd W (O2 W W<|fun hc=>A2<|J7 hc)<|A1<|cc W h (fun c3 h=> ?_)<|fun c3 h=> ?_))))
 refine A9<|sv W<|A1<|B0 ?_
 cases h
 exact A6 (.inr W) (B6 (B2 W) C1) (.refl _)
 refine A8<|A9<|sq W<|sl W G_hit W<|sq W<|sl W (gq W) W (sv W<|sv W<|gp W (M8 W) (fun _=>W) (gt W (vl W G_hit W)<|gt W (vb W W W)<|sa W W W<|sv W<|gf W (fun _=>W)<|gf W (vb W W W)<|gf W (fun w33=>(SW<|A2 w33))<|N2 _ (.ptr _ _) W (Z8 W) (fun _=>W) (gv W (Z8 W) (vl W G_hit W) (gv W (Z8 W) (vb W W W) (gf W (fun w37=>(KS (A2 w37) (fun hc=>A2<|IB w37 hc) W))<|sd W (O2 W W<|fun hc=>A2<|J7 hc)<|sv W<|A1<|A4<|A4<|F4 W<|sq W<|sl W G_hit W<|sd W (B3 W (gq W) W W)<|sd W (B3 W G_hit W W)<|bs h fun v7 hv7 h=>B1 W W A3 (FF _ _ _ hv7) (.inl W) (B9 (.d (bo (!(v1.Gone==v7)))) W W (sv W<|gf W (fun _=>W)<|sd W (O2 W W<|fun hc=>A2<|J7 hc)<|A1<|cc W h (fun c4 h=> ?_)<|fun c4 h=> ?_)))))))
 refine A9<|sv W<|A1<|B0 ?_
 cases h
 exact A6 (.inr W) (B6 (B2 W) C1) (.refl _)
 refine A8<|A9<|sv W<|A1<|B0 ?_
 cases h
 exact A6 (.inr W) (B6 (B2 W) C1) (.refl _)
def Dw (p1:Int):Option Bool:=
  some (p1 !=p1)
theorem Zg(p1 r)(h:Dw p1=some r):PCall Tryz.prog 216 [(i64 p1)] (bo r):=by
 refine C3 (fk Tryz.func216 Tryz.ntmps216 m0 (by with_unfolding_all rfl)) (nl W) ?_
 unfold Dw at h
 refine B4 (s0:=⟨T [(0,(.d _))],G []⟩) (F3 W W) ?_
 refine A9<|sv W<|A1<|A9<|sv W<|sv W<|sv W<|sv W<|A1<|B0 ?_
 cases h
 exact A6 (.inr W) (B6 (B2 W) C1) (.refl _)
def Y6 (p1:Int)(p2:Int):Option Int:=
  (Dw p1).bind fun v1=>(Dw p2).bind fun v2=>cond v1 (cond v2 (some 0) (some (-1))) (cond v2 (some 1) (cond (decide (p1<p2)) (some (-1)) (cond (decide (p1>p2)) (some 1) (some 0))))
theorem Ke(p1 p2 r)(h:Y6 p1 p2=some r):PCall Tryz.prog 160 [(i64 p1),(i64 p2)] (i64 r):=by
 refine C3 (fk Tryz.func160 Tryz.ntmps160 m0 (by with_unfolding_all rfl)) (nl W) ?_
 unfold Y6 at h
 refine B4 (s0:=⟨T [(0,(.d _)),(1,(.d _))],G []⟩) (F3 W W) ?_
 refine A9<|sv W<|A1<|A9<|sv W<|bs h fun _ hv1 h=>B1 W W A3 (Zg _ _ hv1) (.inl W) (sv W<|A1<|A9<|sv W<|bs h fun _ hv2 h=>B1 W W A3 (Zg _ _ hv2) (.inl W) (sv W<|A1<|A4<|A9<|sv W<|A1<|cc W h (fun c1 h=> ?_)<|fun c1 h=> ?_))
 refine A4<|A9<|sv W<|A1<|cc W h (fun c2 h=> ?_)<|fun c2 h=> ?_
 refine A9<|sv W<|A1<|B0 ?_
 cases h
 exact A6 (.inr W) (B6 (B2 W) C1) (.refl _)
 refine A8<|A9<|sv W<|A1<|B0 ?_
 cases h
 exact A6 (.inr W) (B6 (B2 W) C1) (.refl _)
 refine A8<|A4<|A9<|sv W<|A1<|cc W h (fun c3 h=> ?_)<|fun c3 h=> ?_
 refine A9<|sv W<|A1<|B0 ?_
 cases h
 exact A6 (.inr W) (B6 (B2 W) C1) (.refl _)
 refine A8<|A4<|A9<|sv W<|sv W<|sv W<|A1<|cc W h (fun c4 h=> ?_)<|fun c4 h=> ?_
 refine A9<|sv W<|A1<|B0 ?_
 cases h
 exact A6 (.inr W) (B6 (B2 W) C1) (.refl _)
 refine A8<|A4<|A9<|sv W<|sv W<|sv W<|A1<|cc W h (fun c5 h=> ?_)<|fun c5 h=> ?_
 refine A9<|sv W<|A1<|B0 ?_
 cases h
 exact A6 (.inr W) (B6 (B2 W) C1) (.refl _)
 refine A8<|A9<|sv W<|A1<|B0 ?_
 cases h
 exact A6 (.inr W) (B6 (B2 W) C1) (.refl _)
def Z7 (p1:(List Int))(x1:Int):Option (Stp Int (Sum Unit Int)):=
  cond (decide (x1< (p1.length:Int))) ((B7 p1 x1).bind fun v1=>cond (v1 !=0) (some (.out (.inr v1))) (some (.go (C5 (x1+1))))) (some (.out (.inl ())))
def Et (p1:(List Int)):Option Int:=
  thenS (loop (Z7 p1) 0) (fun _=>some 0) (fun r=>some r)
theorem Yi(p1 r)(h:Et p1=some r):PCall Tryz.prog 159 [(.list (List.map A5 p1))] (i64 r):=by
 refine C3 (fk Tryz.func159 Tryz.ntmps159 m0 (by with_unfolding_all rfl)) (nl W) ?_
 unfold Et at h
 refine B4 (s0:=⟨T [(0,(.d _))],G []⟩) (F3 W W) ?_
 refine A9<|sv W<|A1<|A9<|sv W<|A1<|A4<|A9<|sv W<|sd W (D7 W)<|sv W<|A1<|js h fun z1 hz1 h=>E0 (fun s=> ∃(y1:Unit) (g1:Unit),z1= .inl y1∧Sb ⟨T [(3,(di 0))],G []⟩ s) ?_ ?_
 refine A7<|E3 (Z7 p1) (fun (x1:Int) (g2:Unit)=>⟨T [(3,(di 0)),(6,(dl A5 p1)),(7,(di (p1.length:Int))),(8,(di x1))],G []⟩) 0 () _ hz1 (F3 W W) ?_
 intro x1 g2 z2 hz2 ez2
 unfold Z7 at hz2
 refine A9<|sv W<|A1<|A4<|cc W hz2 (fun c1 hz2=> ?_)<|fun c1 hz2=> ?_
 refine A8<|A4<|A7<|A9<|bs hz2 fun _ hv1 hz2=>sd W (C8 W W hv1 W)<|sd W (D6 W hv1 W)<|sv W<|A1<|A9<|sv W<|sv W<|sv W<|A1<|cc W hz2 (fun c2 hz2=> ?_)<|fun c2 hz2=> ?_
 refine A9<|sv W<|sv W<|A1<|B0 ?_
 cases hz2
 obtain rfl:=ez2 _ rfl
 refine ⟨nofun,F2 ?_⟩
 rw [bT]at h
 cases h
 exact A6 (.inr W) (B6 (B2 W) C1) (.refl _)
 refine A8<|E2<|C0<|sv W<|sv W<|A1<|E5 ?_
 cases hz2
 exact ⟨W,(),(F3 W W)⟩
 refine C6 W ?_
 cases hz2
 obtain rfl:=ez2 _ rfl
 refine ⟨nofun,C4 W<|Aj ?_⟩
 exact ⟨_,(),W,(F3 W W)⟩
 rintro _ ⟨y1,g1,rfl,q1⟩
 rw [bS]at h
 refine B4 q1<|A9<|sv W<|sv W<|A1<|B0 ?_
 cases h
 exact A6 (.inr W) (B6 (B2 W) C1) (.refl _)
def Fj (p1:Stay)(p2:Stay):Option Int:=
  (Y6 p1.Agent_ p2.Agent_).bind fun v1=>(Y6 p1.Zone_ p2.Zone_).bind fun v2=>(Et [v1,v2]).bind fun v3=>some v3
theorem Vx(p1 p2 r)(h:Fj p1 p2=some r):PCall Tryz.prog 73 [(.agg (J8 p1)),(.agg (J8 p2))] (i64 r):=by
 refine C3 (fk Tryz.func73 Tryz.ntmps73 (fun r=>if r==1 then [1010]else []) (by with_unfolding_all rfl)) (nl W) ?_
 unfold Fj at h
 refine B4 (s0:=⟨T [(0,(.d _)),(1,(.d _))],G []⟩) (F3 W W) ?_
 refine A9<|sm W<|sn W W<|sv W<|A1<|A4<|F4 W<|sq W<|sl W (gq W) W (sq W<|sl W G_hit W<|bs h fun v1 hv1 h=>B1 W W A3 (Ke _ _ _ hv1) (.inl W) (sq W<|sl W (gq W) W (sq W<|sl W G_hit W<|bs h fun v2 hv2 h=>B1 W W A3 (Ke _ _ _ hv2) (.inl W) (B9 (dl A5 [v1,v2]) W W (bs h fun _ hv3 h=>B1 W W A3 (Yi _ _ hv3) (.inl W) (sv W<|A1<|B0 ?_))))))
 cases h
 exact A6 (.inr W) (B6 (B2 W) C1) (.refl _)
def Eu (p1:Stay)(p2:State):Option Bool:=
  some ((((decide (p1.Since<0))||(decide (p1.Since>p2.Tick)))||(decide (p1.Rank<0)))||(decide (p1.Rank>100)))
theorem GH(p1 p2 r)(h:Eu p1 p2=some r):PCall Tryz.prog 75 [(.agg (J8 p1)),(.bp (Cf p2) 0)] (bo r):=by
 refine C3 (fk Tryz.func75 Tryz.ntmps75 m0 (by with_unfolding_all rfl)) (nl W) ?_
 unfold Eu at h
 refine B4 (s0:=⟨T [(0,(.d _)),(1,(.d _))],G []⟩) (F3 W W) ?_
 refine A9<|sm W<|sv W<|A1<|A9<|sq W<|sl W G_hit W<|sv W<|sv W<|gp W (K5 W) (fun _=>W) (gf W (vl W G_hit W)<|gf W (fun _=>W) ?_)
 refine gf W (fun w4=>(by simp only [A2 w4];rfl)) ?_
 refine gf W (fun w5=>(N1 (A2 w5) (A2 w5) W))<|sd W (O2 W W<|fun hc=>A2<|J7 hc)<|sv W<|gp W (K5 W) (fun _=>W) (gf W (vl W G_hit W)<|gf W (vb W W W)<|sd W (O2 W W<|fun hc=>A2<|J7 hc)<|sv W<|gp W (K5 W) (fun _=>W) (gf W (vl W G_hit W)<|gf W (vb W W W)<|sd W (O2 W W<|fun hc=>A2<|J7 hc)<|sv W<|A1<|B0 ?_))
 cases h
 exact A6 (.inr W) (B6 (B2 W) C1) (.refl _)
def H5 (p1:(List Stay))(p2:State)(x1:Int):Option (Stp Int (Sum Unit Int)):=
  cond (decide (x1< (p1.length:Int))) ((B7 p1 x1).bind fun v1=>(Eu v1 p2).bind fun v2=>cond v2 (some (.out (.inr x1))) (some (.go (C5 (x1+1))))) (some (.out (.inl ())))
def K3 (p1:(List Stay))(p2:State):Option Int:=
  thenS (loop (H5 p1 p2) 0) (fun _=>some (-1)) (fun r=>some r)
theorem Iz(p1 p2 r)(h:K3 p1 p2=some r):PCall Tryz.prog 161 [(.list (List.map J8 p1)),(.fn (.func 75) [] [(.bp (Cf p2) 0)])] (i64 r):=by
 refine C3 (fk Tryz.func161 Tryz.ntmps161 m0 (by with_unfolding_all rfl)) (nl W) ?_
 unfold K3 at h
 refine B4 (s0:=⟨T [(0,(.d _)),(1,(.d _))],G []⟩) (F3 W W) ?_
 refine A9<|sv W<|A1<|A4<|A9<|sv W<|sd W (D7 W)<|sv W<|A1<|js h fun z1 hz1 h=>E0 (fun s=> ∃(y1:Unit) (g1:Unit),z1= .inl y1∧Sb ⟨T [],G []⟩ s) ?_ ?_
 refine A7<|E3 (H5 p1 p2) (fun (x1:Int) (g2:Unit)=>⟨T [(0,(dl J8 p1)),(1,(.d (.fn (.func 75) [] [(.bp (Cf p2) 0)]))),(7,(di (p1.length:Int))),(8,(di x1))],G []⟩) 0 () _ hz1 (F3 W W) ?_
 intro x1 g2 z2 hz2 ez2
 unfold H5 at hz2
 refine A9<|sv W<|A1<|A4<|cc W hz2 (fun c1 hz2=> ?_)<|fun c1 hz2=> ?_
 refine A8<|A4<|A7<|A9<|sv W<|sv W<|A1<|A9<|sv W<|sv W<|sv W<|bs hz2 fun _ hv1 hz2=>sd W (C8 W W hv1 W)<|sd W (D2 W hv1 W W)<|bs hz2 fun _ hv2 hz2=>B1 W W A3 (GH _ _ _ hv2) (.inl W) (A1<|cc W hz2 (fun c2 hz2=> ?_)<|fun c2 hz2=> ?_)
 refine A9<|sv W<|sv W<|A1<|B0 ?_
 cases hz2
 obtain rfl:=ez2 _ rfl
 refine ⟨nofun,F2 ?_⟩
 rw [bT]at h
 cases h
 exact A6 (.inr W) (B6 (B2 W) C1) (.refl _)
 refine A8<|E2<|C0<|sv W<|sv W<|A1<|E5 ?_
 cases hz2
 exact ⟨W,(),(F3 W W)⟩
 refine C6 W ?_
 cases hz2
 obtain rfl:=ez2 _ rfl
 refine ⟨nofun,C4 W<|Aj ?_⟩
 exact ⟨_,(),W,(F3 W W)⟩
 rintro _ ⟨y1,g1,rfl,q1⟩
 rw [bS]at h
 refine B4 q1<|A9<|sv W<|A1<|B0 ?_
 cases h
 exact A6 (.inr W) (B6 (B2 W) C1) (.refl _)
def F7 (p1:(List Stay))(p2:State):Option Bool:=
  (K3 p1 p2).bind fun v1=>some (decide (v1≥0))
theorem Hf(p1 p2 r)(h:F7 p1 p2=some r):PCall Tryz.prog 74 [(.list (List.map J8 p1)),(.fn (.func 75) [] [(.bp (Cf p2) 0)])] (bo r):=by
 refine C3 (fk Tryz.func74 Tryz.ntmps74 m0 (by with_unfolding_all rfl)) (nl W) ?_
 unfold F7 at h
 refine B4 (s0:=⟨T [(0,(.d _)),(1,(.d _))],G []⟩) (F3 W W) ?_
 refine A9<|sv W<|A1<|A9<|sv W<|sv W<|bs h fun _ hv1 h=>B1 W W A3 (Iz _ _ _ hv1) (.inl W) (sv W<|sv W<|A1<|B0 ?_)
 cases h
 exact A6 (.inr W) (B6 (B2 W) C1) (.refl _)
def Cs (p1:Map)(p2:State)(x2:Int):Option (Stp Int (Sum Unit Int)):=
  cond (decide (x2< (p2.In.length:Int))) ((B7 p2.In x2).bind fun v3=>((cond ((!((((decide (v3.Agent_<0))||(decide (v3.Agent_≥(p2.Agents.length:Int))))||(decide (v3.Zone_<0)))||(decide (v3.Zone_≥(p1.Zones.length:Int)))))&& (decide (x2>0))) (B7 p2.In (C5 (x2 - 1))) (some default))).bind fun v4=>((cond ((!((((decide (v3.Agent_<0))||(decide (v3.Agent_≥(p2.Agents.length:Int))))||(decide (v3.Zone_<0)))||(decide (v3.Zone_≥(p1.Zones.length:Int)))))&& (decide (x2>0))) (Fj v4 v3) (some default))).bind fun v5=>cond (((((decide (v3.Agent_<0))||(decide (v3.Agent_≥(p2.Agents.length:Int))))||(decide (v3.Zone_<0)))||(decide (v3.Zone_≥(p1.Zones.length:Int))))||((decide (x2>0))&& (decide (v5≥0)))) (some (.out (.inr 11))) (some (.go (C5 (x2+1))))) (some (.out (.inl ())))
def Ct (p1:Map)(p2:State)(x1:Int):Option (Stp Int (Sum Unit Int)):=
  cond (decide (x1< (p2.Agents.length:Int))) ((Cd p1 p2 x1).bind fun v2=>cond (v2 !=0) (some (.out (.inr v2))) (some (.go (C5 (x1+1))))) (some (.out (.inl ())))
def Fk (p1:Map)(p2:State):Option Int:=
  (Fi p1).bind fun v1=>cond (v1 !=0) (some v1) (cond ((decide (p2.Tick<0))||(decide (p2.Tick>1099511627776))) (some 2) (cond ((p2.Agents.length:Int)==0) (some 6) (cond (decide ((p2.Agents.length:Int)>8)) (some 8) (thenS (loop (Ct p1 p2) 0) (fun _=>thenS (loop (Cs p1 p2) 0) (fun _=>(F7 p2.In p2).bind fun v6=>cond v6 (some 2) (some 0)) (fun r=>some r)) (fun r=>some r)))))
theorem Vy(p1 p2 r)(h:Fk p1 p2=some r):PCall Tryz.prog 24 [(.agg (U5 p1)),(.agg (Cf p2))] (i64 r):=by
 refine C3 (fk Tryz.func24 Tryz.ntmps24 m0 (by with_unfolding_all rfl)) (nl W) ?_
 unfold Fk at h
 refine B4 (s0:=⟨T [(0,(.d _)),(1,(.d _))],G []⟩) (F3 W W) ?_
 refine lr<|fun u1 _=>sm W<|sm W<|sv W<|A1<|A4<|A9<|sd W (B3 W (gq W) W W)<|bs h fun _ hv1 h=>B1 W W A3 (Vw _ _ hv1) (.inl W) (sv W<|A1<|A9<|sv W<|sv W<|A1<|cc W h (fun c1 h=> ?_)<|fun c1 h=> ?_)
 refine A9<|sv W<|sv W<|A1<|B0 ?_
 cases h
 exact A6 (.inr W) (B6 (B2 W) C1) (.refl _)
 refine A8<|A4<|A9<|sq W<|sl W G_hit W<|sd W (D7 W)<|sv W<|A1<|A7<|A9<|sq W<|sl W G_hit W<|sv W<|sv W<|gp W (K5 W) (fun _=>W) (gf W (vl W G_hit W)<|gf W (vb W W W)<|sd W (O2 W W<|fun hc=>A2<|J7 hc)<|sv W<|A1<|cc W h (fun c2 h=> ?_)<|fun c2 h=> ?_)
 refine A9<|sv W<|A1<|B0 ?_
 cases h
 exact A6 (.inr W) (B6 (B2 W) C1) (.refl _)
 refine A9<|sv W<|sv W<|sv W<|A1<|cc W h (fun c3 h=> ?_)<|fun c3 h=> ?_
 refine A9<|sv W<|A1<|B0 ?_
 cases h
 exact A6 (.inr W) (B6 (B2 W) C1) (.refl _)
 refine A9<|sv W<|sv W<|sv W<|A1<|cc W h (fun c4 h=> ?_)<|fun c4 h=> ?_
 refine A9<|sv W<|A1<|B0 ?_
 cases h
 exact A6 (.inr W) (B6 (B2 W) C1) (.refl _)
 refine A8<|E2<|A4<|A9<|sq W<|sl W G_hit W<|sd W (D7 W)<|sv W<|A1<|js h fun z1 hz1 h=>E0 (fun s=> ∃(y1:Unit) (g1:Unit),z1= .inl y1∧Sb ⟨T [(2,(.ptr (2,u1) 0)),(3,(.ptr (3,u1) 0))],G [((2,u1),some<|.box 33 (M7 p1)),((3,u1),some<|.box 25 (L0 p2))]⟩ s) ?_ ?_
 refine A7<|E3 (Ct p1 p2) (fun (x1:Int) (g2:Unit)=>⟨T [(2,(.ptr (2,u1) 0)),(3,(.ptr (3,u1) 0)),(36,(di (p2.Agents.length:Int))),(37,(di x1))],G [((2,u1),some<|.box 33 (M7 p1)),((3,u1),some<|.box 25 (L0 p2))]⟩) 0 () _ hz1 (F3 W W) ?_
 intro x1 g2 z2 hz2 ez2
 unfold Ct at hz2
 refine A9<|sv W<|A1<|A4<|cc W hz2 (fun c5 hz2=> ?_)<|fun c5 hz2=> ?_
 refine A8<|A4<|A7<|A9<|sv W<|sv W<|A1<|A9<|sd W (B3 W G_hit W W)<|sd W (B3 W (gq W) W W)<|sv W<|bs hz2 fun _ hv2 hz2=>B1 W W A3 (ES _ _ _ _ hv2) (.inl W) (sv W<|A1<|A9<|sv W<|sv W<|A1<|cc W hz2 (fun c6 hz2=> ?_)<|fun c6 hz2=> ?_)
 refine A9<|sv W<|sv W<|A1<|B0 ?_
 cases hz2
 obtain rfl:=ez2 _ rfl
 refine ⟨nofun,F2 ?_⟩
 rw [bT]at h
 cases h
 exact A6 (.inr W) (B6 (B2 W) C1) (.refl _)
 refine A8<|E2<|C0<|sv W<|sv W<|A1<|E5 ?_
 cases hz2
 exact ⟨W,(),(F3 W W)⟩
 refine C6 W ?_
 cases hz2
 obtain rfl:=ez2 _ rfl
 refine ⟨nofun,C4 W<|Aj ?_⟩
 exact ⟨_,(),W,(F3 W W)⟩
 rintro _ ⟨y1,g1,rfl,q1⟩
 rw [bS]at h
 refine B4 q1<|A4<|A9<|sq W<|sl W (gq W) W (sd W (D7 W)<|sv W<|A1<|js h fun z3 hz3 h=>E0 (fun s=> ∃(y2:Unit) (g3:Unit),z3= .inl y2∧Sb ⟨T [(3,(.ptr (3,u1) 0))],G [((3,u1),some<|.box 25 (L0 p2))]⟩ s) ?_ ?_)
 refine A7<|E3 (Cs p1 p2) (fun (x2:Int) (g4:Unit)=>⟨T [(2,(.ptr (2,u1) 0)),(3,(.ptr (3,u1) 0)),(49,(dl J8 p2.In)),(50,(di (p2.In.length:Int))),(51,(di x2))],G [((2,u1),some<|.box 33 (M7 p1)),((3,u1),some<|.box 25 (L0 p2))]⟩) 0 () _ hz3 (F3 W W) ?_
 intro x2 g4 z4 hz4 ez4
 unfold Cs at hz4
 refine A9<|sv W<|A1<|A4<|cc W hz4 (fun c7 hz4=> ?_)<|fun c7 hz4=> ?_
 refine A8<|A4<|A7<|A9<|sv W<|bs hz4 fun v3 hv3 hz4=>sd W (C8 W W hv3 W)<|sd W (D2 W hv3 W W)<|sm W<|sv W<|Bc W G_hit (BM v3) W (A1<|A4<|F4 W<|sq W<|sl W G_hit W<|sv W<|sv W<|gp W (K5 W) (fun _=>W) (gf W (vl W G_hit W)<|gp W (K5 W) (fun _=>W) (gf W (vl W (gq W) W)<|gf W (fun w8=>(D7<|A2 w8))<|gf W (fun w9=>(N1 (A2 w9) (A2 w9) W))<|sd W (O2 W W<|fun hc=>A2<|J7 hc)<|sv W<|gp W (K5 W) (fun _=>W) (gf W (vl W G_hit W)<|gf W (vb W W W)<|sd W (O2 W W<|fun hc=>A2<|J7 hc)<|sv W<|gp W (K5 W) (fun _=>W) (gf W (vl W G_hit W)<|gp W (K5 W) (fun _=>W) (gf W (vl W (gq W) W)<|gf W (fun w17=>(D7<|A2 w17))<|gf W (fun w18=>(N1 (A2 w18) (A2 w18) W))<|sd W (O2 W W<|fun hc=>A2<|J7 hc)<|sv W<|gf W (fun _=>W)<|gf W (vb W W W)<|gf W (fun w21=>(SW<|A2 w21))<|N2 _ (.ptr _ _) W (Z8 W) (fun _=>W) (gv W (Z8 W) (vl W (gq W) W) (gv W (Z8 W) (fun _=>W) (gv W (Z8 W) (vb W W W) (bs hz4 fun v4 hv4 hz4=>gv W (Z8 W) (fun w26=>(C8 (A2 w26) (A2 w26) (C2 w26 hv4) W)) (gv W (Z8 W) (fun w27=>(D2 (A2 w27) (C2 w27 hv4) W W)) (gv W (Z8 W) (fun _=>(B3 W G_hit W W)) (bs hz4 fun v5 hv5 hz4=> ?_)))))))))))))
 refine O3 _ (i64 v5) (Z8 W) (fun w29=>⟨_,[(.d (.agg (J8 v4))),(.d (.agg (J8 v3)))],_,_,(by simp only [A2 w29];rfl),W,A3,Vx _ _ _<|C2 w29 hv5,(.inl W)⟩) ?_
 refine gv W (Z8 W) (vb W W W) (gf W (fun w31=>(KS (A2 w31) (fun hc=>A2<|IB w31 hc) W))<|sd W (O2 W W<|fun hc=>A2<|J7 hc)<|A1<|cc W hz4 (fun c8 hz4=> ?_)<|fun c8 hz4=> ?_)
 refine A9<|sv W<|A1<|B0 ?_
 cases hz4
 obtain rfl:=ez4 _ rfl
 refine ⟨nofun,F2 ?_⟩
 rw [bT]at h
 cases h
 exact A6 (.inr W) (B6 (B2 W) C1) (.refl _)
 refine A8<|E2<|C0<|sv W<|sv W<|A1<|E5 ?_
 cases hz4
 exact ⟨W,(),(F3 W W)⟩
 refine C6 W ?_
 cases hz4
 obtain rfl:=ez4 _ rfl
 refine ⟨nofun,C4 W<|Aj ?_⟩
 exact ⟨_,(),W,(F3 W W)⟩
 rintro _ ⟨y2,g3,rfl,q2⟩
 rw [bS]at h
 refine B4 q2<|A4<|A9<|sq W<|sl W G_hit W<|B9 (.fn _ _ _) W W (bs h fun _ hv6 h=>B1 W (rD<|E7 (EY G2<|E7 (Df G_hit<|rD<|rD<|rD G2) G2) G2) A3 (Hf _ _ _ hv6) (.inr W) (A1<|cc W h (fun c9 h=> ?_)<|fun c9 h=> ?_))
 refine A9<|sv W<|A1<|B0 ?_
 cases h
 exact A6 (.inr W) (B6 (B2 W) C1) (.refl _)
 refine A8<|A9<|sv W<|A1<|B0 ?_
 cases h
 exact A6 (.inr W) (B6 (B2 W) C1) (.refl _)
def Mt (p1:Agent):Option Bool:=
  some p1.Gone
theorem OA(p1 r)(h:Mt p1=some r):PCall Tryz.prog 79 [(.agg (C9 p1))] (bo r):=by
 refine C3 (fk Tryz.func79 Tryz.ntmps79 m0 (by with_unfolding_all rfl)) (nl W) ?_
 unfold Mt at h
 refine B4 (s0:=⟨T [(0,(.d _))],G []⟩) (F3 W W) ?_
 refine A9<|sm W<|sv W<|A1<|A9<|sq W<|sl W G_hit W<|sv W<|A1<|B0 ?_
 cases h
 exact A6 (.inr W) (B6 (B2 W) C1) (.refl _)
def H7 (p1:(List Agent))(x1:Int):Option (Stp Int (Sum Unit Int)):=
  cond (decide (x1< (p1.length:Int))) ((B7 p1 x1).bind fun v1=>(Mt v1).bind fun v2=>cond v2 (some (.out (.inr x1))) (some (.go (C5 (x1+1))))) (some (.out (.inl ())))
def K6 (p1:(List Agent)):Option Int:=
  thenS (loop (H7 p1) 0) (fun _=>some (-1)) (fun r=>some r)
theorem Jo(p1 r)(h:K6 p1=some r):PCall Tryz.prog 170 [(.list (List.map C9 p1)),(.fn (.func 79) [] [])] (i64 r):=by
 refine C3 (fk Tryz.func170 Tryz.ntmps170 m0 (by with_unfolding_all rfl)) (nl W) ?_
 unfold K6 at h
 refine B4 (s0:=⟨T [(0,(.d _)),(1,(.d _))],G []⟩) (F3 W W) ?_
 refine A9<|sv W<|A1<|A4<|A9<|sv W<|sd W (D7 W)<|sv W<|A1<|js h fun z1 hz1 h=>E0 (fun s=> ∃(y1:Unit) (g1:Unit),z1= .inl y1∧Sb ⟨T [],G []⟩ s) ?_ ?_
 refine A7<|E3 (H7 p1) (fun (x1:Int) (g2:Unit)=>⟨T [(0,(dl C9 p1)),(1,(.d (.fn (.func 79) [] []))),(7,(di (p1.length:Int))),(8,(di x1))],G []⟩) 0 () _ hz1 (F3 W W) ?_
 intro x1 g2 z2 hz2 ez2
 unfold H7 at hz2
 refine A9<|sv W<|A1<|A4<|cc W hz2 (fun c1 hz2=> ?_)<|fun c1 hz2=> ?_
 refine A8<|A4<|A7<|A9<|sv W<|sv W<|A1<|A9<|sv W<|sv W<|sv W<|bs hz2 fun _ hv1 hz2=>sd W (C8 W W hv1 W)<|sd W (D2 W hv1 W W)<|bs hz2 fun _ hv2 hz2=>B1 W W A3 (OA _ _ hv2) (.inl W) (A1<|cc W hz2 (fun c2 hz2=> ?_)<|fun c2 hz2=> ?_)
 refine A9<|sv W<|sv W<|A1<|B0 ?_
 cases hz2
 obtain rfl:=ez2 _ rfl
 refine ⟨nofun,F2 ?_⟩
 rw [bT]at h
 cases h
 exact A6 (.inr W) (B6 (B2 W) C1) (.refl _)
 refine A8<|E2<|C0<|sv W<|sv W<|A1<|E5 ?_
 cases hz2
 exact ⟨W,(),(F3 W W)⟩
 refine C6 W ?_
 cases hz2
 obtain rfl:=ez2 _ rfl
 refine ⟨nofun,C4 W<|Aj ?_⟩
 exact ⟨_,(),W,(F3 W W)⟩
 rintro _ ⟨y1,g1,rfl,q1⟩
 rw [bS]at h
 refine B4 q1<|A9<|sv W<|A1<|B0 ?_
 cases h
 exact A6 (.inr W) (B6 (B2 W) C1) (.refl _)
def H8 (p1:(List Agent)):Option Bool:=
  (K6 p1).bind fun v1=>some (decide (v1≥0))
theorem Ia(p1 r)(h:H8 p1=some r):PCall Tryz.prog 78 [(.list (List.map C9 p1)),(.fn (.func 79) [] [])] (bo r):=by
 refine C3 (fk Tryz.func78 Tryz.ntmps78 m0 (by with_unfolding_all rfl)) (nl W) ?_
 unfold H8 at h
 refine B4 (s0:=⟨T [(0,(.d _)),(1,(.d _))],G []⟩) (F3 W W) ?_
 refine A9<|sv W<|A1<|A9<|sv W<|sv W<|bs h fun _ hv1 h=>B1 W W A3 (Jo _ _ hv1) (.inl W) (sv W<|sv W<|A1<|B0 ?_)
 cases h
 exact A6 (.inr W) (B6 (B2 W) C1) (.refl _)
def Ec (p1:State)(p2:Int):Option Bool:=
  ((cond ((decide (p2≥0))&& (decide (p2< (p1.Agents.length:Int)))) (B7 p1.Agents p2) (some default))).bind fun v1=>((cond (((decide (p2≥0))&& (decide (p2< (p1.Agents.length:Int))))&& (!v1.Gone)) (B7 p1.Agents p2) (some default))).bind fun v2=>some ((((decide (p2≥0))&& (decide (p2< (p1.Agents.length:Int))))&& (!v1.Gone))&& (decide (v2.Begin≤p1.Tick)))
theorem Qh(p1 p2 r)(h:Ec p1 p2=some r):PCall Tryz.prog 36 [(.agg (Cf p1)),(i64 p2)] (bo r):=by
 refine C3 (fk Tryz.func36 Tryz.ntmps36 m0 (by with_unfolding_all rfl)) (nl W) ?_
 unfold Ec at h
 refine B4 (s0:=⟨T [(0,(.d _)),(1,(.d _))],G []⟩) (F3 W W) ?_
 refine A9<|sm W<|sv W<|A1<|A4<|F4 W<|sv W<|sv W<|sv W<|gt W (fun _=>W)<|gp W (M8 W) (fun _=>W) (gt W (vl W G_hit W)<|gt W (fun w4=>(D7<|A2 w4))<|gt W (fun w5=>(N1 (A2 w5) (A2 w5) W))<|sa W W W<|sv W<|gp W (M8 W) (fun _=>W) (gt W (vl W G_hit W)<|gt W (fun _=>W)<|bs h fun v1 hv1 h=>gt W (fun w9=>(C8 (A2 w9) (A2 w9) (C2 w9 hv1) W)) ?_))
 refine gt W (fun w10=>(by simp only [A2 w10];rfl)) ?_
 refine gt W (fun w11=>(D6 (A2 w11) (C2 w11 hv1) W)) ?_
 refine N2 _ (.d (bo (!v1.Gone))) W (M8 W) (fun w12=>(by simp only [A2 w12];rfl)) ?_
 refine sa W W W<|sv W<|gp W (M8 W) (fun _=>W) (gt W (vl W G_hit W)<|gt W (fun _=>W)<|bs h fun _ hv2 h=>gt W (fun w16=>(C8 (A2 w16) (A2 w16) (C2 w16 hv2) W)) ?_)
 refine gt W (fun w17=>(by simp only [A2 w17];rfl)) ?_
 refine gt W (fun w18=>(D6 (A2 w18) (C2 w18 hv2) W))<|gp W (M8 W) (fun _=>W) (gt W (vl W G_hit W)<|gt W (fun w21=>(N1 (A2 w21) (A2 w21) W))<|sa W W W<|sv W<|A1<|B0 ?_)
 cases h
 exact A6 (.inr W) (B6 (B2 W) C1) (.refl _)
def Ib (p1:Agent):Option Bool:=
  some ((((decide (p1.S≥0))&& (decide (p1.S≤1099511627776)))&& (decide (p1.Len≥0)))&& (decide (p1.Len≤1099511627776)))
theorem Yj(p1 r)(h:Ib p1=some r):PCall Tryz.prog 138 [(.agg (C9 p1))] (bo r):=by
 refine C3 (fk Tryz.func138 Tryz.ntmps138 m0 (by with_unfolding_all rfl)) (nl W) ?_
 unfold Ib at h
 refine B4 (s0:=⟨T [(0,(.d _))],G []⟩) (F3 W W) ?_
 refine A9<|sm W<|sv W<|A1<|A9<|sq W<|sl W G_hit W<|sv W<|sv W<|gp W (M8 W) (fun _=>W) (gt W (vl W G_hit W)<|gt W (vb W W W)<|sa W W W<|sv W<|gp W (M8 W) (fun _=>W) (gt W (vl W G_hit W)<|gt W (vb W W W)<|sa W W W<|sv W<|gp W (M8 W) (fun _=>W) (gt W (vl W G_hit W)<|gt W (vb W W W)<|sa W W W<|sv W<|A1<|B0 ?_)))
 cases h
 exact A6 (.inr W) (B6 (B2 W) C1) (.refl _)
def Y7 (p1:Int):Option Bool:=
  some (p1 !=p1)
theorem Kf(p1 r)(h:Y7 p1=some r):PCall Tryz.prog 255 [(i64 p1)] (bo r):=by
 refine C3 (fk Tryz.func255 Tryz.ntmps255 m0 (by with_unfolding_all rfl)) (nl W) ?_
 unfold Y7 at h
 refine B4 (s0:=⟨T [(0,(.d _))],G []⟩) (F3 W W) ?_
 refine A9<|sv W<|A1<|A9<|sv W<|sv W<|sv W<|sv W<|A1<|B0 ?_
 cases h
 exact A6 (.inr W) (B6 (B2 W) C1) (.refl _)
def Af (p1:Int)(p2:Int):Option Int:=
  (Y7 p1).bind fun v1=>(Y7 p2).bind fun v2=>cond v1 (cond v2 (some 0) (some (-1))) (cond v2 (some 1) (cond (decide (p1<p2)) (some (-1)) (cond (decide (p1>p2)) (some 1) (some 0))))
theorem Tc(p1 p2 r)(h:Af p1 p2=some r):PCall Tryz.prog 229 [(i64 p1),(i64 p2)] (i64 r):=by
 refine C3 (fk Tryz.func229 Tryz.ntmps229 m0 (by with_unfolding_all rfl)) (nl W) ?_
 unfold Af at h
 refine B4 (s0:=⟨T [(0,(.d _)),(1,(.d _))],G []⟩) (F3 W W) ?_
 refine A9<|sv W<|A1<|A9<|sv W<|bs h fun _ hv1 h=>B1 W W A3 (Kf _ _ hv1) (.inl W) (sv W<|A1<|A9<|sv W<|bs h fun _ hv2 h=>B1 W W A3 (Kf _ _ hv2) (.inl W) (sv W<|A1<|A4<|A9<|sv W<|A1<|cc W h (fun c1 h=> ?_)<|fun c1 h=> ?_))
 refine A4<|A9<|sv W<|A1<|cc W h (fun c2 h=> ?_)<|fun c2 h=> ?_
 refine A9<|sv W<|A1<|B0 ?_
 cases h
 exact A6 (.inr W) (B6 (B2 W) C1) (.refl _)
 refine A8<|A9<|sv W<|A1<|B0 ?_
 cases h
 exact A6 (.inr W) (B6 (B2 W) C1) (.refl _)
 refine A8<|A4<|A9<|sv W<|A1<|cc W h (fun c3 h=> ?_)<|fun c3 h=> ?_
 refine A9<|sv W<|A1<|B0 ?_
 cases h
 exact A6 (.inr W) (B6 (B2 W) C1) (.refl _)
 refine A8<|A4<|A9<|sv W<|sv W<|sv W<|A1<|cc W h (fun c4 h=> ?_)<|fun c4 h=> ?_
 refine A9<|sv W<|A1<|B0 ?_
 cases h
 exact A6 (.inr W) (B6 (B2 W) C1) (.refl _)
 refine A8<|A4<|A9<|sv W<|sv W<|sv W<|A1<|cc W h (fun c5 h=> ?_)<|fun c5 h=> ?_
 refine A9<|sv W<|A1<|B0 ?_
 cases h
 exact A6 (.inr W) (B6 (B2 W) C1) (.refl _)
 refine A8<|A9<|sv W<|A1<|B0 ?_
 cases h
 exact A6 (.inr W) (B6 (B2 W) C1) (.refl _)
def Ed (p1:Pass)(p2:Pass):Option Int:=
  (Af p1.From p2.From).bind fun v1=>(Y6 p1.Zone_ p2.Zone_).bind fun v2=>(Et [v1,v2]).bind fun v3=>some v3
theorem IL(p1 p2 r)(h:Ed p1 p2=some r):PCall Tryz.prog 264 [(.agg (T4 p1)),(.agg (T4 p2))] (i64 r):=by
 refine C3 (fk Tryz.func264 Tryz.ntmps264 (fun r=>if r==1 then [1010]else []) (by with_unfolding_all rfl)) (nl W) ?_
 unfold Ed at h
 refine B4 (s0:=⟨T [(0,(.d _)),(1,(.d _))],G []⟩) (F3 W W) ?_
 refine A9<|sm W<|sn W W<|sv W<|A1<|A4<|F4 W<|sq W<|sl W (gq W) W (sq W<|sl W G_hit W<|bs h fun v1 hv1 h=>B1 W W A3 (Tc _ _ _ hv1) (.inl W) (sq W<|sl W (gq W) W (sq W<|sl W G_hit W<|bs h fun v2 hv2 h=>B1 W W A3 (Ke _ _ _ hv2) (.inl W) (B9 (dl A5 [v1,v2]) W W (bs h fun _ hv3 h=>B1 W W A3 (Yi _ _ hv3) (.inl W) (sv W<|A1<|B0 ?_))))))
 cases h
 exact A6 (.inr W) (B6 (B2 W) C1) (.refl _)
end
end Go.Abs.World
