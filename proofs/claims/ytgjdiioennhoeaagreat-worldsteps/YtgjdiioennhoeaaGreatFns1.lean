/-
  The Go functions that WorldSteps reaches, as plain Lean functions, and the proofs that the program computes them.
-/
import Derived.Test.YtgjdiioennhoeaaGreatCoreD
import Derived.Test.YtgjdiioennhoeaaGreatProg
import Derived.KernelRfl
import Derived.IntWalk
import Derived.Shelf.SlicesE.Compact
set_option maxRecDepth 20000
set_option maxHeartbeats 4000000
set_option linter.unusedVariables false
namespace Go.Abs.World
noncomputable section
open Go Go.Abs Go.Proofs
attribute [local irreducible] M5 Kb Fu
structure Spot where
  X:Int
  Y:Int
  deriving Inhabited
structure CurveVector where
  x:Int
  y:Int
  deriving Inhabited
structure CurvePiece where
  p:Spot
  v:CurveVector
  l:Int
  start:Int
  deriving Inhabited
abbrev Fh:Spot→List D:=fun x=> [(i64 x.X),(i64 x.Y)]
structure Curve where
  Pts:(List Spot)
  deriving Inhabited
abbrev xQ:Curve→List D:=fun x=> [(.list (List.map Fh x.Pts))]
structure Stay where
  Agent_:Int
  Zone_:Int
  Since:Int
  Rank:Int
  deriving Inhabited
abbrev I9:Stay→List D:=fun x=> [(i64 x.Agent_),(i64 x.Zone_),(i64 x.Since),(i64 x.Rank)]
abbrev A4:Int→List D:=fun x=> [.v (.int .i64 x)]
structure Agent where
  Route:(List Int)
  S:Int
  V:Int
  Len:Int
  Begin:Int
  Obey:Bool
  Gone:Bool
  deriving Inhabited
structure State where
  Tick:Int
  Agents:(List Agent)
  In:(List Stay)
  deriving Inhabited
abbrev D2:Agent→List D:=fun x=> [(.list (List.map A4 x.Route)),(i64 x.S),(i64 x.V),(i64 x.Len),(i64 x.Begin),(bo x.Obey),(bo x.Gone)]
abbrev U4:State→List D:=fun x=> [(i64 x.Tick),(.list (List.map D2 x.Agents)),(.list (List.map I9 x.In))]
abbrev nZ:(List Agent)→List D:=fun x=> [.list (List.map D2 x)]
abbrev RE:(List Int)→List D:=fun x=> [.list (List.map A4 x)]
abbrev wP:Bool→List D:=fun x=> [bo x]
abbrev rO:(List Stay)→List D:=fun x=> [.list (List.map I9 x)]
structure Lane where
  Kind:Int
  Curve_:Curve
  Half:Int
  Limit:Int
  Next:(List Int)
  deriving Inhabited
structure Part where
  Lane_:Int
  From:Int
  To:Int
  Rank:Int
  deriving Inhabited
structure Zone where
  Parts:(List Part)
  Signal_:Int
  deriving Inhabited
structure Phase where
  Ticks:Int
  Green:(List Int)
  deriving Inhabited
structure Signal where
  Offset:Int
  Phases:(List Phase)
  deriving Inhabited
structure Work where
  Lane_:Int
  From:Int
  To:Int
  Begin:Int
  End:Int
  Limit:Int
  deriving Inhabited
structure Map where
  Version:Int
  Lanes:(List Lane)
  Zones:(List Zone)
  Signals:(List Signal)
  Works:(List Work)
  deriving Inhabited
abbrev Jz:Lane→List D:=fun x=> [(i64 x.Kind),(.list (List.map Fh x.Curve_.Pts)),(i64 x.Half),(i64 x.Limit),(.list (List.map A4 x.Next))]
abbrev Dq:Part→List D:=fun x=> [(i64 x.Lane_),(i64 x.From),(i64 x.To),(i64 x.Rank)]
abbrev Ka:Zone→List D:=fun x=> [(.list (List.map Dq x.Parts)),(i64 x.Signal_)]
abbrev Dn:Phase→List D:=fun x=> [(i64 x.Ticks),(.list (List.map A4 x.Green))]
abbrev Sg:Signal→List D:=fun x=> [(i64 x.Offset),(.list (List.map Dn x.Phases))]
abbrev BN:Work→List D:=fun x=> [(i64 x.Lane_),(i64 x.From),(i64 x.To),(i64 x.Begin),(i64 x.End),(i64 x.Limit)]
abbrev yF:Nat→List D:=fun x=> [.fn (.func x) [] []]
structure RoadsCheck where
  Map_:Map
  deriving Inhabited
abbrev wQ:(Int×Int×Int)→List D:=fun x=> [(i64 x.1),(i64 x.2.1),(i64 x.2.2)]
structure RoadsWay where
  Map_:Map
  lanes:(List Int)
  starts:(List Int)
  length:Int
  deriving Inhabited
structure WorldSpan where
  from_:Int
  to:Int
  deriving Inhabited
structure Crash where
  Tick:Int
  A:Int
  B:Int
  Lane_:Int
  Zone_:Int
  Who:(List Int)
  deriving Inhabited
structure WorldScene where
  m:Map
  before:State
  after:State
  acts:(List Int)
  crashes:(List Crash)
  deriving Inhabited
abbrev X5:Crash→List D:=fun x=> [(i64 x.Tick),(i64 x.A),(i64 x.B),(i64 x.Lane_),(i64 x.Zone_),(.list (List.map A4 x.Who))]
structure Pass where
  Zone_:Int
  Part_:Int
  From:Int
  To:Int
  deriving Inhabited
abbrev U0:Pass→List D:=fun x=> [(i64 x.Zone_),(i64 x.Part_),(i64 x.From),(i64 x.To)]
structure Span where
  Lane_:Int
  From:Int
  To:Int
  deriving Inhabited
abbrev Pr:Span→List D:=fun x=> [(i64 x.Lane_),(i64 x.From),(i64 x.To)]
structure Anon7 where
  x:Int
  y:Int
  signed:Bool
  code:Int
  deriving Inhabited
structure RuntimeBoundsError where
  x:Int
  y:Int
  signed:Bool
  code:Int
  deriving Inhabited
structure Anon13 where
  msg:ByteArray
  addr:Int
  deriving Inhabited
structure RuntimeErrorAddressString where
  msg:ByteArray
  addr:Int
  deriving Inhabited
structure Anon24 where
  Tick:Int
  Agents:(List Agent)
  In:(List Stay)
  deriving Inhabited
structure Anon32 where
  Version:Int
  Lanes:(List Lane)
  Zones:(List Zone)
  Signals:(List Signal)
  Works:(List Work)
  deriving Inhabited
structure Anon44 where
  Route:(List Int)
  S:Int
  V:Int
  Len:Int
  Begin:Int
  Obey:Bool
  Gone:Bool
  deriving Inhabited
structure Anon60 where
  Pts:(List Spot)
  deriving Inhabited
structure Anon62 where
  Kind:Int
  Curve_:Curve
  Half:Int
  Limit:Int
  Next:(List Int)
  deriving Inhabited
structure Anon72 where
  R:Int
  S:Int
  V:Int
  Len:Int
  Begin:Int
  Disobeys:Bool
  deriving Inhabited
structure KitActor where
  R:Int
  S:Int
  V:Int
  Len:Int
  Begin:Int
  Disobeys:Bool
  deriving Inhabited
structure Anon76 where
  Tick:Int
  A:Int
  B:Int
  Lane_:Int
  Zone_:Int
  Who:(List Int)
  deriving Inhabited
structure Anon82 where
  Stamp:Int
  Lo:Int
  Hi:Int
  deriving Inhabited
structure Mark where
  Stamp:Int
  Lo:Int
  Hi:Int
  deriving Inhabited
structure Anon92 where
  Lane_:Int
  From:Int
  To:Int
  deriving Inhabited
structure Point where
  X:Int
  Y:Int
  V:Int
  deriving Inhabited
structure Anon98 where
  Stamp:Int
  Seen:(List Span)
  Points:(List Point)
  deriving Inhabited
structure Scan where
  Stamp:Int
  Seen:(List Span)
  Points:(List Point)
  deriving Inhabited
structure Anon103 where
  X:Int
  Y:Int
  deriving Inhabited
structure Anon106 where
  X:Int
  Y:Int
  V:Int
  deriving Inhabited
structure Anon113 where
  Lane_:Int
  From:Int
  To:Int
  Rank:Int
  deriving Inhabited
structure Anon116 where
  Parts:(List Part)
  Signal_:Int
  deriving Inhabited
structure Anon119 where
  Offset:Int
  Phases:(List Phase)
  deriving Inhabited
structure Anon122 where
  Lane_:Int
  From:Int
  To:Int
  Begin:Int
  End:Int
  Limit:Int
  deriving Inhabited
structure Anon126 where
  Agent_:Int
  Zone_:Int
  Since:Int
  Rank:Int
  deriving Inhabited
structure Anon134 where
  m:Map
  before:State
  after:State
  acts:(List Int)
  crashes:(List Crash)
  deriving Inhabited
structure Anon164 where
  s:ByteArray
  bad:Bool
  deriving Inhabited
structure WorldReader where
  s:ByteArray
  bad:Bool
  deriving Inhabited
structure Anon171 where
  s:ByteArray
  bad:Bool
  deriving Inhabited
structure Ref04Reader where
  s:ByteArray
  bad:Bool
  deriving Inhabited
structure Anon190 where
  from_:Int
  to:Int
  deriving Inhabited
structure Anon207 where
  Ticks:Int
  Green:(List Int)
  deriving Inhabited
structure Anon211 where
  Map_:Map
  deriving Inhabited
structure Anon228 where
  Zone_:Int
  Part_:Int
  From:Int
  To:Int
  deriving Inhabited
structure WorldBar where
  front:Spot
  rear:Spot
  deriving Inhabited
structure Anon245 where
  m:Map
  eye:Spot
  view:Int
  bodies:(List (List Span))
  bars:(List WorldBar)
  deriving Inhabited
structure WorldLooks where
  m:Map
  eye:Spot
  view:Int
  bodies:(List (List Span))
  bars:(List WorldBar)
  deriving Inhabited
structure Anon247 where
  front:Spot
  rear:Spot
  deriving Inhabited
structure Anon252 where
  x:Int
  y:Int
  deriving Inhabited
structure Anon254 where
  p:Spot
  v:CurveVector
  l:Int
  start:Int
  deriving Inhabited
structure Anon259 where
  Map_:Map
  lanes:(List Int)
  starts:(List Int)
  length:Int
  deriving Inhabited
abbrev Uy:WorldScene→List D:=fun x=> [(i64 x.m.Version),(.list (List.map Jz x.m.Lanes)),(.list (List.map Ka x.m.Zones)),(.list (List.map Sg x.m.Signals)),(.list (List.map BN x.m.Works)),(i64 x.before.Tick),(.list (List.map D2 x.before.Agents)),(.list (List.map I9 x.before.In)),(i64 x.after.Tick),(.list (List.map D2 x.after.Agents)),(.list (List.map I9 x.after.In)),(.list (List.map A4 x.acts)),(.list (List.map X5 x.crashes))]
abbrev Bc:WorldScene→List AV:=fun x=> [(.d (i64 x.m.Version)),(.d (.list (List.map Jz x.m.Lanes))),(.d (.list (List.map Ka x.m.Zones))),(.d (.list (List.map Sg x.m.Signals))),(.d (.list (List.map BN x.m.Works))),(.d (i64 x.before.Tick)),(.d (.list (List.map D2 x.before.Agents))),(.d (.list (List.map I9 x.before.In))),(.d (i64 x.after.Tick)),(.d (.list (List.map D2 x.after.Agents))),(.d (.list (List.map I9 x.after.In))),(.d (.list (List.map A4 x.acts))),(.d (.list (List.map X5 x.crashes)))]
abbrev iN:RoadsWay→List D:=fun x=> [(i64 x.Map_.Version),(.list (List.map Jz x.Map_.Lanes)),(.list (List.map Ka x.Map_.Zones)),(.list (List.map Sg x.Map_.Signals)),(.list (List.map BN x.Map_.Works)),(.list (List.map A4 x.lanes)),(.list (List.map A4 x.starts)),(i64 x.length)]
abbrev Tp:RoadsWay→List AV:=fun x=> [(.d (i64 x.Map_.Version)),(.d (.list (List.map Jz x.Map_.Lanes))),(.d (.list (List.map Ka x.Map_.Zones))),(.d (.list (List.map Sg x.Map_.Signals))),(.d (.list (List.map BN x.Map_.Works))),(.d (.list (List.map A4 x.lanes))),(.d (.list (List.map A4 x.starts))),(.d (i64 x.length))]
abbrev O8:Agent→List AV:=fun x=> [(.d (.list (List.map A4 x.Route))),(.d (i64 x.S)),(.d (i64 x.V)),(.d (i64 x.Len)),(.d (i64 x.Begin)),(.d (bo x.Obey)),(.d (bo x.Gone))]
abbrev wR:Work→List AV:=fun x=> [(.d (i64 x.Lane_)),(.d (i64 x.From)),(.d (i64 x.To)),(.d (i64 x.Begin)),(.d (i64 x.End)),(.d (i64 x.Limit))]
abbrev ZL:CurvePiece→List D:=fun x=> [(i64 x.p.X),(i64 x.p.Y),(i64 x.v.x),(i64 x.v.y),(i64 x.l),(i64 x.start)]
abbrev ZM:CurvePiece→List AV:=fun x=> [(.d (i64 x.p.X)),(.d (i64 x.p.Y)),(.d (i64 x.v.x)),(.d (i64 x.v.y)),(.d (i64 x.l)),(.d (i64 x.start))]
abbrev S3:Map→List D:=fun x=> [(i64 x.Version),(.list (List.map Jz x.Lanes)),(.list (List.map Ka x.Zones)),(.list (List.map Sg x.Signals)),(.list (List.map BN x.Works))]
abbrev M7:Map→List AV:=fun x=> [(.d (i64 x.Version)),(.d (.list (List.map Jz x.Lanes))),(.d (.list (List.map Ka x.Zones))),(.d (.list (List.map Sg x.Signals))),(.d (.list (List.map BN x.Works)))]
abbrev LJ:Lane→List AV:=fun x=> [(.d (i64 x.Kind)),(.d (.list (List.map Fh x.Curve_.Pts))),(.d (i64 x.Half)),(.d (i64 x.Limit)),(.d (.list (List.map A4 x.Next)))]
abbrev Zt:Part→List AV:=fun x=> [(.d (i64 x.Lane_)),(.d (i64 x.From)),(.d (i64 x.To)),(.d (i64 x.Rank))]
abbrev Uz:Stay→List AV:=fun x=> [(.d (i64 x.Agent_)),(.d (i64 x.Zone_)),(.d (i64 x.Since)),(.d (i64 x.Rank))]
abbrev H7:State→List AV:=fun x=> [(.d (i64 x.Tick)),(.d (.list (List.map D2 x.Agents))),(.d (.list (List.map I9 x.In)))]
def Kk (p1:State)(x1:Int):Option (Stp Int (Sum Unit Bool)):=
  cond (decide (x1< (p1.Agents.length:Int))) ((B7 p1.Agents x1).bind fun v1=>cond (decide ((v1.Route.length:Int)>10)) (some (.out (.inr false))) (some (.go (C3 (x1+1))))) (some (.out (.inl ())))
def Va (p1:State):Option Bool:=
  cond ((decide ((p1.Agents.length:Int)>10))||(decide ((p1.In.length:Int)>20))) (some false) (thenS (loop (Kk p1) 0) (fun _=>some true) (fun r=>some r))
theorem RF(p1 r)(h:Va p1=some r):PCall Tryz.prog 20 [(.agg (U4 p1))] (bo r):=by
 refine C4 (fk Tryz.func20 Tryz.ntmps20 m0 (by with_unfolding_all rfl)) (nl W) ?_
 unfold Va at h
 refine B5 (s0:=⟨T [(0,(.d _))],G []⟩) (F0 W W) ?_
 refine lr<|fun u1 _=>sm W<|sv W<|A1<|A5<|A9<|sq W<|sl W G_hit W<|sd W (D5 W)<|sv W<|sv W<|gp W (J9 W) (fun _=>W) (gf W (vl W G_hit W)<|gf W (fun w3=>(D5<|A2 w3))<|gf W (vb W W W)<|sd W (N7 W W<|fun hc=>A2<|I7 hc)<|A1<|cc W h (fun c1 h=> ?_)<|fun c1 h=> ?_)
 refine A9<|sv W<|A1<|B0 ?_
 cases h
 exact A6 (.inr W) (B6 (B2 W) C2) (.refl _)
 refine A8<|A5<|A9<|sv W<|A1<|js h fun z1 hz1 h=>D8 (fun s=> ∃(y1:Unit) (g1:Unit),z1= .inl y1∧Sb ⟨T [],G []⟩ s) ?_ ?_
 refine A7<|E2 (Kk p1) (fun (x1:Int) (g2:Unit)=>⟨T [(1,(.ptr (1,u1) 0)),(3,(di x1))],G [((1,u1),some<|.box 25 (H7 p1))]⟩) 0 () _ hz1 (F0 W W) ?_
 intro x1 g2 z2 hz2 ez2
 unfold Kk at hz2
 refine A5<|A9<|sv W<|sq W<|sl W G_hit W<|sd W (D5 W)<|sv W<|A1<|cc W hz2 (fun c2 hz2=> ?_)<|fun c2 hz2=> ?_
 refine A8<|A5<|A7<|A9<|sq W<|sl W G_hit W<|sv W<|bs hz2 fun _ hv1 hz2=>sd W (C5 W W hv1 W)<|sv W<|sd W (C7 W hv1 W)<|sd W (D5 W)<|sv W<|A1<|cc W hz2 (fun c3 hz2=> ?_)<|fun c3 hz2=> ?_
 refine A9<|sv W<|A1<|B0 ?_
 cases hz2
 obtain rfl:=ez2 _ rfl
 refine ⟨nofun,F2 ?_⟩
 rw [bY]at h
 cases h
 exact A6 (.inr W) (B6 (B2 W) C2) (.refl _)
 refine A8<|E4<|C1<|sv W<|sv W<|sv W<|A1<|E3 ?_
 cases hz2
 exact ⟨W,(),(F0 W W)⟩
 refine C9 W ?_
 cases hz2
 obtain rfl:=ez2 _ rfl
 refine ⟨nofun,C6 W<|Y7 ?_⟩
 exact ⟨_,(),W,(F0 W W)⟩
 rintro _ ⟨y1,g1,rfl,q1⟩
 rw [bX]at h
 refine B5 q1<|A9<|sv W<|A1<|B0 ?_
 cases h
 exact A6 (.inr W) (B6 (B2 W) C2) (.refl _)
def Rh (p4:(List Int))(x1:(Int× (List Spot))):Option (Stp (Int× (List Spot)) (List Spot)):=
  cond (decide ((C3 (x1.1+1))< (p4.length:Int))) ((B7 p4 x1.1).bind fun v1=>(B7 p4 (C3 (x1.1+1))).bind fun v2=>(Z2 x1.2 [(Spot.mk v1 v2)]).bind fun v3=>some (.go ((C3 (x1.1+2)),v3))) (some (.out x1.2))
def Z8 (p1:Int)(p2:Int)(p3:(List Int))(p4:(List Int)):Option Lane:=
  (loop (Rh p4) (0,[])).bind fun y1=>cond (p1==3) (some (Lane.mk p1 (Curve.mk y1) 500 p2 p3)) (some (Lane.mk p1 (Curve.mk y1) 1500 p2 p3))
theorem W7(p1 p2 p3 p4 r)(h:Z8 p1 p2 p3 p4=some r):PCall Tryz.prog 69 [(i64 p1),(i64 p2),(.list (List.map A4 p3)),(.list (List.map A4 p4))] (.agg (Jz r)):=by
 refine C4 (fk Tryz.func69 Tryz.ntmps69 (fun r=>if r==5 then [1013]else []) (by with_unfolding_all rfl)) (nl W) ?_
 unfold Z8 at h
 refine B5 (s0:=⟨T [(0,(.d _)),(1,(.d _)),(2,(.d _)),(3,(.d _))],G []⟩) (F0 W W) ?_
 refine lr<|fun u1 _=>sm W<|A1<|lr<|fun u2 _=>sv W<|sv W<|sv W<|sv W<|sm W<|Z4 W G_hit [(di p1),(.d .nilS),(di 1500),(di p2),(dl A4 p3)] W (A1<|A5<|A9<|sv W<|A1<|bs h fun y1 hy1 h=>D8 (fun s=> ∃g1:Nat,Sb ⟨T [(0,(di p1)),(8,(.ptr (8,u1) 0)),(9,(.ptr (9,u2) 0))],G [((8,u1),some<|.box 63 (((zs 4).set 1 (.d .nilS))++ [(.d .nilS)])),((9,u2),some<|.box 63 [(di p1),(oS y1 (36,g1)),(di 1500),(di p2),(dl A4 p3)]),((36,g1),oB 104 2 Fh y1)]⟩ s) ?_ ?_)
 refine A7<|E2 (Rh p4) (fun (x1:(Int× (List Spot))) (g2:Nat)=>⟨T [(0,(di p1)),(3,(dl A4 p4)),(8,(.ptr (8,u1) 0)),(9,(.ptr (9,u2) 0)),(10,(di x1.1))],G [((8,u1),some<|.box 63 (((zs 4).set 1 (.d .nilS))++ [(.d .nilS)])),((9,u2),some<|.box 63 [(di p1),(oS x1.2 (36,g2)),(di 1500),(di p2),(dl A4 p3)]),((36,g2),oB 104 2 Fh x1.2)]⟩) (0,[]) 0 _ hy1 (E0 (Bv W)<|sg W<|B4 G_hit (.of W)<|W0 trivial) ?_
 intro x1 g2 z1 hz1 ez1
 unfold Rh at hz1
 refine A5<|A9<|sv W<|sv W<|sv W<|sd W (D5 W)<|sv W<|A1<|cc W hz1 (fun c1 hz1=> ?_)<|fun c1 hz1=> ?_
 refine A8<|A5<|A7<|Tn W fun u5 _=>sq W<|sq W<|C0 (oS x1.2 (36,g2)) W (Q6 W (gq W) W) (sv W<|sv W<|bs hz1 fun v1 hv1 hz1=>sd W (C5 W W hv1 W)<|sd W (C7 W hv1 W)<|sv W<|sv W<|sv W<|bs hz1 fun v2 hv2 hz1=>sd W (C5 W W hv2 W)<|sd W (C7 W hv2 W)<|sv W<|C0 (dl Fh [(Spot.mk v1 v2)]) W W (bs hz1 fun _ hv3 hz1=>U1 Fh (36,g2) x1.2 (Spot.mk v1 v2) [] _ (L8<|fun _=>W) W (gq W) hv3 (sq W<|sp W W<|Z4 W (gq W) [(di p1),(.sl (36,u5)),(di 1500),(di p2),(dl A4 p3)] W (A1<|E4<|C1<|sv W<|sv W<|sv W<|A1<|E3 ?_))))
 cases hz1
 exact ⟨W,u5,(E0 (Bv W)<|sg W<|B4 G_hit (.box (cv<|.cons (.of (Am<|Bb hv3).symm) cw))<|O9 (gq W) trivial)⟩
 refine C9 W ?_
 cases hz1
 obtain rfl:=ez1 _ rfl
 refine ⟨nofun,C6 W<|Y7 ?_⟩
 exact ⟨g2,(E0 (Bv W)<|B4 G_hit (.of W)<|sg W<|B9 (gq W) trivial)⟩
 rintro _ ⟨g1,q1⟩
 refine B5 q1<|A5<|A9<|sv W<|sv W<|A1<|cc W h (fun c2 h=> ?_)<|fun c2 h=> ?_
 refine C1<|sq W<|Z4 W (gq W) [(di p1),(oS y1 (36,g1)),(di 500),(di p2),(dl A4 p3)] W (A1<|A9<|C0 (Bo [(di p1),(oS y1 (36,g1)),(di 500),(di p2),(dl A4 p3)]) W (B1 W G_hit W W) (Ig _ _ _ _ _ (W8 _) W W (gq W) (nl W) [(di p1),(oS y1 (36,g1)),(di 500),(di p2),(dl A4 p3)] W (A1<|B0 ?_)))
 cases h
 exact A6 (.inr W) (B6 (K3 W G_hit (nl W) W)<|Sa<|rD<|F5 (Y5<|gq W)<|rD<|rD<|rD G7) (.agg (ca W<|.cons ⟨Y4,W⟩ (cz W)))
 refine A8<|A9<|C0 (Bo [(di p1),(oS y1 (36,g1)),(di 1500),(di p2),(dl A4 p3)]) W (B1 W (gq W) W W) (Ig _ _ _ _ _ (W8 _) W W G_hit (nl W) [(di p1),(oS y1 (36,g1)),(di 1500),(di p2),(dl A4 p3)] W (A1<|B0 ?_))
 cases h
 exact A6 (.inr W) (B6 (K3 W G_hit (nl W) W)<|Sa<|rD<|F5 (Y5<|gq W)<|rD<|rD<|rD G7) (.agg (ca W<|.cons ⟨Y4,W⟩ (cz W)))
def Xk:Option Map:=
  (Z8 1 1500 [] [0,0,100000,0]).bind fun v1=>(Z8 1 1500 [] [50000,(-50000),50000,50000]).bind fun v2=>some (Map.mk 0 [v1,v2] [(Zone.mk [(Part.mk 0 48000 52000 1),(Part.mk 1 48000 52000 0)] 0)] [] [])
theorem XC(r)(h:Xk=some r):PCall Tryz.prog 65 [] (.agg (S3 r)):=by
 refine C4 (fk Tryz.func65 Tryz.ntmps65 (fun r=>if r==1 then [1000,1002,1004,1007,1009]else []) (by with_unfolding_all rfl)) (nl W) ?_
 unfold Xk at h
 refine B5 (s0:=⟨T [],G []⟩) (F0 W W) ?_
 refine A9<|sm W<|A1<|A9<|C0 (dl A4 [0,0,100000,0]) W W (bs h fun v1 hv1 h=>B3 W W (.cons (.refl _) (.cons (.refl _) (.cons DLe.nil A3))) (W7 _ _ _ _ _ hv1) (.inl W) (C0 (dl A4 [50000,(-50000),50000,50000]) W W (bs h fun v2 hv2 h=>B3 W W (.cons (.refl _) (.cons (.refl _) (.cons DLe.nil A3))) (W7 _ _ _ _ _ hv2) (.inl W) (C0 (dl Jz [v1,v2]) W (NC Jz ([v1,v2]:List Lane) (fun _=>W) W W ⟨W,W,W,W,W,W,trivial⟩ (fun _=>W)) (sv W<|sv W<|C0 (dl Dq [(Part.mk 0 48000 52000 1),(Part.mk 1 48000 52000 0)]) W W (sv W<|C0 (dl Ka [(Zone.mk [(Part.mk 0 48000 52000 1),(Part.mk 1 48000 52000 0)] 0)]) W W (sv W<|Z4 W G_hit [(di 0),(dl Jz [v1,v2]),(dl Ka [(Zone.mk [(Part.mk 0 48000 52000 1),(Part.mk 1 48000 52000 0)] 0)]),(.d .nilS),(.d .nilS)] W (A1<|B0 ?_))))))))
 cases h
 exact A6 (.inr W) (B6 (K3 W G_hit (nl W) W) C2) (.agg (ca W<|ca W<|ca W<|.cons ⟨DLe.nil,W⟩ (.cons ⟨DLe.nil,W⟩ .nil)))
def Oc (p1:Int)(p2:Int)(p3:Int):Option Agent:=
  some (Agent.mk [p1] p2 p3 4000 0 false false)
theorem FI(p1 p2 p3 r)(h:Oc p1 p2 p3=some r):PCall Tryz.prog 66 [(i64 p1),(i64 p2),(i64 p3)] (.agg (D2 r)):=by
 refine C4 (fk Tryz.func66 Tryz.ntmps66 (fun r=>if r==1 then [1001]else []) (by with_unfolding_all rfl)) (nl W) ?_
 unfold Oc at h
 refine B5 (s0:=⟨T [(0,(.d _)),(1,(.d _)),(2,(.d _))],G []⟩) (F0 W W) ?_
 refine A9<|sm W<|A1<|A9<|sv W<|C0 (dl A4 [p1]) W W (sv W<|sv W<|sv W<|Z4 W G_hit [(dl A4 [p1]),(di p2),(di p3),(di 4000),(di 0),(.d (bo false)),(.d (bo false))] W (A1<|B0 ?_))
 cases h
 exact A6 (.inr W) (B6 (K3 W G_hit (nl W) W) C2) (.refl _)
def U5 (p1:List Stay):Option (List Stay):=Z2 [] p1
theorem Nu (p1:List Stay)(a0:D)(hl:Z2 ([]:List Stay) p1=some p1)(hn: ∀h,M4 (T [(3, .d a0),(2, .d .nilS),(0, .d a0)]) h (.isnil false (.t 3))=some (.d (bo false)))(he: ∀h,Do h 4 (.d a0)=some (List.map I9 p1)):
    PCall Tryz.prog 121 [a0] (.list (List.map I9 p1)):=by
  refine C4 (fk Tryz.func121 Tryz.ntmps121 m0 (by with_unfolding_all rfl)) (Nat.le_of_ble_eq_true W) ?_
  refine (B5 (s0:=⟨T [(0, .d a0)],G []⟩) (E0 ⟨.of W,trivial⟩ trivial) ?_)
  refine A5 ?_
  refine Ew fun _ _=> ?_
  refine C0 (.d .nilS) W W ?_
  refine A1 ?_
  refine A5 ?_
  refine A5 ?_
  refine Ew fun _ _=> ?_
  refine C0 (.d a0) W W ?_
  refine C0 (.d (bo false)) W (hn _) ?_
  refine A1 ?_
  refine Zr W ?_
  refine A8 ?_
  refine A5 ?_
  refine Ew fun _ _=> ?_
  refine Ux (.sl _) (.arr 127 4 (List.map I9 ([]:List Stay))) W W ?_
  refine C0 (.d a0) W W ?_
  refine FB I9 _ [] p1 _ (he _) W G_hit hl ?_
  refine C0 (.sl _) W W ?_
  refine A1 ?_
  refine B0 ?_
  exact A6 (.inr W) (B6 (B2 W)<|QU G_hit) (.refl _)
theorem Ps(p1 r)(h:U5 p1=some r):PCall Tryz.prog 121 [.list (List.map I9 p1)] (.list (List.map I9 r)):=by
  have hr:r=p1:=by obtain ⟨_,rfl⟩:=Na h;rfl
  subst hr
  cases r with
  |cons x xs=>exact Nu (x::xs) _ h (fun _=>rfl) fun _=>L8 (fun _=>rfl)
  |nil=>
   refine PCall.nil fun A cap=> ?_
   cases A with
   |some A=>exact Nu [] (.v (.slice (some A) 0 cap)) h (fun _=>rfl) fun _=>rfl
   |none=>
    refine C4 (fk Tryz.func121 Tryz.ntmps121 m0 (by with_unfolding_all rfl)) (Nat.le_of_ble_eq_true W) ?_
    refine (B5 (s0:=⟨T [(0, .d (.v (.slice none 0 cap)))],G []⟩) (E0 ⟨.of W,trivial⟩ trivial) ?_)
    refine A5 ?_
    refine Ew fun _ _=> ?_
    refine C0 (.d .nilS) W W ?_
    refine A1 ?_
    refine A5 ?_
    refine A5 ?_
    refine Ew fun _ _=> ?_
    refine C0 (.d _) W W ?_
    refine C0 (.d (bo true)) W W ?_
    refine A1 ?_
    refine GU W ?_
    refine A5 ?_
    refine Ew fun _ _=> ?_
    refine C0 (.d .nilS) W W ?_
    refine A1 ?_
    refine B0 ?_
    exact A6 (.inr W) (B6 (B2 W) C2) .nil
def Cj (p1:List Int):Option (List Int):=Z2 [] p1
theorem Pt (p1:List Int)(a0:D)(hl:Z2 ([]:List Int) p1=some p1)(hn: ∀h,M4 (T [(3, .d a0),(2, .d .nilS),(0, .d a0)]) h (.isnil false (.t 3))=some (.d (bo false)))(he: ∀h,Do h 1 (.d a0)=some (List.map A4 p1)):
    PCall Tryz.prog 178 [a0] (.list (List.map A4 p1)):=by
  refine C4 (fk Tryz.func178 Tryz.ntmps178 m0 (by with_unfolding_all rfl)) (Nat.le_of_ble_eq_true W) ?_
  refine (B5 (s0:=⟨T [(0, .d a0)],G []⟩) (E0 ⟨.of W,trivial⟩ trivial) ?_)
  refine A5 ?_
  refine Ew fun _ _=> ?_
  refine C0 (.d .nilS) W W ?_
  refine A1 ?_
  refine A5 ?_
  refine A5 ?_
  refine Ew fun _ _=> ?_
  refine C0 (.d a0) W W ?_
  refine C0 (.d (bo false)) W (hn _) ?_
  refine A1 ?_
  refine Zr W ?_
  refine A8 ?_
  refine A5 ?_
  refine Ew fun _ _=> ?_
  refine Ux (.sl _) (.arr 3 1 (List.map A4 ([]:List Int))) W W ?_
  refine C0 (.d a0) W W ?_
  refine FB A4 _ [] p1 _ (he _) W G_hit hl ?_
  refine C0 (.sl _) W W ?_
  refine A1 ?_
  refine B0 ?_
  exact A6 (.inr W) (B6 (B2 W)<|QU G_hit) (.refl _)
theorem BO(p1 r)(h:Cj p1=some r):PCall Tryz.prog 178 [.list (List.map A4 p1)] (.list (List.map A4 r)):=by
  have hr:r=p1:=by obtain ⟨_,rfl⟩:=Na h;rfl
  subst hr
  cases r with
  |cons x xs=>exact Pt (x::xs) _ h (fun _=>rfl) fun _=>L8 (fun _=>rfl)
  |nil=>
   refine PCall.nil fun A cap=> ?_
   cases A with
   |some A=>exact Pt [] (.v (.slice (some A) 0 cap)) h (fun _=>rfl) fun _=>rfl
   |none=>
    refine C4 (fk Tryz.func178 Tryz.ntmps178 m0 (by with_unfolding_all rfl)) (Nat.le_of_ble_eq_true W) ?_
    refine (B5 (s0:=⟨T [(0, .d (.v (.slice none 0 cap)))],G []⟩) (E0 ⟨.of W,trivial⟩ trivial) ?_)
    refine A5 ?_
    refine Ew fun _ _=> ?_
    refine C0 (.d .nilS) W W ?_
    refine A1 ?_
    refine A5 ?_
    refine A5 ?_
    refine Ew fun _ _=> ?_
    refine C0 (.d _) W W ?_
    refine C0 (.d (bo true)) W W ?_
    refine A1 ?_
    refine GU W ?_
    refine A5 ?_
    refine Ew fun _ _=> ?_
    refine C0 (.d .nilS) W W ?_
    refine A1 ?_
    refine B0 ?_
    exact A6 (.inr W) (B6 (B2 W) C2) .nil
def Bx (p1:Agent):Option Agent:=
  (Cj p1.Route).bind fun v1=>some (Agent.mk v1 p1.S p1.V p1.Len p1.Begin p1.Obey p1.Gone)
theorem Sh(p1 r)(h:Bx p1=some r):PCall Tryz.prog 87 [(.agg (D2 p1))] (.agg (D2 r)):=by
 refine C4 (fk Tryz.func87 Tryz.ntmps87 m0 (by with_unfolding_all rfl)) (nl W) ?_
 unfold Bx at h
 refine B5 (s0:=⟨T [(0,(.d _))],G []⟩) (F0 W W) ?_
 refine A9<|sm W<|sn W W<|A1<|A9<|sq W<|sl W (gq W) W (bs h fun v1 hv1 h=>B3 W W A3 (BO _ _ hv1) (.inl W) (sq W<|Z4 W (gq W) ((O8 p1).set 0 (dl A4 v1)) W (A1<|A9<|sd W (B1 W G_hit W W)<|Z4 W (gq W) ((O8 p1).set 0 (dl A4 v1)) W (A1<|B0 ?_))))
 cases h
 exact A6 (.inr W) (B6 (K3 W G_hit (nl W) W) C2) (.refl _)
def Ef (p1:State)(x1:(Int×State)):Option (Stp (Int×State) State):=
  cond (decide (x1.1< (p1.Agents.length:Int))) ((B7 p1.Agents x1.1).bind fun v2=>(Bx v2).bind fun v3=>(Z2 x1.2.Agents [v3]).bind fun v4=>some (.go ((C3 (x1.1+1)),(State.mk x1.2.Tick v4 x1.2.In)))) (some (.out x1.2))
def Lv (p1:State):Option State:=
  (U5 p1.In).bind fun v1=>(loop (Ef p1) (0,(State.mk p1.Tick [] v1))).bind fun y1=>some y1
theorem HV(p1 r)(h:Lv p1=some r):PCall Tryz.prog 56 [(.agg (U4 p1))] (.agg (U4 r)):=by
 refine C4 (fk Tryz.func56 Tryz.ntmps56 (fun r=>if r==5 then [1004]else []) (by with_unfolding_all rfl)) (nl W) ?_
 unfold Lv at h
 refine B5 (s0:=⟨T [(0,(.d _))],G []⟩) (F0 W W) ?_
 refine lr<|fun u1 _=>sm W<|sm W<|A1<|A5<|Tn W fun u2 _=>sq W<|sl W (gq W) W (sq W<|sl W (gq W) W (bs h fun v1 hv1 h=>B3 W W A3 (Ps _ _ hv1) (.inl W) (sv W<|sm W<|Z4 W G_hit [(di p1.Tick),(.d .nilS),(dl I9 v1)] W (A1<|A5<|A9<|sq W<|sl W (gq W) W (sd W (D5 W)<|sv W<|A1<|bs h fun y1 hy1 h=>D8 (fun s=> ∃g1:Nat,Sb ⟨T [(2,(.ptr (2,u1) 0)),(3,(.ptr (3,u2) 0))],G [((2,u1),some<|.box 25 [(di 0),(.d .nilS),(.d .nilS)]),((3,u2),some<|.box 25 [(di y1.Tick),(oS y1.Agents (24,g1)),(dl I9 y1.In)]),((24,g1),oB 45 7 D2 y1.Agents)]⟩ s) ?_ ?_)))))
 refine A7<|E2 (Ef p1) (fun (x1:(Int×State)) (g2:Nat)=>⟨T [(2,(.ptr (2,u1) 0)),(3,(.ptr (3,u2) 0)),(13,(dl D2 p1.Agents)),(14,(di (p1.Agents.length:Int))),(15,(di x1.1))],G [((2,u1),some<|.box 25 [(di 0),(.d .nilS),(.d .nilS)]),((3,u2),some<|.box 25 [(di x1.2.Tick),(oS x1.2.Agents (24,g2)),(dl I9 x1.2.In)]),((24,g2),oB 45 7 D2 x1.2.Agents)]⟩) (0,(State.mk p1.Tick [] v1)) 0 _ hy1 (E0 (Bv W)<|sg W<|B4 G_hit (.of W)<|W0 trivial) ?_
 intro x1 g2 z1 hz1 ez1
 unfold Ef at hz1
 refine A9<|sv W<|A1<|A5<|cc W hz1 (fun c1 hz1=> ?_)<|fun c1 hz1=> ?_
 refine A8<|A5<|A7<|A9<|bs hz1 fun v2 hv2 hz1=>sd W (C5 W W hv2 W)<|sd W (D3 W hv2 W W)<|sm W<|Z4 W G_hit (O8 v2) W (A1<|Tn W fun u6 _=>sq W<|C0 (oS x1.2.Agents (24,g2)) W (Q6 W (gq W) W) (sd W (B1 W G_hit W W)<|bs hz1 fun v3 hv3 hz1=>B3 W W A3 (Sh _ _ hv3) (.inl W) (C0 (dl D2 [v3]) W W (bs hz1 fun _ hv4 hz1=>U1 D2 (24,g2) x1.2.Agents v3 [] _ (L8<|fun _=>W) W (gq W) hv4 (sq W<|Z4 W (gq W) [(di x1.2.Tick),(.sl (24,u6)),(dl I9 x1.2.In)] W (A1<|E4<|C1<|sv W<|sv W<|A1<|E3 ?_))))))
 cases hz1
 exact ⟨W,u6,(E0 (Bv W)<|sg W<|B4 G_hit (.box (cv<|.cons (.of (Am<|Bb hv4).symm) cw))<|O9 (gq W) trivial)⟩
 refine C9 W ?_
 cases hz1
 obtain rfl:=ez1 _ rfl
 refine ⟨nofun,C6 W<|Y7 ?_⟩
 exact ⟨g2,(E0 (Bv W)<|B4 G_hit (.of W)<|sg W<|B9 (gq W) trivial)⟩
 rintro _ ⟨g1,q1⟩
 refine B5 q1<|A9<|C0 (Bo [(di y1.Tick),(oS y1.Agents (24,g1)),(dl I9 y1.In)]) W (B1 W (gq W) W W) (Ig _ _ _ _ _ (W8 _) W W G_hit (nl W) [(di y1.Tick),(oS y1.Agents (24,g1)),(dl I9 y1.In)] W (A1<|B0 ?_))
 cases h
 exact A6 (.inr W) (B6 (K3 W G_hit (nl W) W)<|Sa<|rD<|F5 (Y5<|gq W)<|rD G7) (.agg (ca W<|.cons ⟨Y4,W⟩ (cz W)))
def Cd (p1:Int)(p2:Int)(p3:Int):Option Bool:=
  some ((decide (p2≤p1))&& (decide (p1≤p3)))
theorem Hz(p1 p2 p3 r)(h:Cd p1 p2 p3=some r):PCall Tryz.prog 209 [(i64 p1),(i64 p2),(i64 p3)] (bo r):=by
 refine C4 (fk Tryz.func209 Tryz.ntmps209 m0 (by with_unfolding_all rfl)) (nl W) ?_
 unfold Cd at h
 refine B5 (s0:=⟨T [(0,(.d _)),(1,(.d _)),(2,(.d _))],G []⟩) (F0 W W) ?_
 refine A9<|sv W<|A1<|A9<|sv W<|sv W<|sv W<|sv W<|gt W (fun _=>W)<|gt W (fun _=>W)<|gt W (fun w3=>(L9 (A2 w3) (A2 w3) W))<|sa W W W<|sv W<|A1<|B0 ?_
 cases h
 exact A6 (.inr W) (B6 (B2 W) C2) (.refl _)
def W9 (p1:RoadsCheck):Option Int:=
  (Cd p1.Map_.Version 0 1099511627776).bind fun v1=>cond (!v1) (some 2) (cond ((p1.Map_.Lanes.length:Int)==0) (some 6) (cond ((((decide ((p1.Map_.Lanes.length:Int)>12))||(decide ((p1.Map_.Zones.length:Int)>12)))||(decide ((p1.Map_.Signals.length:Int)>4)))||(decide ((p1.Map_.Works.length:Int)>8))) (some 8) (some 0)))
theorem CK(p1 r)(h:W9 p1=some r):PCall Tryz.prog 148 [(.agg (S3 p1.Map_))] (i64 r):=by
 refine C4 (fk Tryz.func148 Tryz.ntmps148 m0 (by with_unfolding_all rfl)) (nl W) ?_
 unfold W9 at h
 refine B5 (s0:=⟨T [(0,(.d _))],G []⟩) (F0 W W) ?_
 refine A9<|sm W<|sv W<|A1<|A5<|A7<|A9<|sq W<|sp W W<|sl W G_hit W<|bs h fun v1 hv1 h=>B3 W W A3 (Hz _ _ _ _ hv1) (.inl W) (C0 (.d (bo (!v1))) W W (sv W<|A1<|cc W h (fun c1 h=> ?_)<|fun c1 h=> ?_))
 refine A9<|sv W<|A1<|B0 ?_
 cases h
 exact A6 (.inr W) (B6 (B2 W) C2) (.refl _)
 refine A9<|sq W<|sp W W<|sl W G_hit W<|sd W (D5 W)<|sv W<|sv W<|A1<|cc W h (fun c2 h=> ?_)<|fun c2 h=> ?_
 refine A9<|sv W<|A1<|B0 ?_
 cases h
 exact A6 (.inr W) (B6 (B2 W) C2) (.refl _)
 refine A9<|sq W<|sp W W<|sl W G_hit W<|sd W (D5 W)<|sv W<|sv W<|gp W (J9 W) (fun _=>W) ?_
 refine N1 _ (.ptr _ _) W (J9 W) (fun w2=>(by simp only [A2 w2];rfl)) ?_
 refine gf W (vl W G_hit W)<|gf W (fun w4=>(D5<|A2 w4))<|gf W (vb W W W)<|sd W (N7 W W<|fun hc=>A2<|I7 hc)<|sv W<|gp W (J9 W) (fun _=>W) ?_
 refine N1 _ (.ptr _ _) W (J9 W) (fun w7=>(by simp only [A2 w7];rfl)) ?_
 refine gf W (vl W G_hit W)<|gf W (fun w9=>(D5<|A2 w9))<|gf W (vb W W W)<|sd W (N7 W W<|fun hc=>A2<|I7 hc)<|sv W<|gp W (J9 W) (fun _=>W) ?_
 refine N1 _ (.ptr _ _) W (J9 W) (fun w12=>(by simp only [A2 w12];rfl)) ?_
 refine gf W (vl W G_hit W)<|gf W (fun w14=>(D5<|A2 w14))<|gf W (vb W W W)<|sd W (N7 W W<|fun hc=>A2<|I7 hc)<|sv W<|A1<|cc W h (fun c3 h=> ?_)<|fun c3 h=> ?_
 refine A9<|sv W<|A1<|B0 ?_
 cases h
 exact A6 (.inr W) (B6 (B2 W) C2) (.refl _)
 refine A8<|E4<|A9<|sv W<|A1<|B0 ?_
 cases h
 exact A6 (.inr W) (B6 (B2 W) C2) (.refl _)
def Cw (p1:Int):Option (Int×Int×Int):=
  cond ((decide (p1<0))||(decide (p1≥4))) (some (0,0,0)) ((B7 ([(0,0,0),(2000,30,90),(1000,20,60),(300,100,300)]:List (Int×Int×Int)) p1).bind fun v1=>some (v1.1,v1.2.1,v1.2.2))
theorem Qj(p1 r)(h:Cw p1=some r):PCall Tryz.prog 157 [(i64 p1)] (.tup [(i64 r.1),(i64 r.2.1),(i64 r.2.2)]):=by
 refine C4 (fk Tryz.func157 Tryz.ntmps157 m0 (by with_unfolding_all rfl)) (nl W) ?_
 unfold Cw at h
 refine B5 (s0:=⟨T [(0,(.d _))],G []⟩) (F0 W W) ?_
 refine A9<|sv W<|sv W<|sv W<|A1<|A9<|sv W<|sv W<|sv W<|sv W<|sm W<|Z4 W G_hit [(di 0),(di 0),(di 0),(di 2000),(di 30),(di 90),(di 1000),(di 20),(di 60),(di 300),(di 100),(di 300)] W (A1<|A5<|A9<|sv W<|sv W<|sv W<|gf W (fun _=>W)<|gf W (vb W W W)<|sd W (N7 W W<|fun hc=>A2<|I7 hc)<|A1<|cc W h (fun c1 h=> ?_)<|fun c1 h=> ?_)
 refine A9<|sv W<|sv W<|sv W<|A1<|B0 ?_
 cases h
 exact A6 (.inr W) (DO (B2 W) (B2 W) (B2 W) C2 C2 C2) (.refl _)
 refine A8<|A9<|sv W<|bs h fun v1 hv1 h=>sp W (rN W W hv1 W)<|sd W (nW (f:=wQ) W G_hit hv1 (fun _=>W) W W)<|sm W<|Z4 W G_hit [(di v1.1),(di v1.2.1),(di v1.2.2)] W (A1<|A5<|F1 W<|sq W<|sl W G_hit W<|sq W<|sl W G_hit W<|sq W<|sl W G_hit W<|sv W<|sv W<|sv W<|A1<|B0 ?_)
 cases h
 exact A6 (.inr W) (DO (B2 W) (B2 W) (B2 W) C2 C2 C2) (.refl _)
def Cq (p1:(List Spot))(x1:Int):Option (Stp Int (Sum Unit Bool)):=
  cond (decide (x1< (p1.length:Int))) ((B7 p1 x1).bind fun v1=>cond ((decide ((Mn false v1.X v1.Y)< (-16777216)))||(decide ((Mn true v1.X v1.Y)>16777216))) (some (.out (.inr false))) (some (.go (C3 (x1+1))))) (some (.out (.inl ())))
def Od (p1:(List Spot)):Option Bool:=
  thenS (loop (Cq p1) 0) (fun _=>some true) (fun r=>some r)
theorem TJ(p1 r)(h:Od p1=some r):PCall Tryz.prog 237 [(.list (List.map Fh p1))] (bo r):=by
 refine C4 (fk Tryz.func237 Tryz.ntmps237 m0 (by with_unfolding_all rfl)) (nl W) ?_
 unfold Od at h
 refine B5 (s0:=⟨T [(0,(.d _))],G []⟩) (F0 W W) ?_
 refine A9<|sv W<|A1<|A5<|A9<|sv W<|sd W (D5 W)<|sv W<|A1<|js h fun z1 hz1 h=>D8 (fun s=> ∃(y1:Unit) (g1:Unit),z1= .inl y1∧Sb ⟨T [],G []⟩ s) ?_ ?_
 refine A7<|E2 (Cq p1) (fun (x1:Int) (g2:Unit)=>⟨T [(5,(dl Fh p1)),(6,(di (p1.length:Int))),(7,(di x1))],G []⟩) 0 () _ hz1 (F0 W W) ?_
 intro x1 g2 z2 hz2 ez2
 unfold Cq at hz2
 refine A9<|sv W<|A1<|A5<|cc W hz2 (fun c1 hz2=> ?_)<|fun c1 hz2=> ?_
 refine A8<|A5<|A7<|A9<|bs hz2 fun v1 hv1 hz2=>sd W (C5 W W hv1 W)<|sd W (D3 W hv1 W W)<|sm W<|Z4 W G_hit [(di v1.X),(di v1.Y)] W (A1<|A9<|sq W<|sl W G_hit W<|sq W<|sl W G_hit W<|sv W<|sv W<|sv W<|gp W (J9 W) (fun _=>W) (gf W (vl W G_hit W)<|gp W (J9 W) (fun _=>W) (gf W (vl W G_hit W) ?_)))
 refine gf W (fun w5=>(by simp only [A2 w5];rfl)) ?_
 refine gf W (vb W W W)<|sd W (N7 W W<|fun hc=>A2<|I7 hc)<|A1<|cc W hz2 (fun c2 hz2=> ?_)<|fun c2 hz2=> ?_
 refine A9<|sv W<|A1<|B0 ?_
 cases hz2
 obtain rfl:=ez2 _ rfl
 refine ⟨nofun,F2 ?_⟩
 rw [bY]at h
 cases h
 exact A6 (.inr W) (B6 (B2 W) C2) (.refl _)
 refine A8<|E4<|C1<|sv W<|sv W<|A1<|E3 ?_
 cases hz2
 exact ⟨W,(),(F0 W W)⟩
 refine C9 W ?_
 cases hz2
 obtain rfl:=ez2 _ rfl
 refine ⟨nofun,C6 W<|Y7 ?_⟩
 exact ⟨_,(),W,(F0 W W)⟩
 rintro _ ⟨y1,g1,rfl,q1⟩
 rw [bX]at h
 refine B5 q1<|A9<|sv W<|A1<|B0 ?_
 cases h
 exact A6 (.inr W) (B6 (B2 W) C2) (.refl _)
def Lw (p1:Spot)(p2:Spot):Option CurveVector:=
  some (CurveVector.mk (C3 (p2.X - p1.X)) (C3 (p2.Y - p1.Y)))
theorem HW(p1 p2 r)(h:Lw p1 p2=some r):PCall Tryz.prog 238 [(.agg [(i64 p1.X),(i64 p1.Y)]),(.agg [(i64 p2.X),(i64 p2.Y)])] (.agg [(i64 r.x),(i64 r.y)]):=by
 refine C4 (fk Tryz.func238 Tryz.ntmps238 m0 (by with_unfolding_all rfl)) (nl W) ?_
 unfold Lw at h
 refine B5 (s0:=⟨T [(0,(.d _)),(1,(.d _))],G []⟩) (F0 W W) ?_
 refine A9<|sm W<|sn W W<|sm W<|A1<|A9<|sq W<|sl W (gq W) W (sq W<|sl W (gq W) W (sv W<|sq W<|sl W (gq W) W (sq W<|sl W (gq W) W (sv W<|sv W<|Z4 W G_hit [(di<|C3 (p2.X - p1.X)),(di<|C3 (p2.Y - p1.Y))] W (A1<|B0 ?_)))))
 cases h
 exact A6 (.inr W) (B6 (K3 W G_hit (nl W) W) C2) (.refl _)
def Ak (p1:CurveVector)(p2:CurveVector):Option Int:=
  some (C3 ((C3 (p1.x*p2.x))+ (C3 (p1.y*p2.y))))
theorem Pv(p1 p2 r)(h:Ak p1 p2=some r):PCall Tryz.prog 240 [(.agg [(i64 p1.x),(i64 p1.y)]),(.agg [(i64 p2.x),(i64 p2.y)])] (i64 r):=by
 refine C4 (fk Tryz.func240 Tryz.ntmps240 m0 (by with_unfolding_all rfl)) (nl W) ?_
 unfold Ak at h
 refine B5 (s0:=⟨T [(0,(.d _)),(1,(.d _))],G []⟩) (F0 W W) ?_
 refine A9<|sm W<|sn W W<|sv W<|A1<|A9<|sq W<|sl W (gq W) W (sq W<|sl W G_hit W<|sv W<|sq W<|sl W (gq W) W (sq W<|sl W G_hit W<|sv W<|sv W<|sv W<|A1<|B0 ?_))
 cases h
 exact A6 (.inr W) (B6 (B2 W) C2) (.refl _)
def Gb (p1:Int)(x1:(Int×Int)):Option (Stp (Int×Int) Int):=
  cond (decide (x1.1<x1.2)) (cond (decide ((C3 ((C3 ((C3 (x1.1+x1.2)).tdiv 2))* (C3 ((C3 (x1.1+x1.2)).tdiv 2))))<p1)) (some (.go ((C3 ((C3 ((C3 (x1.1+x1.2)).tdiv 2))+1)),x1.2))) (some (.go (x1.1,(C3 ((C3 (x1.1+x1.2)).tdiv 2)))))) (some (.out x1.1))
def Jc (p1:Int):Option (Int×Bool):=
  (loop (Gb p1) (0,67108864)).bind fun y1=>some (y1,((C3 (y1*y1))==p1))
theorem HX(p1 r)(h:Jc p1=some r):PCall Tryz.prog 239 [(i64 p1)] (.tup [(i64 r.1),(bo r.2)]):=by
 refine C4 (fk Tryz.func239 Tryz.ntmps239 m0 (by with_unfolding_all rfl)) (nl W) ?_
 unfold Jc at h
 refine B5 (s0:=⟨T [(0,(.d _))],G []⟩) (F0 W W) ?_
 refine A9<|sv W<|sv W<|A1<|A9<|sv W<|sv W<|A1<|A5<|bs h fun y1 hy1 h=>D8 (fun s=> ∃g1:Unit,Sb ⟨T [(0,(di p1)),(4,(di y1))],G []⟩ s) ?_ ?_
 refine A7<|E2 (Gb p1) (fun (x1:(Int×Int)) (g2:Unit)=>⟨T [(0,(di p1)),(4,(di x1.1)),(5,(di x1.2))],G []⟩) (0,67108864) () _ hy1 (F0 W W) ?_
 intro x1 g2 z1 hz1 ez1
 unfold Gb at hz1
 refine A5<|A9<|sv W<|sv W<|sv W<|A1<|cc W hz1 (fun c1 hz1=> ?_)<|fun c1 hz1=> ?_
 refine A8<|A7<|A9<|sv W<|sv W<|sv W<|sv W<|sv W<|A1<|A9<|sv W<|sv W<|sv W<|sv W<|sv W<|A1<|cc W hz1 (fun c2 hz1=> ?_)<|fun c2 hz1=> ?_
 refine C1<|sv W<|sv W<|sv W<|A1<|E4<|E3 ?_
 cases hz1
 exact ⟨W,(),(F0 W W)⟩
 refine C1<|sv W<|sv W<|A1<|E4<|E3 ?_
 cases hz1
 exact ⟨W,(),(F0 W W)⟩
 refine C9 W ?_
 cases hz1
 obtain rfl:=ez1 _ rfl
 refine ⟨nofun,C6 W<|Y7 ?_⟩
 exact ⟨(),(F0 W W)⟩
 rintro _ ⟨g1,q1⟩
 refine B5 q1<|A9<|sv W<|sv W<|sv W<|sv W<|sv W<|sv W<|sv W<|sv W<|A1<|B0 ?_
 cases h
 exact A6 (.inr W) (Rf (B2 W) (B2 W) C2 C2) (.refl _)
def By (p1:Curve)(x1:(Int×CurveVector)):Option (Stp (Int×CurveVector) (Sum Unit Int)):=
  cond (decide (x1.1< (C3 ((p1.Pts.length:Int) - 1)))) ((B7 p1.Pts x1.1).bind fun v2=>(B7 p1.Pts (C3 (x1.1+1))).bind fun v3=>(Lw v2 v3).bind fun v4=>(Ak v4 v4).bind fun v5=>(Jc v5).bind fun v6=>cond (!v6.2) (some (.out (.inr 3))) (cond ((decide (v6.1<1000))||(decide (v6.1>1048576))) (some (.out (.inr 2))) (((cond (decide (x1.1>0)) (Ak x1.2 v4) (some default))).bind fun v7=>cond ((decide (x1.1>0))&& (decide (v7≤0))) (some (.out (.inr 12))) (some (.go ((C3 (x1.1+1)),v4)))))) (some (.out (.inl ())))
def Ij (p1:Curve):Option Int:=
  cond (decide ((p1.Pts.length:Int)<2)) (some 6) (cond (decide ((p1.Pts.length:Int)>16)) (some 5) ((Od p1.Pts).bind fun v1=>cond (!v1) (some 2) (thenS (loop (By p1) (0,(CurveVector.mk 0 0))) (fun _=>some 0) (fun r=>some r))))
theorem FJ(p1 r)(h:Ij p1=some r):PCall Tryz.prog 198 [(.agg [(.list (List.map Fh p1.Pts))])] (i64 r):=by
 refine C4 (fk Tryz.func198 Tryz.ntmps198 m0 (by with_unfolding_all rfl)) (nl W) ?_
 unfold Ij at h
 refine B5 (s0:=⟨T [(0,(.d _))],G []⟩) (F0 W W) ?_
 refine lr<|fun u1 _=>sm W<|sv W<|A1<|A5<|A7<|A9<|sq W<|sl W G_hit W<|sd W (D5 W)<|sv W<|sv W<|A1<|cc W h (fun c1 h=> ?_)<|fun c1 h=> ?_
 refine A9<|sv W<|A1<|B0 ?_
 cases h
 exact A6 (.inr W) (B6 (B2 W) C2) (.refl _)
 refine A9<|sq W<|sl W G_hit W<|sd W (D5 W)<|sv W<|sv W<|A1<|cc W h (fun c2 h=> ?_)<|fun c2 h=> ?_
 refine A9<|sv W<|A1<|B0 ?_
 cases h
 exact A6 (.inr W) (B6 (B2 W) C2) (.refl _)
 refine A9<|sq W<|sl W G_hit W<|bs h fun v1 hv1 h=>B3 W W A3 (TJ _ _ hv1) (.inl W) (C0 (.d (bo (!v1))) W W (sv W<|A1<|cc W h (fun c3 h=> ?_)<|fun c3 h=> ?_))
 refine A9<|sv W<|A1<|B0 ?_
 cases h
 exact A6 (.inr W) (B6 (B2 W) C2) (.refl _)
 refine A8<|E4<|lr<|fun u8 _=>sm W<|A1<|A5<|A9<|sq W<|sl W (gq W) W (sd W (D5 W)<|sv W<|sv W<|A1<|js h fun z1 hz1 h=>D8 (fun s=> ∃(y1:Unit) (g1:Unit),z1= .inl y1∧Sb ⟨T [],G []⟩ s) ?_ ?_)
 refine A7<|E2 (By p1) (fun (x1:(Int×CurveVector)) (g2:Unit)=>⟨T [(1,(.ptr (1,u1) 0)),(3,(.ptr (3,u8) 0)),(26,(di<|C3 ((p1.Pts.length:Int) - 1))),(27,(di x1.1))],G [((1,u1),some<|.box 61 [(dl Fh p1.Pts)]),((3,u8),some<|.box 253 [(di x1.2.x),(di x1.2.y)])]⟩) (0,(CurveVector.mk 0 0)) () _ hz1 (F0 W W) ?_
 intro x1 g2 z2 hz2 ez2
 unfold By at hz2
 refine A9<|sv W<|A1<|A5<|cc W hz2 (fun c4 hz2=> ?_)<|fun c4 hz2=> ?_
 refine A8<|A5<|A7<|A9<|sv W<|sv W<|A1<|A5<|F1 W<|sq W<|sl W G_hit W<|sv W<|bs hz2 fun _ hv2 hz2=>sd W (C5 W W hv2 W)<|sd W (D3 W hv2 W W)<|sq W<|sl W G_hit W<|sv W<|sv W<|bs hz2 fun _ hv3 hz2=>sd W (C5 W W hv3 W)<|sd W (D3 W hv3 W W)<|bs hz2 fun v4 hv4 hz2=>B3 W W A3 (HW _ _ _ hv4) (.inl W) (sm W<|Z4 W G_hit [(di v4.x),(di v4.y)] W (A1<|A9<|sd W (B1 W G_hit W W)<|sd W (B1 W G_hit W W)<|bs hz2 fun _ hv5 hz2=>B3 W W A3 (Pv _ _ _ hv5) (.inl W) (bs hz2 fun v6 hv6 hz2=>B3 W W A3 (HX _ _ hv6) (.inl W) (sv W<|sv W<|sv W<|sv W<|sv W<|A1<|A5<|A7<|A9<|sv W<|C0 (.d (bo (!v6.2))) W W (sv W<|A1<|cc W hz2 (fun c5 hz2=> ?_)<|fun c5 hz2=> ?_)))))
 refine A9<|sv W<|A1<|B0 ?_
 cases hz2
 obtain rfl:=ez2 _ rfl
 refine ⟨nofun,F2 ?_⟩
 rw [bY]at h
 cases h
 exact A6 (.inr W) (B6 (B2 W) C2) (.refl _)
 refine A9<|sv W<|sv W<|sv W<|gf W (fun _=>W)<|gf W (vb W W W)<|sd W (N7 W W<|fun hc=>A2<|I7 hc)<|sv W<|A1<|cc W hz2 (fun c6 hz2=> ?_)<|fun c6 hz2=> ?_
 refine A9<|sv W<|A1<|B0 ?_
 cases hz2
 obtain rfl:=ez2 _ rfl
 refine ⟨nofun,F2 ?_⟩
 rw [bY]at h
 cases h
 exact A6 (.inr W) (B6 (B2 W) C2) (.refl _)
 refine A9<|sv W<|sv W<|sv W<|gt W (fun _=>(B1 W (gq W) W W))<|gt W (fun _=>(B1 W G_hit W W))<|bs hz2 fun v7 hv7 hz2=> ?_
 refine N2 _ (i64 v7) (M9 W) (fun w5=>⟨_,[(.d (.agg [(i64 x1.2.x),(i64 x1.2.y)])),(.d (.agg [(i64 v4.x),(i64 v4.y)]))],_,_,(by simp only [A2 w5];rfl),W,A3,Pv _ _ _<|B8 w5 hv7,(.inl W)⟩) ?_
 refine gt W (vb W W W)<|sa W W W<|sv W<|A1<|cc W hz2 (fun c7 hz2=> ?_)<|fun c7 hz2=> ?_
 refine A9<|sv W<|A1<|B0 ?_
 cases hz2
 obtain rfl:=ez2 _ rfl
 refine ⟨nofun,F2 ?_⟩
 rw [bY]at h
 cases h
 exact A6 (.inr W) (B6 (B2 W) C2) (.refl _)
 refine A8<|E4<|C1<|sd W (B1 W G_hit W W)<|Z4 W (gq W) [(di v4.x),(di v4.y)] W (A1<|E4<|C1<|sv W<|sv W<|A1<|E3 ?_)
 cases hz2
 exact ⟨W,(),(F0 W W)⟩
 refine C9 W ?_
 cases hz2
 obtain rfl:=ez2 _ rfl
 refine ⟨nofun,C6 W<|Y7 ?_⟩
 exact ⟨_,(),W,(F0 W W)⟩
 rintro _ ⟨y1,g1,rfl,q1⟩
 rw [bX]at h
 refine B5 q1<|A9<|sv W<|A1<|B0 ?_
 cases h
 exact A6 (.inr W) (B6 (B2 W) C2) (.refl _)
def Bh (p1:(List Int))(p3:Int)(x1:(Int×Int)):Option (Stp (Int×Int) (Sum Unit Bool)):=
  cond (decide (x1.2< (p1.length:Int))) ((B7 p1 x1.2).bind fun v1=>cond ((decide (v1<x1.1))||(decide (v1≥p3))) (some (.out (.inr false))) (some (.go ((C3 (v1+1)),(C3 (x1.2+1)))))) (some (.out (.inl ())))
def Eg (p1:(List Int))(p2:Int)(p3:Int):Option Bool:=
  thenS (loop (Bh p1 p3) (p2,0)) (fun _=>some true) (fun r=>some r)
theorem Vs(p1 p2 p3 r)(h:Eg p1 p2 p3=some r):PCall Tryz.prog 210 [(.list (List.map A4 p1)),(i64 p2),(i64 p3)] (bo r):=by
 refine C4 (fk Tryz.func210 Tryz.ntmps210 m0 (by with_unfolding_all rfl)) (nl W) ?_
 unfold Eg at h
 refine B5 (s0:=⟨T [(0,(.d _)),(1,(.d _)),(2,(.d _))],G []⟩) (F0 W W) ?_
 refine A9<|sv W<|A1<|A5<|A9<|sv W<|sd W (D5 W)<|sv W<|A1<|js h fun z1 hz1 h=>D8 (fun s=> ∃(y1:Unit) (g1:Unit),z1= .inl y1∧Sb ⟨T [],G []⟩ s) ?_ ?_
 refine A7<|E2 (Bh p1 p3) (fun (x1:(Int×Int)) (g2:Unit)=>⟨T [(1,(di x1.1)),(2,(di p3)),(9,(dl A4 p1)),(10,(di (p1.length:Int))),(11,(di x1.2))],G []⟩) (p2,0) () _ hz1 (F0 W W) ?_
 intro x1 g2 z2 hz2 ez2
 unfold Bh at hz2
 refine A9<|sv W<|A1<|A5<|cc W hz2 (fun c1 hz2=> ?_)<|fun c1 hz2=> ?_
 refine A8<|A5<|A7<|A9<|bs hz2 fun _ hv1 hz2=>sd W (C5 W W hv1 W)<|sd W (C7 W hv1 W)<|sv W<|A1<|A5<|A9<|sv W<|sv W<|sv W<|sv W<|gf W (fun _=>W)<|gf W (fun _=>W)<|gf W (fun w3=>(L9 (A2 w3) (A2 w3) W))<|sd W (N7 W W<|fun hc=>A2<|I7 hc)<|A1<|cc W hz2 (fun c2 hz2=> ?_)<|fun c2 hz2=> ?_
 refine A9<|sv W<|A1<|B0 ?_
 cases hz2
 obtain rfl:=ez2 _ rfl
 refine ⟨nofun,F2 ?_⟩
 rw [bY]at h
 cases h
 exact A6 (.inr W) (B6 (B2 W) C2) (.refl _)
 refine A8<|C1<|sv W<|sv W<|sv W<|A1<|E4<|C1<|sv W<|sv W<|A1<|E3 ?_
 cases hz2
 exact ⟨W,(),(F0 W W)⟩
 refine C9 W ?_
 cases hz2
 obtain rfl:=ez2 _ rfl
 refine ⟨nofun,C6 W<|Y7 ?_⟩
 exact ⟨_,(),W,(F0 W W)⟩
 rintro _ ⟨y1,g1,rfl,q1⟩
 rw [bX]at h
 refine B5 q1<|A9<|sv W<|A1<|B0 ?_
 cases h
 exact A6 (.inr W) (B6 (B2 W) C2) (.refl _)
def U6 (p1:RoadsCheck)(x1:Int):Option (Stp Int (Sum Unit Int)):=
  cond (decide (x1< (p1.Map_.Lanes.length:Int))) ((B7 p1.Map_.Lanes x1).bind fun v1=>(Cw v1.Kind).bind fun v2=>cond (v2.1==0) (some (.out (.inr 4))) ((Ij v1.Curve_).bind fun v3=>cond (v3 !=0) (some (.out (.inr v3))) ((Cd v1.Half 200 4000).bind fun v4=>((cond (!(!v4)) (Cd v1.Limit 1 v2.1) (some default))).bind fun v5=>cond ((!v4)||(!v5)) (some (.out (.inr 2))) (cond (decide ((v1.Next.length:Int)>3)) (some (.out (.inr 8))) ((Eg v1.Next (C3 (x1+1)) (p1.Map_.Lanes.length:Int)).bind fun v6=>cond (!v6) (some (.out (.inr 11))) (some (.go (C3 (x1+1))))))))) (some (.out (.inl ())))
def Ap (p1:RoadsCheck):Option Int:=
  thenS (loop (U6 p1) 0) (fun _=>some 0) (fun r=>some r)
theorem FK(p1 r)(h:Ap p1=some r):PCall Tryz.prog 149 [(.agg (S3 p1.Map_))] (i64 r):=by
 refine C4 (fk Tryz.func149 Tryz.ntmps149 m0 (by with_unfolding_all rfl)) (nl W) ?_
 unfold Ap at h
 refine B5 (s0:=⟨T [(0,(.d _))],G []⟩) (F0 W W) ?_
 refine lr<|fun u1 _=>sm W<|sv W<|A1<|A5<|A9<|sq W<|sp W W<|sl W G_hit W<|sd W (D5 W)<|sv W<|A1<|js h fun z1 hz1 h=>D8 (fun s=> ∃(y1:Unit) (g1:Unit),z1= .inl y1∧Sb ⟨T [],G []⟩ s) ?_ ?_
 refine A7<|E2 (U6 p1) (fun (x1:Int) (g2:Unit)=>⟨T [(1,(.ptr (1,u1) 0)),(11,(dl Jz p1.Map_.Lanes)),(12,(di (p1.Map_.Lanes.length:Int))),(13,(di x1))],G [((1,u1),some<|.box 212 (M7 p1.Map_))]⟩) 0 () _ hz1 (F0 W W) ?_
 intro x1 g2 z2 hz2 ez2
 unfold U6 at hz2
 refine A9<|sv W<|A1<|A5<|cc W hz2 (fun c1 hz2=> ?_)<|fun c1 hz2=> ?_
 refine A8<|A5<|A7<|A9<|sv W<|bs hz2 fun v1 hv1 hz2=>sd W (C5 W W hv1 W)<|sd W (D3 W hv1 W W)<|sm W<|sv W<|Z4 W G_hit (LJ v1) W (A1<|A9<|sq W<|sl W G_hit W<|bs hz2 fun v2 hv2 hz2=>B3 W W A3 (Qj _ _ hv2) (.inl W) (sv W<|sv W<|sv W<|sv W<|sv W<|sv W<|sv W<|A1<|A5<|A9<|sv W<|sv W<|A1<|cc W hz2 (fun c2 hz2=> ?_)<|fun c2 hz2=> ?_))
 refine A9<|sv W<|A1<|B0 ?_
 cases hz2
 obtain rfl:=ez2 _ rfl
 refine ⟨nofun,F2 ?_⟩
 rw [bY]at h
 cases h
 exact A6 (.inr W) (B6 (B2 W) C2) (.refl _)
 refine A8<|A5<|A9<|sq W<|sd W (B1 W G_hit W W)<|bs hz2 fun _ hv3 hz2=>B3 W W A3 (FJ _ _ hv3) (.inl W) (sv W<|A1<|A9<|sv W<|sv W<|A1<|cc W hz2 (fun c3 hz2=> ?_)<|fun c3 hz2=> ?_)
 refine A9<|sv W<|sv W<|A1<|B0 ?_
 cases hz2
 obtain rfl:=ez2 _ rfl
 refine ⟨nofun,F2 ?_⟩
 rw [bY]at h
 cases h
 exact A6 (.inr W) (B6 (B2 W) C2) (.refl _)
 refine A8<|A7<|A9<|sq W<|sl W G_hit W<|bs hz2 fun v4 hv4 hz2=>B3 W W A3 (Hz _ _ _ _ hv4) (.inl W) (C0 (.d (bo (!v4))) W W (sv W<|gp W (J9 W) (fun _=>W) (gf W (vl W G_hit W)<|gf W (fun _=>W)<|bs hz2 fun v5 hv5 hz2=> ?_)))
 refine N2 _ (bo v5) (J9 W) (fun w4=>⟨_,[(di v1.Limit),(di 1),(di v2.1)],_,_,(by simp only [A2 w4];rfl),W,A3,Hz _ _ _ _<|B8 w4 hv5,(.inl W)⟩) ?_
 refine N1 _ (.d (bo (!v5))) W (J9 W) (fun w5=>(by simp only [A2 w5];rfl)) ?_
 refine sd W (N7 W W<|fun hc=>A2<|I7 hc)<|sv W<|A1<|cc W hz2 (fun c4 hz2=> ?_)<|fun c4 hz2=> ?_
 refine A9<|sv W<|A1<|B0 ?_
 cases hz2
 obtain rfl:=ez2 _ rfl
 refine ⟨nofun,F2 ?_⟩
 rw [bY]at h
 cases h
 exact A6 (.inr W) (B6 (B2 W) C2) (.refl _)
 refine A9<|sq W<|sl W G_hit W<|sd W (D5 W)<|sv W<|sv W<|A1<|cc W hz2 (fun c5 hz2=> ?_)<|fun c5 hz2=> ?_
 refine A9<|sv W<|A1<|B0 ?_
 cases hz2
 obtain rfl:=ez2 _ rfl
 refine ⟨nofun,F2 ?_⟩
 rw [bY]at h
 cases h
 exact A6 (.inr W) (B6 (B2 W) C2) (.refl _)
 refine A9<|sq W<|sl W G_hit W<|sv W<|sv W<|sq W<|sp W W<|sl W (gq W) W (sd W (D5 W)<|bs hz2 fun v6 hv6 hz2=>B3 W W A3 (Vs _ _ _ _ hv6) (.inl W) (C0 (.d (bo (!v6))) W W (sv W<|A1<|cc W hz2 (fun c6 hz2=> ?_)<|fun c6 hz2=> ?_)))
 refine A9<|sv W<|A1<|B0 ?_
 cases hz2
 obtain rfl:=ez2 _ rfl
 refine ⟨nofun,F2 ?_⟩
 rw [bY]at h
 cases h
 exact A6 (.inr W) (B6 (B2 W) C2) (.refl _)
 refine A8<|E4<|E4<|C1<|sv W<|sv W<|A1<|E3 ?_
 cases hz2
 exact ⟨W,(),(F0 W W)⟩
 refine C9 W ?_
 cases hz2
 obtain rfl:=ez2 _ rfl
 refine ⟨nofun,C6 W<|Y7 ?_⟩
 exact ⟨_,(),W,(F0 W W)⟩
 rintro _ ⟨y1,g1,rfl,q1⟩
 rw [bX]at h
 refine B5 q1<|A9<|sv W<|A1<|B0 ?_
 cases h
 exact A6 (.inr W) (B6 (B2 W) C2) (.refl _)
def S8 (p1:RoadsCheck)(v1:Lane)(v2:Spot)(x2:Int):Option (Stp Int (Sum Unit Int)):=
  cond (decide (x2< (v1.Next.length:Int))) ((B7 v1.Next x2).bind fun v3=>(B7 p1.Map_.Lanes v3).bind fun v4=>cond (v4.Kind !=v1.Kind) (some (.out (.inr 4))) ((B7 p1.Map_.Lanes v3).bind fun v5=>(B7 v5.Curve_.Pts 0).bind fun v6=>cond (!(v6.X==v2.X&& (v6.Y==v2.Y&&true))) (some (.out (.inr 3))) (some (.go (C3 (x2+1)))))) (some (.out (.inl ())))
def S9 (p1:RoadsCheck)(x1:Int):Option (Stp Int (Sum Unit Int)):=
  cond (decide (x1< (p1.Map_.Lanes.length:Int))) ((B7 p1.Map_.Lanes x1).bind fun v1=>(B7 v1.Curve_.Pts (C3 ((v1.Curve_.Pts.length:Int) - 1))).bind fun v2=>thenS (loop (S8 p1 v1 v2) 0) (fun _=>some (.go (C3 (x1+1)))) (fun r=>some (.out (.inr r)))) (some (.out (.inl ())))
def Z5 (p1:RoadsCheck):Option Int:=
  thenS (loop (S9 p1) 0) (fun _=>some 0) (fun r=>some r)
theorem EC(p1 r)(h:Z5 p1=some r):PCall Tryz.prog 150 [(.agg (S3 p1.Map_))] (i64 r):=by
 refine C4 (fk Tryz.func150 Tryz.ntmps150 m0 (by with_unfolding_all rfl)) (nl W) ?_
 unfold Z5 at h
 refine B5 (s0:=⟨T [(0,(.d _))],G []⟩) (F0 W W) ?_
 refine lr<|fun u1 _=>sm W<|sv W<|A1<|A5<|A9<|sq W<|sp W W<|sl W G_hit W<|sd W (D5 W)<|sv W<|A1<|js h fun z1 hz1 h=>D8 (fun s=> ∃(y1:Unit) (g1:Unit),z1= .inl y1∧Sb ⟨T [],G []⟩ s) ?_ ?_
 refine A7<|E2 (S9 p1) (fun (x1:Int) (g2:Unit)=>⟨T [(1,(.ptr (1,u1) 0)),(10,(dl Jz p1.Map_.Lanes)),(11,(di (p1.Map_.Lanes.length:Int))),(12,(di x1))],G [((1,u1),some<|.box 212 (M7 p1.Map_))]⟩) 0 () _ hz1 (F0 W W) ?_
 intro x1 g2 z2 hz2 ez2
 unfold S9 at hz2
 refine A9<|sv W<|A1<|A5<|cc W hz2 (fun c1 hz2=> ?_)<|fun c1 hz2=> ?_
 refine A8<|A5<|A7<|lr<|fun u4 _=>bs hz2 fun v1 hv1 hz2=>sd W (C5 W W hv1 W)<|sd W (D3 W hv1 W W)<|sm W<|Z4 W G_hit (LJ v1) W (A1<|lr<|fun u5 _=>sq W<|sq W<|sl W G_hit W<|sq W<|sp W W<|sl W G_hit W<|sd W (D5 W)<|sv W<|bs hz2 fun v2 hv2 hz2=>sd W (C5 W W hv2 W)<|sd W (D3 W hv2 W W)<|sm W<|Z4 W G_hit [(di v2.X),(di v2.Y)] W (A1<|A9<|sq W<|sl W (gq W) W (sd W (D5 W)<|sv W<|A1<|js hz2 fun z3 hz3 hz2=>D8 (fun s=> ∃(y2:Unit) (g3:Unit),z3= .inl y2∧Sb ⟨T [(1,(.ptr (1,u1) 0)),(10,(dl Jz p1.Map_.Lanes)),(11,(di (p1.Map_.Lanes.length:Int))),(12,(di x1))],G [((1,u1),some<|.box 212 (M7 p1.Map_))]⟩ s) ?_ ?_)))
 refine A7<|E2 (S8 p1 v1 v2) (fun (x2:Int) (g4:Unit)=>⟨T [(1,(.ptr (1,u1) 0)),(4,(.ptr (4,u4) 0)),(5,(.ptr (5,u5) 0)),(10,(dl Jz p1.Map_.Lanes)),(11,(di (p1.Map_.Lanes.length:Int))),(12,(di x1)),(27,(dl A4 v1.Next)),(28,(di (v1.Next.length:Int))),(29,(di x2))],G [((1,u1),some<|.box 212 (M7 p1.Map_)),((4,u4),some<|.box 63 (LJ v1)),((5,u5),some<|.box 104 [(di v2.X),(di v2.Y)])]⟩) 0 () _ hz3 (F0 W W) ?_
 intro x2 g4 z4 hz4 ez4
 unfold S8 at hz4
 refine A9<|sv W<|A1<|A5<|cc W hz4 (fun c2 hz4=> ?_)<|fun c2 hz4=> ?_
 refine A8<|A5<|A7<|A9<|bs hz4 fun _ hv3 hz4=>sd W (C5 W W hv3 W)<|sd W (C7 W hv3 W)<|sv W<|A1<|A5<|A5<|F1 W<|sq W<|sq W<|sl W G_hit W<|sv W<|bs hz4 fun _ hv4 hz4=>sd W (C5 W W hv4 W)<|sv W<|sd W (C7 W hv4 W)<|sq W<|sl W (gq W) W (sv W<|A1<|cc W hz4 (fun c3 hz4=> ?_)<|fun c3 hz4=> ?_)
 refine A9<|sv W<|A1<|B0 ?_
 cases hz4
 obtain rfl:=ez4 _ rfl
 refine ⟨nofun,F2 ?_⟩
 rw [bY]at hz2
 cases hz2
 obtain rfl:=ez2 _ rfl
 refine ⟨nofun,F2 ?_⟩
 rw [bY]at h
 cases h
 exact A6 (.inr W) (B6 (B2 W) C2) (.refl _)
 refine A8<|A5<|F1 W<|sq W<|sq W<|sl W G_hit W<|sv W<|bs hz4 fun _ hv5 hz4=>sd W (C5 W W hv5 W)<|sv W<|sv W<|sd W (C7 W hv5 W)<|bs hz4 fun v6 hv6 hz4=>sd W (C5 W W hv6 W)<|sd W (D3 W hv6 W W)<|sd W (B1 W (gq W) W W)<|C0 (.d (bo (!(v6.X==v2.X&& (v6.Y==v2.Y&&true))))) W W (A1<|cc W hz4 (fun c4 hz4=> ?_)<|fun c4 hz4=> ?_)
 refine A9<|sv W<|A1<|B0 ?_
 cases hz4
 obtain rfl:=ez4 _ rfl
 refine ⟨nofun,F2 ?_⟩
 rw [bY]at hz2
 cases hz2
 obtain rfl:=ez2 _ rfl
 refine ⟨nofun,F2 ?_⟩
 rw [bY]at h
 cases h
 exact A6 (.inr W) (B6 (B2 W) C2) (.refl _)
 refine A8<|E4<|C1<|sv W<|sv W<|A1<|E3 ?_
 cases hz4
 exact ⟨W,(),(F0 W W)⟩
 refine C9 W ?_
 cases hz4
 obtain rfl:=ez4 _ rfl
 refine ⟨nofun,C6 W<|Y7 ?_⟩
 exact ⟨_,(),W,(F0 W W)⟩
 rintro _ ⟨y2,g3,rfl,q1⟩
 rw [bX]at hz2
 refine E4<|B5 q1<|C1<|sv W<|sv W<|A1<|E3 ?_
 cases hz2
 exact ⟨W,(),(F0 W W)⟩
 refine C9 W ?_
 cases hz2
 obtain rfl:=ez2 _ rfl
 refine ⟨nofun,C6 W<|Y7 ?_⟩
 exact ⟨_,(),W,(F0 W W)⟩
 rintro _ ⟨y1,g1,rfl,q2⟩
 rw [bX]at h
 refine B5 q2<|A9<|sv W<|A1<|B0 ?_
 cases h
 exact A6 (.inr W) (B6 (B2 W) C2) (.refl _)
def An (p1:Phase):Option Bool:=
  (Cd p1.Ticks 1 10000).bind fun v1=>some (!v1)
theorem AN(p1 r)(h:An p1=some r):PCall Tryz.prog 212 [(.agg [(i64 p1.Ticks),(.list (List.map A4 p1.Green))])] (bo r):=by
 refine C4 (fk Tryz.func212 Tryz.ntmps212 m0 (by with_unfolding_all rfl)) (nl W) ?_
 unfold An at h
 refine B5 (s0:=⟨T [(0,(.d _))],G []⟩) (F0 W W) ?_
 refine A9<|sm W<|sv W<|A1<|A9<|sq W<|sl W G_hit W<|bs h fun v1 hv1 h=>B3 W W A3 (Hz _ _ _ _ hv1) (.inl W) (C0 (.d (bo (!v1))) W W (sv W<|A1<|B0 ?_))
 cases h
 exact A6 (.inr W) (B6 (B2 W) C2) (.refl _)
def F3 (p1:(List Phase))(x1:Int):Option (Stp Int (Sum Unit Int)):=
  cond (decide (x1< (p1.length:Int))) ((B7 p1 x1).bind fun v1=>(An v1).bind fun v2=>cond v2 (some (.out (.inr x1))) (some (.go (C3 (x1+1))))) (some (.out (.inl ())))
def H5 (p1:(List Phase)):Option Int:=
  thenS (loop (F3 p1) 0) (fun _=>some (-1)) (fun r=>some r)
theorem Fv(p1 r)(h:H5 p1=some r):PCall Tryz.prog 243 [(.list (List.map Dn p1)),(.fn (.func 212) [] [])] (i64 r):=by
 refine C4 (fk Tryz.func243 Tryz.ntmps243 m0 (by with_unfolding_all rfl)) (nl W) ?_
 unfold H5 at h
 refine B5 (s0:=⟨T [(0,(.d _)),(1,(.d _))],G []⟩) (F0 W W) ?_
 refine A9<|sv W<|A1<|A5<|A9<|sv W<|sd W (D5 W)<|sv W<|A1<|js h fun z1 hz1 h=>D8 (fun s=> ∃(y1:Unit) (g1:Unit),z1= .inl y1∧Sb ⟨T [],G []⟩ s) ?_ ?_
 refine A7<|E2 (F3 p1) (fun (x1:Int) (g2:Unit)=>⟨T [(0,(dl Dn p1)),(1,(.d (.fn (.func 212) [] []))),(7,(di (p1.length:Int))),(8,(di x1))],G []⟩) 0 () _ hz1 (F0 W W) ?_
 intro x1 g2 z2 hz2 ez2
 unfold F3 at hz2
 refine A9<|sv W<|A1<|A5<|cc W hz2 (fun c1 hz2=> ?_)<|fun c1 hz2=> ?_
 refine A8<|A5<|A7<|A9<|sv W<|sv W<|A1<|A9<|sv W<|sv W<|sv W<|bs hz2 fun _ hv1 hz2=>sd W (C5 W W hv1 W)<|sd W (D3 W hv1 W W)<|bs hz2 fun _ hv2 hz2=>B3 W W A3 (AN _ _ hv2) (.inl W) (A1<|cc W hz2 (fun c2 hz2=> ?_)<|fun c2 hz2=> ?_)
 refine A9<|sv W<|sv W<|A1<|B0 ?_
 cases hz2
 obtain rfl:=ez2 _ rfl
 refine ⟨nofun,F2 ?_⟩
 rw [bY]at h
 cases h
 exact A6 (.inr W) (B6 (B2 W) C2) (.refl _)
 refine A8<|E4<|C1<|sv W<|sv W<|A1<|E3 ?_
 cases hz2
 exact ⟨W,(),(F0 W W)⟩
 refine C9 W ?_
 cases hz2
 obtain rfl:=ez2 _ rfl
 refine ⟨nofun,C6 W<|Y7 ?_⟩
 exact ⟨_,(),W,(F0 W W)⟩
 rintro _ ⟨y1,g1,rfl,q1⟩
 rw [bX]at h
 refine B5 q1<|A9<|sv W<|A1<|B0 ?_
 cases h
 exact A6 (.inr W) (B6 (B2 W) C2) (.refl _)
def F4 (p1:(List Phase)):Option Bool:=
  (H5 p1).bind fun v1=>some (decide (v1≥0))
theorem Ey(p1 r)(h:F4 p1=some r):PCall Tryz.prog 211 [(.list (List.map Dn p1)),(.fn (.func 212) [] [])] (bo r):=by
 refine C4 (fk Tryz.func211 Tryz.ntmps211 m0 (by with_unfolding_all rfl)) (nl W) ?_
 unfold F4 at h
 refine B5 (s0:=⟨T [(0,(.d _)),(1,(.d _))],G []⟩) (F0 W W) ?_
 refine A9<|sv W<|A1<|A9<|sv W<|sv W<|bs h fun _ hv1 h=>B3 W W A3 (Fv _ _ hv1) (.inl W) (sv W<|sv W<|A1<|B0 ?_)
 cases h
 exact A6 (.inr W) (B6 (B2 W) C2) (.refl _)
def X6 (p1:Phase)(p2:RoadsCheck):Option Bool:=
  (Eg p1.Green 0 (p2.Map_.Lanes.length:Int)).bind fun v1=>some (!v1)
theorem Xv(p1 p2 r)(h:X6 p1 p2=some r):PCall Tryz.prog 213 [(.agg [(i64 p1.Ticks),(.list (List.map A4 p1.Green))]),(.bp (S3 p2.Map_) 0)] (bo r):=by
 refine C4 (fk Tryz.func213 Tryz.ntmps213 m0 (by with_unfolding_all rfl)) (nl W) ?_
 unfold X6 at h
 refine B5 (s0:=⟨T [(0,(.d _)),(1,(.d _))],G []⟩) (F0 W W) ?_
 refine A9<|sm W<|sv W<|A1<|A9<|sq W<|sl W G_hit W<|sv W<|sv W<|sv W<|sd W (D5 W)<|bs h fun v1 hv1 h=>B3 W W A3 (Vs _ _ _ _ hv1) (.inl W) (C0 (.d (bo (!v1))) W W (sv W<|A1<|B0 ?_))
 cases h
 exact A6 (.inr W) (B6 (B2 W) C2) (.refl _)
def E8 (p1:(List Phase))(p2:RoadsCheck)(x1:Int):Option (Stp Int (Sum Unit Int)):=
  cond (decide (x1< (p1.length:Int))) ((B7 p1 x1).bind fun v1=>(X6 v1 p2).bind fun v2=>cond v2 (some (.out (.inr x1))) (some (.go (C3 (x1+1))))) (some (.out (.inl ())))
def G8 (p1:(List Phase))(p2:RoadsCheck):Option Int:=
  thenS (loop (E8 p1 p2) 0) (fun _=>some (-1)) (fun r=>some r)
theorem Fm(p1 p2 r)(h:G8 p1 p2=some r):PCall Tryz.prog 243 [(.list (List.map Dn p1)),(.fn (.func 213) [] [(.bp (S3 p2.Map_) 0)])] (i64 r):=by
 refine C4 (fk Tryz.func243 Tryz.ntmps243 m0 (by with_unfolding_all rfl)) (nl W) ?_
 unfold G8 at h
 refine B5 (s0:=⟨T [(0,(.d _)),(1,(.d _))],G []⟩) (F0 W W) ?_
 refine A9<|sv W<|A1<|A5<|A9<|sv W<|sd W (D5 W)<|sv W<|A1<|js h fun z1 hz1 h=>D8 (fun s=> ∃(y1:Unit) (g1:Unit),z1= .inl y1∧Sb ⟨T [],G []⟩ s) ?_ ?_
 refine A7<|E2 (E8 p1 p2) (fun (x1:Int) (g2:Unit)=>⟨T [(0,(dl Dn p1)),(1,(.d (.fn (.func 213) [] [(.bp (S3 p2.Map_) 0)]))),(7,(di (p1.length:Int))),(8,(di x1))],G []⟩) 0 () _ hz1 (F0 W W) ?_
 intro x1 g2 z2 hz2 ez2
 unfold E8 at hz2
 refine A9<|sv W<|A1<|A5<|cc W hz2 (fun c1 hz2=> ?_)<|fun c1 hz2=> ?_
 refine A8<|A5<|A7<|A9<|sv W<|sv W<|A1<|A9<|sv W<|sv W<|sv W<|bs hz2 fun _ hv1 hz2=>sd W (C5 W W hv1 W)<|sd W (D3 W hv1 W W)<|bs hz2 fun _ hv2 hz2=>B3 W W A3 (Xv _ _ _ hv2) (.inl W) (A1<|cc W hz2 (fun c2 hz2=> ?_)<|fun c2 hz2=> ?_)
 refine A9<|sv W<|sv W<|A1<|B0 ?_
 cases hz2
 obtain rfl:=ez2 _ rfl
 refine ⟨nofun,F2 ?_⟩
 rw [bY]at h
 cases h
 exact A6 (.inr W) (B6 (B2 W) C2) (.refl _)
 refine A8<|E4<|C1<|sv W<|sv W<|A1<|E3 ?_
 cases hz2
 exact ⟨W,(),(F0 W W)⟩
 refine C9 W ?_
 cases hz2
 obtain rfl:=ez2 _ rfl
 refine ⟨nofun,C6 W<|Y7 ?_⟩
 exact ⟨_,(),W,(F0 W W)⟩
 rintro _ ⟨y1,g1,rfl,q1⟩
 rw [bX]at h
 refine B5 q1<|A9<|sv W<|A1<|B0 ?_
 cases h
 exact A6 (.inr W) (B6 (B2 W) C2) (.refl _)
def E9 (p1:(List Phase))(p2:RoadsCheck):Option Bool:=
  (G8 p1 p2).bind fun v1=>some (decide (v1≥0))
theorem Eh(p1 p2 r)(h:E9 p1 p2=some r):PCall Tryz.prog 211 [(.list (List.map Dn p1)),(.fn (.func 213) [] [(.bp (S3 p2.Map_) 0)])] (bo r):=by
 refine C4 (fk Tryz.func211 Tryz.ntmps211 m0 (by with_unfolding_all rfl)) (nl W) ?_
 unfold E9 at h
 refine B5 (s0:=⟨T [(0,(.d _)),(1,(.d _))],G []⟩) (F0 W W) ?_
 refine A9<|sv W<|A1<|A9<|sv W<|sv W<|bs h fun _ hv1 h=>B3 W W A3 (Fm _ _ _ hv1) (.inl W) (sv W<|sv W<|A1<|B0 ?_)
 cases h
 exact A6 (.inr W) (B6 (B2 W) C2) (.refl _)
def R3 (p1:RoadsCheck)(x1:Int):Option (Stp Int (Sum Unit Int)):=
  cond (decide (x1< (p1.Map_.Signals.length:Int))) ((B7 p1.Map_.Signals x1).bind fun v1=>cond ((v1.Phases.length:Int)==0) (some (.out (.inr 6))) (cond (decide ((v1.Phases.length:Int)>6)) (some (.out (.inr 8))) ((Cd v1.Offset 0 1099511627776).bind fun v2=>cond (!v2) (some (.out (.inr 2))) ((F4 v1.Phases).bind fun v3=>cond v3 (some (.out (.inr 2))) ((E9 v1.Phases p1).bind fun v4=>cond v4 (some (.out (.inr 11))) (some (.go (C3 (x1+1))))))))) (some (.out (.inl ())))
def X0 (p1:RoadsCheck):Option Int:=
  thenS (loop (R3 p1) 0) (fun _=>some 0) (fun r=>some r)
theorem CL(p1 r)(h:X0 p1=some r):PCall Tryz.prog 151 [(.agg (S3 p1.Map_))] (i64 r):=by
 refine C4 (fk Tryz.func151 Tryz.ntmps151 m0 (by with_unfolding_all rfl)) (nl W) ?_
 unfold X0 at h
 refine B5 (s0:=⟨T [(0,(.d _))],G []⟩) (F0 W W) ?_
 refine lr<|fun u1 _=>sm W<|sv W<|A1<|A5<|A9<|sq W<|sp W W<|sl W G_hit W<|sd W (D5 W)<|sv W<|A1<|js h fun z1 hz1 h=>D8 (fun s=> ∃(y1:Unit) (g1:Unit),z1= .inl y1∧Sb ⟨T [],G []⟩ s) ?_ ?_
 refine A7<|E2 (R3 p1) (fun (x1:Int) (g2:Unit)=>⟨T [(1,(.ptr (1,u1) 0)),(8,(dl Sg p1.Map_.Signals)),(9,(di (p1.Map_.Signals.length:Int))),(10,(di x1))],G [((1,u1),some<|.box 212 (M7 p1.Map_))]⟩) 0 () _ hz1 (F0 W W) ?_
 intro x1 g2 z2 hz2 ez2
 unfold R3 at hz2
 refine A9<|sv W<|A1<|A5<|cc W hz2 (fun c1 hz2=> ?_)<|fun c1 hz2=> ?_
 refine A8<|A5<|A7<|A9<|bs hz2 fun v1 hv1 hz2=>sd W (C5 W W hv1 W)<|sd W (D3 W hv1 W W)<|sm W<|Z4 W G_hit [(di v1.Offset),(dl Dn v1.Phases)] W (A1<|A9<|sq W<|sl W G_hit W<|sd W (D5 W)<|sv W<|A1<|A7<|A9<|sv W<|sv W<|sv W<|A1<|cc W hz2 (fun c2 hz2=> ?_)<|fun c2 hz2=> ?_)
 refine A9<|sv W<|A1<|B0 ?_
 cases hz2
 obtain rfl:=ez2 _ rfl
 refine ⟨nofun,F2 ?_⟩
 rw [bY]at h
 cases h
 exact A6 (.inr W) (B6 (B2 W) C2) (.refl _)
 refine A9<|sv W<|sv W<|sv W<|A1<|cc W hz2 (fun c3 hz2=> ?_)<|fun c3 hz2=> ?_
 refine A9<|sv W<|A1<|B0 ?_
 cases hz2
 obtain rfl:=ez2 _ rfl
 refine ⟨nofun,F2 ?_⟩
 rw [bY]at h
 cases h
 exact A6 (.inr W) (B6 (B2 W) C2) (.refl _)
 refine A9<|sq W<|sl W G_hit W<|bs hz2 fun v2 hv2 hz2=>B3 W W A3 (Hz _ _ _ _ hv2) (.inl W) (C0 (.d (bo (!v2))) W W (sv W<|A1<|cc W hz2 (fun c4 hz2=> ?_)<|fun c4 hz2=> ?_))
 refine A9<|sv W<|A1<|B0 ?_
 cases hz2
 obtain rfl:=ez2 _ rfl
 refine ⟨nofun,F2 ?_⟩
 rw [bY]at h
 cases h
 exact A6 (.inr W) (B6 (B2 W) C2) (.refl _)
 refine A9<|sq W<|sl W G_hit W<|bs hz2 fun _ hv3 hz2=>B3 W W A3 (Ey _ _ hv3) (.inl W) (sv W<|A1<|cc W hz2 (fun c5 hz2=> ?_)<|fun c5 hz2=> ?_)
 refine A9<|sv W<|A1<|B0 ?_
 cases hz2
 obtain rfl:=ez2 _ rfl
 refine ⟨nofun,F2 ?_⟩
 rw [bY]at h
 cases h
 exact A6 (.inr W) (B6 (B2 W) C2) (.refl _)
 refine A9<|sq W<|sl W G_hit W<|C0 (.fn _ _ _) W W (bs hz2 fun _ hv4 hz2=>B3 W (rD<|F5 (HS G7<|F5 (Dt (gq W)<|rD<|rD<|rD<|rD<|rD G7) G7) G7) A3 (Eh _ _ _ hv4) (.inr W) (sv W<|A1<|cc W hz2 (fun c6 hz2=> ?_)<|fun c6 hz2=> ?_))
 refine A9<|sv W<|A1<|B0 ?_
 cases hz2
 obtain rfl:=ez2 _ rfl
 refine ⟨nofun,F2 ?_⟩
 rw [bY]at h
 cases h
 exact A6 (.inr W) (B6 (B2 W) C2) (.refl _)
 refine A8<|E4<|E4<|C1<|sv W<|sv W<|A1<|E3 ?_
 cases hz2
 exact ⟨W,(),(F0 W W)⟩
 refine C9 W ?_
 cases hz2
 obtain rfl:=ez2 _ rfl
 refine ⟨nofun,C6 W<|Y7 ?_⟩
 exact ⟨_,(),W,(F0 W W)⟩
 rintro _ ⟨y1,g1,rfl,q1⟩
 rw [bX]at h
 refine B5 q1<|A9<|sv W<|A1<|B0 ?_
 cases h
 exact A6 (.inr W) (B6 (B2 W) C2) (.refl _)
/-- kerbstone/curve.pieces$1 -/
def Zu:AC:=(.seq (.reg [oo 3 (.mv (ci 0))]) (.seq (.reg [oo 8 (.fieldA 0 (.t 1)),oo 9 (.load 1 false (.t 8)),oo 10 (.len (.t 9)),oo 11 (.bin .sub (.t 10) (ci 1)),oo 12 (.mv (ci 0))]) (.block 0 (.loop (.seq (.reg [oo 13 (.bin .lss (.t 12) (.t 11))]) (.seq (.cond (.t 13) .skip (.exit 0)) (.seq (.block 1 (.seq (.reg [oo 14 (.mv (.t 12)),oo 4 (.mv (.t 14))]) (.seq (.draw [oo 15 (.fieldA 0 (.t 1)),oo 16 (.load 1 false (.t 15)),oo 17 (.mv (.t 4)),oo 18 (.idxS 2 (.t 16) (.t 17)),oo 19 (.load 2 true (.t 18)),oo 20 (.fieldA 0 (.t 1)),oo 21 (.load 1 false (.t 20)),oo 22 (.mv (.t 4)),oo 23 (.bin .add (.t 22) (ci 1)),oo 24 (.idxS 2 (.t 21) (.t 23)),oo 25 (.load 2 true (.t 24)),oo 26 (.call (cf 238) [(.t 19),(.t 25)]),oo 5 (.alloc 253 [z0,z0]),oe (.store 2 (.t 5) (.t 26))] []) (.seq (.reg [oo 28 (.load 2 true (.t 5)),oo 29 (.load 2 true (.t 5)),oo 30 (.call (cf 240) [(.t 28),(.t 29)]),oo 31 (.call (cf 239) [(.t 30)]),oo 27 (.mv (.t 31)),oo 32 (.ext (.t 27) 0),oo 33 (.ext (.t 27) 1),oo 6 (.mv (.t 32)),oo 7 (.mv (.t 33))]) (.seq (.seq (.drawB [oo 34 (.mv (.t 0)),oo 35 (.mv (.t 4)),oo 36 (.fieldA 0 (.t 1)),oo 37 (.load 1 false (.t 36)),oo 38 (.mv (.t 4)),oo 39 (.idxS 2 (.t 37) (.t 38)),oo 40 (.load 2 true (.t 39)),oo 41 (.load 2 true (.t 5)),oo 42 (.mv (.t 6)),oo 43 (.mv (.t 3)),oo 44 (.build [z0,z0,z0,z0,z0,z0] [(0,2,(.t 40)),(2,2,(.t 41)),(4,1,(.t 42)),(5,1,(.t 43))]),oo 45 (.icall (.t 34) [(.t 35),(.t 44)]),oo 46 (.un .not (.t 45))] 11 []) (.cond (.t 46) .ret .skip)) (.reg [oo 47 (.mv (.t 3)),oo 48 (.mv (.t 6)),oo 49 (.bin .add (.t 47) (.t 48)),oo 3 (.mv (.t 49))])))))) (.reg [oo 50 (.bin .add (.t 12) (ci 1)),oo 12 (.mv (.t 50))]))))))))
theorem LK:FnOK Tryz.prog 260 51 [] Zu:=⟨_,_,Tryz.func260,rfl,Tryz.ntmps260,by kernel_rfl,⟨fun r=>if r==6 then [11]else [],by kernel_rfl⟩,by kernel_rfl⟩
/-- The pieces of a chain of points, from a number on. -/
def Oe (pts:List Spot):Nat→Nat→Int→Option (List (Int×CurvePiece))
  |0,_,_=>some []
  |n+1,i,start=>(pts[i]?).bind fun p=>(pts[i+1]?).bind fun q=>(Lw p q).bind fun v=>(Ak v v).bind fun d=>(Jc d).bind fun r=>
   (Oe pts n (i+1) (C3 (start+r.1))).bind fun l=>some (((i:Int),CurvePiece.mk p v r.1 start)::l)
def Zv (pts:List Spot):Option (List (Int×CurvePiece)):=if pts.length≤1000000 then Oe pts (pts.length - 1) 0 0 else none
/-- kerbstone/curve.pieces -/
def DQ:AC:=(.seq (.reg [oo 1 (.box 61 true (.t 0)),oo 2 (.mv (.c (.v .nilFunc)))]) (.seq (.reg [oo 3 (.mkfn (.func 260) [] [(.t 1)]),oo 2 (.mv (.t 3))]) .ret))
theorem OQ:FnOK Tryz.prog 241 4 [.t 2] DQ:=⟨_,_,Tryz.func241,rfl,Tryz.ntmps241,by kernel_rfl,⟨fun _=> [],by kernel_rfl⟩,by kernel_rfl⟩
abbrev XD (a:Int×CurvePiece):List D:= [i64 a.1, .agg [i64 a.2.p.X,i64 a.2.p.Y,i64 a.2.v.x,i64 a.2.v.y,i64 a.2.l,i64 a.2.start]]
theorem ZN (c:Curve):PCall Tryz.prog 241 [.agg [.list (List.map Fh c.Pts)]] (.fn (.func 260) [] [.bp [.list (List.map Fh c.Pts)] 0]):=by
  refine mS OQ (by simp) ?_
  unfold DQ
  refine Tl<|Xs fun _ _=> ?_
  refine dG (.ptr _ _) _ W W ?_
  refine G4 (.d _) W W ?_
  refine Ds ?_
  refine Tl<|Xs fun u' hu'=> ?_
  refine G4 (.fn _ _ _) W W ?_
  refine G4 (.fn _ _ _) W W ?_
  refine Ds ?_
  refine dC ⟨.inr W,?_⟩
  refine B6 (B2 (v:= .fn _ _ _) W) ?_
  exact HS G7<|F5 (Dt (by simp only [Dr,if_true];rfl)<|F5 C2 G7) G7
theorem oA (ps:List Spot)(n:Int)(i:Nat)(p:Spot)(hn:n=i)(h:ps[i]? =some p):(List.map Fh ps)[n.toNat]? =some (Fh p):=by
  subst hn
  rw [bZ,lJ,h];rfl
theorem dS {n:Int}(h: -9223372036854775808≤n∧n≤9223372036854775807):C3 n=n:=Go.IntWalk.i64_in n h
theorem OS (pts:List Spot): ∀n i s L,Oe pts n i s=some L→L.length=n:=by
  intro n
  induction n with
  |zero=>intro i s L h;cases h;rfl
  |succ n ih=>
   intro i s L h
   rw [Oe]at h
   obtain ⟨p,hp,h⟩:=bind_some h
   obtain ⟨q,hq,h⟩:=bind_some h
   obtain ⟨v,hv,h⟩:=bind_some h
   obtain ⟨d,hd,h⟩:=bind_some h
   obtain ⟨r,hr,h⟩:=bind_some h
   obtain ⟨l,hl,h⟩:=bind_some h
   cases h
   rw [lK,ih _ _ _ hl]
theorem ZO {pts:List Spot}{L:List (Int×CurvePiece)}(h:Zv pts=some L):nC Tryz.prog (.fn (.func 260) [] [.bp [.list (List.map Fh pts)] 0]) (L.map XD):=by
  unfold Zv at h
  split at h
  case isFalse=>cases h
  rename_i hlen
  refine ⟨260,[],_,W,?_⟩
  intro k h0 Inv Stop hi0 hy
  refine QR LK (by simp) ?_
  unfold Zu
  refine Tl<|Xs fun u hu=> ?_
  refine G4 (.d _) W W ?_
  refine Ds ?_
  refine Tl<|Xs fun u hu=> ?_
  refine G4 (.d _) W W ?_
  refine G4 (.d _) W W ?_
  refine G4 (.d (i64 pts.length)) W (D5 (f:=Fh) W) ?_
  refine G4 (.d _) W W ?_
  refine G4 (.d _) W W ?_
  refine Ds ?_
  refine QN ?_
  refine YS (α:=Nat×Int×E6) (fun x=>⟨T [(0, .yld k),(1, .d (.bp [.list (List.map Fh pts)] 0)),(3, .d (i64 x.2.1)),(11, .d (i64<|C3 (pts.length - 1))),(12, .d (i64 x.1))],x.2.2⟩) (fun x=>pts.length - x.1)
    (fun x=>Inv x.1 x.2.2∧x.1≤pts.length - 1∧Oe pts (pts.length - 1 - x.1) x.1 x.2.1=some (L.drop x.1)) (0,0,h0) ⟨hi0,by omega,h⟩ (EX ⟨rfl,rfl,rfl,rfl,rfl,trivial⟩ fun _ _ h=>h) ?_
  rintro ⟨i,start,hh⟩ ⟨hinv,hi,hgo⟩
  dsimp only at hinv hi hgo ⊢
  refine Tl<|Xs fun u hu=> ?_
  refine G4 (.d _) W W ?_
  refine Ds ?_
  refine Tl ?_
  refine mV W (fun hlt=> ?_)<|fun hlt=> ?_
  ·refine WN ?_
   have hlen1:C3 ((pts.length:Int) - 1)=pts.length - 1:=dS (by omega)
   rw [hlen1]at hlt
   have hi1:i+1<pts.length:=by omega
   have hw1:IntKind.i64.wrap ((i:Int)+1)=(i:Int)+1:=dS (by omega)
   obtain ⟨m,hm⟩: ∃m,pts.length - 1 - i=m+1:=⟨pts.length - 1 - i - 1,by omega⟩
   rw [hm,Oe]at hgo
   obtain ⟨p,hp,hgo⟩:=bind_some hgo
   obtain ⟨q,hq,hgo⟩:=bind_some hgo
   obtain ⟨v,hv,hgo⟩:=bind_some hgo
   obtain ⟨d,hd,hgo⟩:=bind_some hgo
   obtain ⟨r,hr,hgo⟩:=bind_some hgo
   obtain ⟨l,hl,hgo⟩:=bind_some hgo
   have hgo:((i:Int),CurvePiece.mk p v r.1 start)::l=L.drop i:=lD hgo
   have hLi:L[i]? =some ((i:Int),CurvePiece.mk p v r.1 start):=by
     have:=congrArg (fun z=>z[0]?) hgo
     simpa using this.symm
   have hLd:L.drop (i+1)=l:=by
     have:=congrArg (fun z=>z.drop 1) hgo
     simpa using this.symm
   have hin: ∀(p:Spot) (n:Int) (j:Nat),n=j→pts[j]? =some p→(List.map Fh pts)[n.toNat]? =some (Fh p):=fun p n j=>oA pts n j p
   refine Tl ?_
   refine QN ?_
   refine Tl<|Xs fun u hu=> ?_
   refine G4 (.d _) W W ?_
   refine G4 (.d _) W W ?_
   refine Ds ?_
   refine Tl<|fM W fun u hu=> ?_
   refine G4 (.d _) W W ?_
   refine G4 (.d _) W W ?_
   refine G4 (.d _) W W ?_
   refine dH _ _ _ _ W W (Int.natCast_nonneg i) (hin p _ i W hp) W ?_
   refine MT _ _ _ _ _ W (hin p _ i W hp) (by simp) W ?_
   refine G4 (.d _) W W ?_
   refine G4 (.d _) W W ?_
   refine G4 (.d _) W W ?_
   refine G4 (.d _) W W ?_
   refine dH _ _ _ _ W W (by rw [hw1];omega) (hin q _ (i+1) (by rw [hw1];rfl) hq) W ?_
   refine MT _ _ _ _ _ W (hin q _ (i+1) (by rw [hw1];rfl) hq) (by simp) W ?_
   refine GS W W (HW p q _ hv) (.inl W) ?_
   refine dG (.ptr _ _) _ W W ?_
   refine YV _ _ _ _ _ W W W (by simp only [Dr,if_true];rfl) (by simp) ?_
   refine Ds ?_
   refine Tl<|Xs fun u' hu'=> ?_
   refine QT _ _ _ _ (.d (.agg [i64 v.x,i64 v.y])) W (by simp only [Dr,if_true];rfl) (by simp [Pb]) W ?_
   refine QT _ _ _ _ (.d (.agg [i64 v.x,i64 v.y])) W (by simp only [Dr,if_true];rfl) (by simp [Pb]) W ?_
   refine GS W W (Pv v v _ hd) (.inl W) ?_
   refine GS W W (HX d _ hr) (.inl W) ?_
   refine G4 (.d _) W W ?_
   refine G4 (.d _) W W ?_
   refine G4 (.d _) W W ?_
   refine G4 (.d _) W W ?_
   refine G4 (.d _) W W ?_
   refine Ds ?_
   refine Tl<|Tl ?_
   refine mR W fun _ _=> ?_
   simp only [List.take,List.drop]
   refine G4 (.yld _) W W ?_
   refine G4 (.d _) W W ?_
   refine G4 (.d _) W W ?_
   refine G4 (.d _) W W ?_
   refine G4 (.d _) W W ?_
   refine dH _ _ _ _ W W (Int.natCast_nonneg i) (hin p _ i W hp) W ?_
   refine MT _ _ _ _ _ W (hin p _ i W hp) (by simp) W ?_
   refine QT _ _ _ _ (.d (.agg [i64 v.x,i64 v.y])) W (by simp only [Dr,if_true];rfl) (by simp [Pb]) W ?_
   refine G4 (.d _) W W ?_
   refine G4 (.d _) W W ?_
   refine G4 (.d _) W W ?_
   refine Ds ?_
   intro u3 hu3
   refine mZ k ((XD ((i:Int),CurvePiece.mk p v r.1 start)).map .d) W W ?_
   refine YCall.weak (fN hu<|fN hu fun _ _ h=>h) ((hy i hh _ (by rw [lJ,hLi];rfl) hinv).mono ?_)
   rintro v' h' (⟨rfl,hin⟩|⟨rfl,hst⟩)
   ·intro u4 hu4
    refine G4 (.d _) W W ?_
    refine Ds ?_
    refine KS (t:=false) W (fun h=>by cases h) (fun _=> ?_)
    refine WN ?_
    refine Xs fun u hu=> ?_
    refine G4 (.d _) W W ?_
    refine G4 (.d _) W W ?_
    refine G4 (.d _) W W ?_
    refine G4 (.d _) W W ?_
    refine Ds ?_
    refine Xs fun u hu=> ?_
    refine G4 (.d _) W W ?_
    refine G4 (.d _) W W ?_
    refine Ds ?_
    refine ⟨(i+1,C3 (start+r.1),h'),⟨hin,by dsimp only;omega,?_⟩,by dsimp only;omega,EX ⟨rfl,rfl,rfl,rfl,?_,trivial⟩ fun _ _ h=>h⟩
    ·dsimp only
     rw [hLd,show pts.length - 1 - (i+1)=m by omega];exact hl
    ·show AV.d (i64 (IntKind.i64.wrap ((i:Int)+1)))=_
     rw [hw1];rfl
   ·intro u4 hu4
    refine G4 (.d _) W W ?_
    refine Ds ?_
    refine KS (t:=true) W (fun _=> ?_) (fun h=>by cases h)
    refine dC ?_
    dsimp only
    exact ⟨Or.inr trivial,AV.tup [],W,Or.inr hst⟩
  ·refine WO ?_
   have hlen1:1≤pts.length→C3 ((pts.length:Int) - 1)=pts.length - 1:=fun _=>dS (by omega)
   have:i=pts.length - 1:=by
     by_cases h:1≤pts.length
     ·rw [hlen1 h]at hlt;omega
     ·omega
   subst this
   rw [Nat.sub_self,Oe]at hgo
   have hL:(L.map XD).length=pts.length - 1:=by
     have h1:L.drop (pts.length - 1)= []:=(lD hgo).symm
     have h2:=List.drop_eq_nil_iff.1 h1
     rw [lR]
     refine Nat.le_antisymm h2 ?_
     exact Nat.le_of_eq (OS _ _ _ _ _ h).symm
   exact ⟨.inl W,_,W, .inl (by rw [hL];exact hinv)⟩
def Ce (x1:(List Int))(a1:(Int×CurvePiece)):Option (Stp (List Int) (List Int)):=
  (Z2 x1 [a1.2.l]).bind fun v3=>some (.go v3)
def Ik (p1:Curve):Option (List Int):=
  (Ij p1).bind fun v1=>cond (v1 !=0) (some []) (((Zv p1.Pts).bind fun v2=>loopL (Ce) (fun (x1:(List Int))=>x1) v2 []).bind fun y1=>some y1)
theorem OT(p1 r)(h:Ik p1=some r):PCall Tryz.prog 261 [(.agg [(.list (List.map Fh p1.Pts))])] (.list (List.map A4 r)):=by
 refine C4 (fk Tryz.func261 Tryz.ntmps261 (fun r=>if r==6 then [1003]else []) (by with_unfolding_all rfl)) (nl W) ?_
 unfold Ik at h
 refine B5 (s0:=⟨T [(0,(.d _))],G []⟩) (F0 W W) ?_
 refine A9<|sm W<|sv W<|A1<|A5<|A9<|sd W (B1 W G_hit W W)<|bs h fun _ hv1 h=>B3 W W A3 (FJ _ _ hv1) (.inl W) (sv W<|A1<|cc W h (fun c1 h=> ?_)<|fun c1 h=> ?_)
 refine A9<|sv W<|A1<|B0 ?_
 cases h
 exact A6 (.inr W) (B6 (B2 W) C2) DLe.nil
 refine A8<|lr<|fun u4 _=>sm W<|A1<|A5<|A9<|sd W (B1 W (gq W) W W)<|B3 W W A3 (ZN p1) (.inl W) (A1<|bs h fun y1 hy1 h=>D8 (fun s=> ∃g1:Nat,Sb ⟨T [(3,(.ptr (3,u4) 0))],G [((3,u4),some<|.box 48 [(oS y1 (17,g1))]),((17,g1),oB 2 1 A4 y1)]⟩ s) ?_ ?_)
 refine A7<|bs hy1 fun v2 hv2 hy1=>B5 (s0:=⟨T [(3,(.ptr _ _)),(10,(.d _))],G [((3,u4),some<|.box 48 _)]⟩) (F0 W W) ?_
 refine nE (.fn (.func 260) [] [(.bp [(.list (List.map Fh p1.Pts))] 0)]) XD v2 (Ce) (fun (x1:(List Int))=>x1) (fun (x1:(List Int)) (g2:Nat)=> [((3,u4),some<|.box 48 [(oS x1 (17,g2))]),((17,g2),oB 2 1 A4 x1)]) [] 0 _ W (ZO hv2) (fun _=>W) hy1 (E0 trivial<|B4 G_hit (.of W)<|W0 trivial) nofun ?_ ?_
 intro u7 hu7 hku7
 refine ⟨fun x1 g2=>(E5 W<|E5 W W),?_⟩
 intro r1 x1 g2 a1 z1 hrr1 hz1 ez1
 unfold Ce at hz1
 show Fu _ _ _ _ _ _ ⟨T [(12,(.d (.agg (ZL a1.2)))),(11,(di a1.1)),(3,(.ptr (3,u4) 0)),(10,(.d (.fn (.func 260) [] [(.bp [(.list (List.map Fh p1.Pts))] 0)])))],G [((1000000,u7),some (.obj (T [(3,(.ptr (3,u4) 0)),(10,(.d (.fn (.func 260) [] [(.bp [(.list (List.map Fh p1.Pts))] 0)])))]) r1)),((3,u4),some (.box 48 [(oS x1 (17,g2))])),((17,g2),oB 2 1 A4 x1)]⟩
 refine C1<|sm W<|Z4 W G_hit (ZM a1.2) W (A1<|Y7<|dN (gq W) ?_)
 refine A7<|Ew fun u9 _=>C0 (oS x1 (17,g2)) W (Q6 W (gq W) W) (sq W<|sl W (gq W) W (C0 (dl A4 [a1.2.l]) W W (bs hz1 fun _ hv3 hz1=>U1 A4 (17,g2) x1 a1.2.l [] _ (L8<|fun _=>W) W (gq W) hv3 (Z4 W (gq W) [(.sl (17,u9))] W (A1<|E4<|E3 ?_)))))
 cases hz1
 exact nF (gq W) u9 (B4 G_hit (.box (.cons (.of (Am<|Bb hv3).symm) .nil))<|O9 (gq W) trivial)
 rintro x1 g2 _ rfl qx1
 refine E4<|Y7 ?_
 exact ⟨g2,(Sb.after qx1<|E0 ⟨.of W,trivial⟩<|B4 G_hit (.of W)<|B9 (gq W) trivial)⟩
 rintro _ ⟨g1,q1⟩
 refine B5 q1<|A9<|C0 (oS y1 (17,g1)) W (Q6 W G_hit W) (C0 (oS y1 (17,g1)) W W (A1<|B0 ?_))
 cases h
 exact A6 (.inr W) (B6 (B2 W)<|Y5<|gq W) Y4
def Z9 (v1:(List Int))(x1:(Int×Int)):Option (Stp (Int×Int) Int):=
  cond (decide (x1.2< (v1.length:Int))) ((B7 v1 x1.2).bind fun v2=>some (.go ((C3 (x1.1+v2)),(C3 (x1.2+1))))) (some (.out x1.1))
def Il (p1:Curve):Option Int:=
  (Ik p1).bind fun v1=>(loop (Z9 v1) (0,0)).bind fun y1=>some y1
theorem OU(p1 r)(h:Il p1=some r):PCall Tryz.prog 242 [(.agg [(.list (List.map Fh p1.Pts))])] (i64 r):=by
 refine C4 (fk Tryz.func242 Tryz.ntmps242 m0 (by with_unfolding_all rfl)) (nl W) ?_
 unfold Il at h
 refine B5 (s0:=⟨T [(0,(.d _))],G []⟩) (F0 W W) ?_
 refine A9<|sm W<|sv W<|A1<|A9<|sv W<|A1<|A5<|A9<|sd W (B1 W G_hit W W)<|bs h fun v1 hv1 h=>B3 W W A3 (OT _ _ hv1) (.inl W) (sd W (D5 W)<|sv W<|A1<|bs h fun y1 hy1 h=>D8 (fun s=> ∃g1:Unit,Sb ⟨T [(3,(di y1))],G []⟩ s) ?_ ?_)
 refine A7<|E2 (Z9 v1) (fun (x1:(Int×Int)) (g2:Unit)=>⟨T [(3,(di x1.1)),(7,(dl A4 v1)),(8,(di (v1.length:Int))),(9,(di x1.2))],G []⟩) (0,0) () _ hy1 (F0 W W) ?_
 intro x1 g2 z1 hz1 ez1
 unfold Z9 at hz1
 refine A9<|sv W<|A1<|A5<|cc W hz1 (fun c1 hz1=> ?_)<|fun c1 hz1=> ?_
 refine A8<|A5<|A7<|A9<|bs hz1 fun _ hv2 hz1=>sd W (C5 W W hv2 W)<|sd W (C7 W hv2 W)<|sv W<|A1<|C1<|sv W<|sv W<|sv W<|sv W<|A1<|E4<|C1<|sv W<|sv W<|A1<|E3 ?_
 cases hz1
 exact ⟨W,(),(F0 W W)⟩
 refine C9 W ?_
 cases hz1
 obtain rfl:=ez1 _ rfl
 refine ⟨nofun,C6 W<|Y7 ?_⟩
 exact ⟨(),(F0 W W)⟩
 rintro _ ⟨g1,q1⟩
 refine B5 q1<|A9<|sv W<|sv W<|A1<|B0 ?_
 cases h
 exact A6 (.inr W) (B6 (B2 W) C2) (.refl _)
def Fo (p1:Map)(p2:Int):Option Int:=
  (B7 p1.Lanes p2).bind fun v1=>(Il v1.Curve_).bind fun v2=>some v2
theorem Uo(p1 p2 r)(h:Fo p1 p2=some r):PCall Tryz.prog 207 [(.agg (S3 p1)),(i64 p2)] (i64 r):=by
 refine C4 (fk Tryz.func207 Tryz.ntmps207 m0 (by with_unfolding_all rfl)) (nl W) ?_
 unfold Fo at h
 refine B5 (s0:=⟨T [(0,(.d _)),(1,(.d _))],G []⟩) (F0 W W) ?_
 refine A9<|sm W<|sv W<|A1<|A9<|sq W<|sl W G_hit W<|sv W<|bs h fun _ hv1 h=>sd W (C5 W W hv1 W)<|sv W<|sd W (D3 W hv1 W W)<|bs h fun _ hv2 h=>B3 W W A3 (OU _ _ hv2) (.inl W) (sv W<|A1<|B0 ?_)
 cases h
 exact A6 (.inr W) (B6 (B2 W) C2) (.refl _)
def U7 (p1:RoadsCheck)(v1:Zone)(x3:Int):Option (Stp Int (Sum Unit Int)):=
  cond (decide (x3< (v1.Parts.length:Int))) ((B7 v1.Parts x3).bind fun v5=>((cond (!((decide (v5.From<0))||(decide (v5.From≥v5.To)))) (Fo p1.Map_ v5.Lane_) (some default))).bind fun v6=>cond (((((decide (v5.From<0))||(decide (v5.From≥v5.To)))||(decide (v5.To>v6)))||(decide (v5.Rank<0)))||(decide (v5.Rank>100))) (some (.out (.inr 2))) (some (.go (C3 (x3+1))))) (some (.out (.inl ())))
def Bd (v1:Zone)(x2:((List Int)×Int)):Option (Stp ((List Int)×Int) (List Int)):=
  cond (decide (x2.2< (v1.Parts.length:Int))) ((B7 v1.Parts x2.2).bind fun v2=>(Z2 x2.1 [v2.Lane_]).bind fun v3=>some (.go (v3,(C3 (x2.2+1))))) (some (.out x2.1))
def U8 (p1:RoadsCheck)(x1:Int):Option (Stp Int (Sum Unit Int)):=
  cond (decide (x1< (p1.Map_.Zones.length:Int))) ((B7 p1.Map_.Zones x1).bind fun v1=>cond (decide ((v1.Parts.length:Int)<2)) (some (.out (.inr 6))) (cond (decide ((v1.Parts.length:Int)>6)) (some (.out (.inr 8))) (cond ((decide (v1.Signal_<0))||(decide (v1.Signal_>(p1.Map_.Signals.length:Int)))) (some (.out (.inr 2))) ((loop (Bd v1) ([],0)).bind fun y2=>(Eg y2 0 (p1.Map_.Lanes.length:Int)).bind fun v4=>cond (!v4) (some (.out (.inr 11))) (thenS (loop (U7 p1 v1) 0) (fun _=>some (.go (C3 (x1+1)))) (fun r=>some (.out (.inr r)))))))) (some (.out (.inl ())))
def Aq (p1:RoadsCheck):Option Int:=
  thenS (loop (U8 p1) 0) (fun _=>some 0) (fun r=>some r)
theorem FL(p1 r)(h:Aq p1=some r):PCall Tryz.prog 152 [(.agg (S3 p1.Map_))] (i64 r):=by
 refine C4 (fk Tryz.func152 Tryz.ntmps152 (fun r=>if r==15 then [1003]else []) (by with_unfolding_all rfl)) (nl W) ?_
 unfold Aq at h
 refine B5 (s0:=⟨T [(0,(.d _))],G []⟩) (F0 W W) ?_
 refine lr<|fun u1 _=>sm W<|sv W<|A1<|A5<|A9<|sq W<|sp W W<|sl W G_hit W<|sd W (D5 W)<|sv W<|A1<|js h fun z1 hz1 h=>D8 (fun s=> ∃(y1:Unit) (g1:Unit),z1= .inl y1∧Sb ⟨T [],G []⟩ s) ?_ ?_
 refine A7<|E2 (U8 p1) (fun (x1:Int) (g2:Unit)=>⟨T [(1,(.ptr (1,u1) 0)),(13,(dl Ka p1.Map_.Zones)),(14,(di (p1.Map_.Zones.length:Int))),(15,(di x1))],G [((1,u1),some<|.box 212 (M7 p1.Map_))]⟩) 0 () _ hz1 (F0 W W) ?_
 intro x1 g2 z2 hz2 ez2
 unfold U8 at hz2
 refine A9<|sv W<|A1<|A5<|cc W hz2 (fun c1 hz2=> ?_)<|fun c1 hz2=> ?_
 refine A8<|A5<|A7<|lr<|fun u4 _=>bs hz2 fun v1 hv1 hz2=>sd W (C5 W W hv1 W)<|sd W (D3 W hv1 W W)<|sm W<|Z4 W G_hit [(dl Dq v1.Parts),(di v1.Signal_)] W (A1<|A5<|A9<|sq W<|sl W G_hit W<|sd W (D5 W)<|sv W<|A1<|A7<|A9<|sv W<|sv W<|sv W<|A1<|cc W hz2 (fun c2 hz2=> ?_)<|fun c2 hz2=> ?_)
 refine A9<|sv W<|A1<|B0 ?_
 cases hz2
 obtain rfl:=ez2 _ rfl
 refine ⟨nofun,F2 ?_⟩
 rw [bY]at h
 cases h
 exact A6 (.inr W) (B6 (B2 W) C2) (.refl _)
 refine A9<|sv W<|sv W<|sv W<|A1<|cc W hz2 (fun c3 hz2=> ?_)<|fun c3 hz2=> ?_
 refine A9<|sv W<|A1<|B0 ?_
 cases hz2
 obtain rfl:=ez2 _ rfl
 refine ⟨nofun,F2 ?_⟩
 rw [bY]at h
 cases h
 exact A6 (.inr W) (B6 (B2 W) C2) (.refl _)
 refine A9<|sq W<|sl W G_hit W<|sv W<|sv W<|gp W (J9 W) (fun _=>W) (gf W (vl W G_hit W)<|gp W (J9 W) (fun _=>W) ?_)
 refine N1 _ (.ptr _ _) W (J9 W) (fun w4=>(by simp only [A2 w4];rfl)) ?_
 refine gf W (vl W (gq W) W)<|gf W (fun w6=>(D5<|A2 w6))<|gf W (fun w7=>(L9 (A2 w7) (A2 w7) W))<|sd W (N7 W W<|fun hc=>A2<|I7 hc)<|sv W<|A1<|cc W hz2 (fun c4 hz2=> ?_)<|fun c4 hz2=> ?_
 refine A9<|sv W<|A1<|B0 ?_
 cases hz2
 obtain rfl:=ez2 _ rfl
 refine ⟨nofun,F2 ?_⟩
 rw [bY]at h
 cases h
 exact A6 (.inr W) (B6 (B2 W) C2) (.refl _)
 refine A8<|E4<|A9<|sv W<|A1<|A5<|A9<|sq W<|sl W G_hit W<|sd W (D5 W)<|sv W<|A1<|bs hz2 fun y2 hy2 hz2=>D8 (fun s=> ∃g3:Nat,Sb ⟨T [(1,(.ptr (1,u1) 0)),(4,(.ptr (4,u4) 0)),(6,(oS y2 (52,g3))),(13,(dl Ka p1.Map_.Zones)),(14,(di (p1.Map_.Zones.length:Int))),(15,(di x1))],G [((1,u1),some<|.box 212 (M7 p1.Map_)),((4,u4),some<|.box 117 [(dl Dq v1.Parts),(di v1.Signal_)]),((52,g3),oB 3 1 A4 y2)]⟩ s) ?_ ?_
 refine A7<|E2 (Bd v1) (fun (x2:((List Int)×Int)) (g4:Nat)=>⟨T [(1,(.ptr (1,u1) 0)),(4,(.ptr (4,u4) 0)),(6,(oS x2.1 (52,g4))),(13,(dl Ka p1.Map_.Zones)),(14,(di (p1.Map_.Zones.length:Int))),(15,(di x1)),(42,(dl Dq v1.Parts)),(43,(di (v1.Parts.length:Int))),(44,(di x2.2))],G [((1,u1),some<|.box 212 (M7 p1.Map_)),((4,u4),some<|.box 117 [(dl Dq v1.Parts),(di v1.Signal_)]),((52,g4),oB 3 1 A4 x2.1)]⟩) ([],0) 0 _ hy2 (E0 (Bv W)<|sg W<|B4 G_hit (.of W)<|W0 trivial) ?_
 intro x2 g4 z3 hz3 ez3
 unfold Bd at hz3
 refine A9<|sv W<|A1<|A5<|cc W hz3 (fun c5 hz3=> ?_)<|fun c5 hz3=> ?_
 refine A8<|A5<|A7<|A9<|bs hz3 fun v2 hv2 hz3=>sd W (C5 W W hv2 W)<|sd W (D3 W hv2 W W)<|sm W<|Z4 W G_hit (Zt v2) W (A1<|Ew fun u16 _=>C0 (oS x2.1 (52,g4)) W W (sq W<|sl W G_hit W<|C0 (dl A4 [v2.Lane_]) W W (bs hz3 fun _ hv3 hz3=>U1 A4 (52,g4) x2.1 v2.Lane_ [] _ (L8<|fun _=>W) W (gq W) hv3 (ss W<|A1<|E4<|C1<|sv W<|sv W<|A1<|E3 ?_))))
 cases hz3
 exact ⟨W,u16,(E0 ⟨.of W, .of W,(.of (Am<|Bb hv3).symm), .of W, .of W, .of W, .of W, .of W, .of W,trivial⟩<|sg W<|sg W<|O9 G_hit trivial)⟩
 refine C9 W ?_
 cases hz3
 obtain rfl:=ez3 _ rfl
 refine ⟨nofun,C6 W<|Y7 ?_⟩
 exact ⟨g4,(E0 (Bv W)<|B4 G_hit (.of W)<|sg W<|B9 (gq W) trivial)⟩
 rintro _ ⟨g3,q1⟩
 refine B5 q1<|A5<|A9<|C0 (oS y2 (52,g3)) W W (sq W<|sp W W<|sl W G_hit W<|sd W (D5 W)<|bs hz2 fun v4 hv4 hz2=>B3 W (F5 (Y5<|gq W)<|rD<|rD G7) (.cons Y4 (.cons (.refl _) A3)) (Vs _ _ _ _ hv4) (.inr W) (C0 (.d (bo (!v4))) W W (A1<|cc W hz2 (fun c6 hz2=> ?_)<|fun c6 hz2=> ?_)))
 refine A9<|sv W<|A1<|B0 ?_
 cases hz2
 obtain rfl:=ez2 _ rfl
 refine ⟨nofun,F2 ?_⟩
 rw [bY]at h
 cases h
 exact A6 (.inr W) (B6 (B2 W) C2) (.refl _)
 refine A8<|A9<|sq W<|sl W (gq W) W (sd W (D5 W)<|sv W<|A1<|js hz2 fun z4 hz4 hz2=>D8 (fun s=> ∃(y3:Unit) (g5:Unit),z4= .inl y3∧Sb ⟨T [(1,(.ptr (1,u1) 0)),(13,(dl Ka p1.Map_.Zones)),(14,(di (p1.Map_.Zones.length:Int))),(15,(di x1))],G [((1,u1),some<|.box 212 (M7 p1.Map_))]⟩ s) ?_ ?_)
 refine A7<|E2 (U7 p1 v1) (fun (x3:Int) (g6:Unit)=>⟨T [(1,(.ptr (1,u1) 0)),(13,(dl Ka p1.Map_.Zones)),(14,(di (p1.Map_.Zones.length:Int))),(15,(di x1)),(62,(dl Dq v1.Parts)),(63,(di (v1.Parts.length:Int))),(64,(di x3))],G [((1,u1),some<|.box 212 (M7 p1.Map_))]⟩) 0 () _ hz4 (F0 W W) ?_
 intro x3 g6 z5 hz5 ez5
 unfold U7 at hz5
 refine A9<|sv W<|A1<|A5<|cc W hz5 (fun c7 hz5=> ?_)<|fun c7 hz5=> ?_
 refine A8<|A5<|A7<|A9<|bs hz5 fun v5 hv5 hz5=>sd W (C5 W W hv5 W)<|sd W (D3 W hv5 W W)<|sm W<|Z4 W G_hit (Zt v5) W (A1<|A5<|F1 W<|sq W<|sl W G_hit W<|sv W<|sv W<|gp W (J9 W) (fun _=>W) (gf W (vl W G_hit W)<|gp W (J9 W) (fun _=>W) (gf W (vl W G_hit W)<|gf W (fun w12=>(L9 (A2 w12) (A2 w12) W))<|sd W (N7 W W<|fun hc=>A2<|I7 hc)<|sv W<|gp W (J9 W) (fun _=>W) (gf W (vl W G_hit W)<|gp W (J9 W) (fun _=>W) (gf W (fun w16=>(B1 (A2 w16) (gq W) W W))<|gp W (J9 W) (fun _=>W) (gf W (vl W G_hit W)<|bs hz5 fun v6 hv6 hz5=> ?_))))))
 refine N2 _ (i64 v6) (J9 W) (fun w19=>⟨_,[(.d (.agg (S3 p1.Map_))),(di v5.Lane_)],_,_,(by simp only [A2 w19];rfl),W,A3,Uo _ _ _<|B8 w19 hv6,(.inl W)⟩) ?_
 refine gf W (fun w20=>(L9 (A2 w20) (A2 w20) W))<|sd W (N7 W W<|fun hc=>A2<|I7 hc)<|sv W<|gp W (J9 W) (fun _=>W) (gf W (vl W G_hit W)<|gf W (vb W W W)<|sd W (N7 W W<|fun hc=>A2<|I7 hc)<|sv W<|gp W (J9 W) (fun _=>W) (gf W (vl W G_hit W)<|gf W (vb W W W)<|sd W (N7 W W<|fun hc=>A2<|I7 hc)<|A1<|cc W hz5 (fun c8 hz5=> ?_)<|fun c8 hz5=> ?_))
 refine A9<|sv W<|A1<|B0 ?_
 cases hz5
 obtain rfl:=ez5 _ rfl
 refine ⟨nofun,F2 ?_⟩
 rw [bY]at hz2
 cases hz2
 obtain rfl:=ez2 _ rfl
 refine ⟨nofun,F2 ?_⟩
 rw [bY]at h
 cases h
 exact A6 (.inr W) (B6 (B2 W) C2) (.refl _)
 refine A8<|E4<|C1<|sv W<|sv W<|A1<|E3 ?_
 cases hz5
 exact ⟨W,(),(F0 W W)⟩
 refine C9 W ?_
 cases hz5
 obtain rfl:=ez5 _ rfl
 refine ⟨nofun,C6 W<|Y7 ?_⟩
 exact ⟨_,(),W,(F0 W W)⟩
 rintro _ ⟨y3,g5,rfl,q2⟩
 rw [bX]at hz2
 refine E4<|B5 q2<|C1<|sv W<|sv W<|A1<|E3 ?_
 cases hz2
 exact ⟨W,(),(F0 W W)⟩
 refine C9 W ?_
 cases hz2
 obtain rfl:=ez2 _ rfl
 refine ⟨nofun,C6 W<|Y7 ?_⟩
 exact ⟨_,(),W,(F0 W W)⟩
 rintro _ ⟨y1,g1,rfl,q3⟩
 rw [bX]at h
 refine B5 q3<|A9<|sv W<|A1<|B0 ?_
 cases h
 exact A6 (.inr W) (B6 (B2 W) C2) (.refl _)
def U9 (p1:RoadsCheck)(x1:Int):Option (Stp Int (Sum Unit Int)):=
  cond (decide (x1< (p1.Map_.Works.length:Int))) ((B7 p1.Map_.Works x1).bind fun v1=>cond ((decide (v1.Lane_<0))||(decide (v1.Lane_≥(p1.Map_.Lanes.length:Int)))) (some (.out (.inr 7))) ((B7 p1.Map_.Lanes v1.Lane_).bind fun v2=>(Cw v2.Kind).bind fun v3=>((cond (!((decide (v1.From<0))||(decide (v1.From>v1.To)))) (Fo p1.Map_ v1.Lane_) (some default))).bind fun v4=>((cond (!((((((decide (v1.From<0))||(decide (v1.From>v1.To)))||(decide (v1.To>v4)))||(decide (v1.Begin<0)))||(decide (v1.Begin≥v1.End)))||(decide (v1.End>1099511627776)))) (Cd v1.Limit 0 v3.1) (some default))).bind fun v5=>cond (((((((decide (v1.From<0))||(decide (v1.From>v1.To)))||(decide (v1.To>v4)))||(decide (v1.Begin<0)))||(decide (v1.Begin≥v1.End)))||(decide (v1.End>1099511627776)))||(!v5)) (some (.out (.inr 2))) (some (.go (C3 (x1+1)))))) (some (.out (.inl ())))
def Ar (p1:RoadsCheck):Option Int:=
  thenS (loop (U9 p1) 0) (fun _=>some 0) (fun r=>some r)
theorem FM(p1 r)(h:Ar p1=some r):PCall Tryz.prog 153 [(.agg (S3 p1.Map_))] (i64 r):=by
 refine C4 (fk Tryz.func153 Tryz.ntmps153 m0 (by with_unfolding_all rfl)) (nl W) ?_
 unfold Ar at h
 refine B5 (s0:=⟨T [(0,(.d _))],G []⟩) (F0 W W) ?_
 refine lr<|fun u1 _=>sm W<|sv W<|A1<|A5<|A9<|sq W<|sp W W<|sl W G_hit W<|sd W (D5 W)<|sv W<|A1<|js h fun z1 hz1 h=>D8 (fun s=> ∃(y1:Unit) (g1:Unit),z1= .inl y1∧Sb ⟨T [],G []⟩ s) ?_ ?_
 refine A7<|E2 (U9 p1) (fun (x1:Int) (g2:Unit)=>⟨T [(1,(.ptr (1,u1) 0)),(10,(dl BN p1.Map_.Works)),(11,(di (p1.Map_.Works.length:Int))),(12,(di x1))],G [((1,u1),some<|.box 212 (M7 p1.Map_))]⟩) 0 () _ hz1 (F0 W W) ?_
 intro x1 g2 z2 hz2 ez2
 unfold U9 at hz2
 refine A9<|sv W<|A1<|A5<|cc W hz2 (fun c1 hz2=> ?_)<|fun c1 hz2=> ?_
 refine A8<|A5<|A7<|A9<|bs hz2 fun v1 hv1 hz2=>sd W (C5 W W hv1 W)<|sd W (D3 W hv1 W W)<|sm W<|Z4 W G_hit (wR v1) W (A1<|A5<|A9<|sq W<|sl W G_hit W<|sv W<|sv W<|gp W (J9 W) (fun _=>W) (gf W (vl W G_hit W)<|gp W (J9 W) (fun _=>W) ?_))
 refine N1 _ (.ptr _ _) W (J9 W) (fun w4=>(by simp only [A2 w4];rfl)) ?_
 refine gf W (vl W (gq W) W)<|gf W (fun w6=>(D5<|A2 w6))<|gf W (fun w7=>(L9 (A2 w7) (A2 w7) W))<|sd W (N7 W W<|fun hc=>A2<|I7 hc)<|A1<|cc W hz2 (fun c2 hz2=> ?_)<|fun c2 hz2=> ?_
 refine A9<|sv W<|A1<|B0 ?_
 cases hz2
 obtain rfl:=ez2 _ rfl
 refine ⟨nofun,F2 ?_⟩
 rw [bY]at h
 cases h
 exact A6 (.inr W) (B6 (B2 W) C2) (.refl _)
 refine A8<|A9<|sq W<|sp W W<|sl W (gq W) W (sq W<|sl W G_hit W<|bs hz2 fun _ hv2 hz2=>sd W (C5 W W hv2 W)<|sv W<|sd W (C7 W hv2 W)<|bs hz2 fun v3 hv3 hz2=>B3 W W A3 (Qj _ _ hv3) (.inl W) (sv W<|sv W<|sv W<|sv W<|sv W<|sv W<|sv W<|A1<|A5<|F1 W<|sq W<|sl W G_hit W<|sv W<|sv W<|gp W (J9 W) (fun _=>W) (gf W (vl W G_hit W)<|gp W (J9 W) (fun _=>W) (gf W (vl W G_hit W)<|gf W (fun w12=>(L9 (A2 w12) (A2 w12) W))<|sd W (N7 W W<|fun hc=>A2<|I7 hc)<|sv W<|gp W (J9 W) (fun _=>W) (gf W (vl W G_hit W)<|gp W (J9 W) (fun _=>W) (gf W (fun w16=>(B1 (A2 w16) (gq W) W W))<|gp W (J9 W) (fun _=>W) (gf W (vl W G_hit W)<|bs hz2 fun v4 hv4 hz2=> ?_)))))))
 refine N2 _ (i64 v4) (J9 W) (fun w19=>⟨_,[(.d (.agg (S3 p1.Map_))),(di v1.Lane_)],_,_,(by simp only [A2 w19];rfl),W,A3,Uo _ _ _<|B8 w19 hv4,(.inl W)⟩) ?_
 refine gf W (fun w20=>(L9 (A2 w20) (A2 w20) W))<|sd W (N7 W W<|fun hc=>A2<|I7 hc)<|sv W<|gp W (J9 W) (fun _=>W) (gf W (vl W G_hit W)<|gf W (vb W W W)<|sd W (N7 W W<|fun hc=>A2<|I7 hc)<|sv W<|gp W (J9 W) (fun _=>W) (gf W (vl W G_hit W)<|gp W (J9 W) (fun _=>W) (gf W (vl W G_hit W)<|gf W (fun w28=>(L9 (A2 w28) (A2 w28) W))<|sd W (N7 W W<|fun hc=>A2<|I7 hc)<|sv W<|gp W (J9 W) (fun _=>W) (gf W (vl W G_hit W)<|gf W (vb W W W)<|sd W (N7 W W<|fun hc=>A2<|I7 hc)<|sv W<|gp W (J9 W) (fun _=>W) (gf W (vl W G_hit W)<|gf W (fun _=>W)<|bs hz2 fun v5 hv5 hz2=> ?_)))))
 refine N2 _ (bo v5) (J9 W) (fun w35=>⟨_,[(di v1.Limit),(di 0),(di v3.1)],_,_,(by simp only [A2 w35];rfl),W,A3,Hz _ _ _ _<|B8 w35 hv5,(.inl W)⟩) ?_
 refine N1 _ (.d (bo (!v5))) W (J9 W) (fun w36=>(by simp only [A2 w36];rfl)) ?_
 refine sd W (N7 W W<|fun hc=>A2<|I7 hc)<|A1<|cc W hz2 (fun c3 hz2=> ?_)<|fun c3 hz2=> ?_
 refine A9<|sv W<|A1<|B0 ?_
 cases hz2
 obtain rfl:=ez2 _ rfl
 refine ⟨nofun,F2 ?_⟩
 rw [bY]at h
 cases h
 exact A6 (.inr W) (B6 (B2 W) C2) (.refl _)
 refine A8<|E4<|C1<|sv W<|sv W<|A1<|E3 ?_
 cases hz2
 exact ⟨W,(),(F0 W W)⟩
 refine C9 W ?_
 cases hz2
 obtain rfl:=ez2 _ rfl
 refine ⟨nofun,C6 W<|Y7 ?_⟩
 exact ⟨_,(),W,(F0 W W)⟩
 rintro _ ⟨y1,g1,rfl,q1⟩
 rw [bX]at h
 refine B5 q1<|A9<|sv W<|A1<|B0 ?_
 cases h
 exact A6 (.inr W) (B6 (B2 W) C2) (.refl _)
def X7 (v:Nat)(p1:RoadsCheck):Option Int:=
  cond (Nat.beq v 148) (W9 p1) (cond (Nat.beq v 149) (Ap p1) (cond (Nat.beq v 150) (Z5 p1) (cond (Nat.beq v 151) (X0 p1) (cond (Nat.beq v 152) (Aq p1) (cond (Nat.beq v 153) (Ar p1) (none))))))
theorem Vb(v p1 r)(h:X7 v p1=some r):PCall Tryz.prog v [(.agg [(i64 p1.Map_.Version),(.list (List.map Jz p1.Map_.Lanes)),(.list (List.map Ka p1.Map_.Zones)),(.list (List.map Sg p1.Map_.Signals)),(.list (List.map BN p1.Map_.Works))])] (i64 r):=by
  unfold X7 at h
  rcases ND h with ⟨rfl,h⟩|⟨_,h⟩
  ·exact CK _ r h
  rcases ND h with ⟨rfl,h⟩|⟨_,h⟩
  ·exact FK _ r h
  rcases ND h with ⟨rfl,h⟩|⟨_,h⟩
  ·exact EC _ r h
  rcases ND h with ⟨rfl,h⟩|⟨_,h⟩
  ·exact CL _ r h
  rcases ND h with ⟨rfl,h⟩|⟨_,h⟩
  ·exact FL _ r h
  rcases ND h with ⟨rfl,h⟩|⟨_,h⟩
  ·exact FM _ r h
  cases h
def Q7 (p1:Map)(x1:Int):Option (Stp Int (Sum Unit Int)):=
  cond (decide (x1< ([148,149,150,151,152,153].length:Int))) ((B7 [148,149,150,151,152,153] x1).bind fun v1=>(X7 v1 (RoadsCheck.mk p1)).bind fun v2=>cond (v2 !=0) (some (.out (.inr v2))) (some (.go (C3 (x1+1))))) (some (.out (.inl ())))
def Gc (p1:Map):Option Int:=
  thenS (loop (Q7 p1) 0) (fun _=>some 0) (fun r=>some r)
theorem Xw(p1 r)(h:Gc p1=some r):PCall Tryz.prog 71 [(.agg (S3 p1))] (i64 r):=by
 refine C4 (fk Tryz.func71 Tryz.ntmps71 (fun r=>if r==1 then [1000]else []) (by with_unfolding_all rfl)) (nl W) ?_
 unfold Gc at h
 refine B5 (s0:=⟨T [(0,(.d _))],G []⟩) (F0 W W) ?_
 refine lr<|fun u1 _=>sm W<|sv W<|A1<|A5<|A9<|C0 (dl yF [148,149,150,151,152,153]) W W (sd W (D5 W)<|sv W<|A1<|js h fun z1 hz1 h=>D8 (fun s=> ∃(y1:Unit) (g1:Unit),z1= .inl y1∧Sb ⟨T [],G []⟩ s) ?_ ?_)
 refine A7<|E2 (Q7 p1) (fun (x1:Int) (g2:Unit)=>⟨T [(1,(.ptr (1,u1) 0)),(6,(dl yF [148,149,150,151,152,153])),(7,(di ([148,149,150,151,152,153].length:Int))),(8,(di x1))],G [((1,u1),some<|.box 33 (M7 p1))]⟩) 0 () _ hz1 (F0 W W) ?_
 intro x1 g2 z2 hz2 ez2
 unfold Q7 at hz2
 refine A9<|sv W<|A1<|A5<|cc W hz2 (fun c1 hz2=> ?_)<|fun c1 hz2=> ?_
 refine A8<|A5<|A7<|A9<|bs hz2 fun _ hv1 hz2=>sd W (C5 W W hv1 W)<|sd W (C7 W hv1 W)<|sv W<|A1<|A9<|sv W<|sd W (B1 W G_hit W W)<|sv W<|bs hz2 fun _ hv2 hz2=>B3 W W A3 (Vb _ _ _ hv2) (.inl W) (sv W<|A1<|A9<|sv W<|sv W<|A1<|cc W hz2 (fun c2 hz2=> ?_)<|fun c2 hz2=> ?_)
 refine A9<|sv W<|sv W<|A1<|B0 ?_
 cases hz2
 obtain rfl:=ez2 _ rfl
 refine ⟨nofun,F2 ?_⟩
 rw [bY]at h
 cases h
 exact A6 (.inr W) (B6 (B2 W) C2) (.refl _)
 refine A8<|E4<|C1<|sv W<|sv W<|A1<|E3 ?_
 cases hz2
 exact ⟨W,(),(F0 W W)⟩
 refine C9 W ?_
 cases hz2
 obtain rfl:=ez2 _ rfl
 refine ⟨nofun,C6 W<|Y7 ?_⟩
 exact ⟨_,(),W,(F0 W W)⟩
 rintro _ ⟨y1,g1,rfl,q1⟩
 rw [bX]at h
 refine B5 q1<|A9<|sv W<|A1<|B0 ?_
 cases h
 exact A6 (.inr W) (B6 (B2 W) C2) (.refl _)
def O4 (p1:(List Int))(p2:Int)(x1:Int):Option (Stp Int (Sum Unit Int)):=
  cond (decide (x1< (p1.length:Int))) ((B7 p1 x1).bind fun v1=>cond (p2==v1) (some (.out (.inr x1))) (some (.go (C3 (x1+1))))) (some (.out (.inl ())))
def V0 (p1:(List Int))(p2:Int):Option Int:=
  thenS (loop (O4 p1 p2) 0) (fun _=>some (-1)) (fun r=>some r)
theorem Rk(p1 p2 r)(h:V0 p1 p2=some r):PCall Tryz.prog 244 [(.list (List.map A4 p1)),(i64 p2)] (i64 r):=by
 refine C4 (fk Tryz.func244 Tryz.ntmps244 m0 (by with_unfolding_all rfl)) (nl W) ?_
 unfold V0 at h
 refine B5 (s0:=⟨T [(0,(.d _)),(1,(.d _))],G []⟩) (F0 W W) ?_
 refine A9<|sv W<|A1<|A5<|A9<|sv W<|sd W (D5 W)<|sv W<|A1<|js h fun z1 hz1 h=>D8 (fun s=> ∃(y1:Unit) (g1:Unit),z1= .inl y1∧Sb ⟨T [],G []⟩ s) ?_ ?_
 refine A7<|E2 (O4 p1 p2) (fun (x1:Int) (g2:Unit)=>⟨T [(0,(dl A4 p1)),(1,(di p2)),(7,(di (p1.length:Int))),(8,(di x1))],G []⟩) 0 () _ hz1 (F0 W W) ?_
 intro x1 g2 z2 hz2 ez2
 unfold O4 at hz2
 refine A9<|sv W<|A1<|A5<|cc W hz2 (fun c1 hz2=> ?_)<|fun c1 hz2=> ?_
 refine A8<|A5<|A7<|A9<|sv W<|sv W<|A1<|A9<|sv W<|sv W<|sv W<|bs hz2 fun _ hv1 hz2=>sd W (C5 W W hv1 W)<|sd W (C7 W hv1 W)<|sv W<|A1<|cc W hz2 (fun c2 hz2=> ?_)<|fun c2 hz2=> ?_
 refine A9<|sv W<|sv W<|A1<|B0 ?_
 cases hz2
 obtain rfl:=ez2 _ rfl
 refine ⟨nofun,F2 ?_⟩
 rw [bY]at h
 cases h
 exact A6 (.inr W) (B6 (B2 W) C2) (.refl _)
 refine A8<|E4<|C1<|sv W<|sv W<|A1<|E3 ?_
 cases hz2
 exact ⟨W,(),(F0 W W)⟩
 refine C9 W ?_
 cases hz2
 obtain rfl:=ez2 _ rfl
 refine ⟨nofun,C6 W<|Y7 ?_⟩
 exact ⟨_,(),W,(F0 W W)⟩
 rintro _ ⟨y1,g1,rfl,q1⟩
 rw [bX]at h
 refine B5 q1<|A9<|sv W<|A1<|B0 ?_
 cases h
 exact A6 (.inr W) (B6 (B2 W) C2) (.refl _)
def O5 (p1:(List Int))(p2:Int):Option Bool:=
  (V0 p1 p2).bind fun v1=>some (decide (v1≥0))
theorem Gx(p1 p2 r)(h:O5 p1 p2=some r):PCall Tryz.prog 215 [(.list (List.map A4 p1)),(i64 p2)] (bo r):=by
 refine C4 (fk Tryz.func215 Tryz.ntmps215 m0 (by with_unfolding_all rfl)) (nl W) ?_
 unfold O5 at h
 refine B5 (s0:=⟨T [(0,(.d _)),(1,(.d _))],G []⟩) (F0 W W) ?_
 refine A9<|sv W<|A1<|A9<|sv W<|sv W<|bs h fun _ hv1 h=>B3 W W A3 (Rk _ _ _ hv1) (.inl W) (sv W<|sv W<|A1<|B0 ?_)
 cases h
 exact A6 (.inr W) (B6 (B2 W) C2) (.refl _)
def Dh (p1:Map)(p2:Int)(x1:((List Int)×Int)):Option (Stp ((List Int)×Int) (List Int)):=
  cond (decide (x1.2< (p1.Lanes.length:Int))) ((B7 p1.Lanes x1.2).bind fun v1=>(O5 v1.Next p2).bind fun v2=>cond v2 ((Z2 x1.1 [x1.2]).bind fun v3=>some (.go (v3,(C3 (x1.2+1))))) (some (.go (x1.1,(C3 (x1.2+1)))))) (some (.out x1.1))
def Im (p1:Map)(p2:Int):Option (List Int):=
  (loop (Dh p1 p2) ([],0)).bind fun y1=>some y1
theorem OV(p1 p2 r)(h:Im p1 p2=some r):PCall Tryz.prog 214 [(.agg (S3 p1)),(i64 p2)] (.list (List.map A4 r)):=by
 refine C4 (fk Tryz.func214 Tryz.ntmps214 (fun r=>if r==6 then [1002]else []) (by with_unfolding_all rfl)) (nl W) ?_
 unfold Im at h
 refine B5 (s0:=⟨T [(0,(.d _)),(1,(.d _))],G []⟩) (F0 W W) ?_
 refine A9<|sm W<|sv W<|A1<|A9<|sv W<|A1<|A5<|A9<|sq W<|sl W G_hit W<|sd W (D5 W)<|sv W<|A1<|bs h fun y1 hy1 h=>D8 (fun s=> ∃g1:Nat,Sb ⟨T [(5,(oS y1 (23,g1)))],G [((23,g1),oB 3 1 A4 y1)]⟩ s) ?_ ?_
 refine A7<|E2 (Dh p1 p2) (fun (x1:((List Int)×Int)) (g2:Nat)=>⟨T [(1,(di p2)),(5,(oS x1.1 (23,g2))),(9,(dl Jz p1.Lanes)),(10,(di (p1.Lanes.length:Int))),(11,(di x1.2))],G [((23,g2),oB 3 1 A4 x1.1)]⟩) ([],0) 0 _ hy1 (E0 (Bv W)<|W0 trivial) ?_
 intro x1 g2 z1 hz1 ez1
 unfold Dh at hz1
 refine A9<|sv W<|A1<|A5<|cc W hz1 (fun c1 hz1=> ?_)<|fun c1 hz1=> ?_
 refine A8<|A5<|A7<|A9<|sv W<|bs hz1 fun v1 hv1 hz1=>sd W (C5 W W hv1 W)<|sd W (D3 W hv1 W W)<|sm W<|sv W<|Z4 W G_hit (LJ v1) W (A1<|A9<|sq W<|sl W G_hit W<|sv W<|bs hz1 fun _ hv2 hz1=>B3 W W A3 (Gx _ _ _ hv2) (.inl W) (A1<|cc W hz1 (fun c2 hz1=> ?_)<|fun c2 hz1=> ?_))
 refine Ew fun u7 _=>C0 (oS x1.1 (23,g2)) W W (sv W<|C0 (dl A4 [x1.2]) W W (bs hz1 fun _ hv3 hz1=>U1 A4 (23,g2) x1.1 x1.2 [] _ (L8<|fun _=>W) W (gq W) hv3 (ss W<|A1<|E4<|C1<|sv W<|sv W<|A1<|E3 ?_)))
 cases hz1
 exact ⟨W,u7,(E0 ⟨.of W,(.of (Am<|Bb hv3).symm), .of W, .of W, .of W,trivial⟩<|O9 G_hit trivial)⟩
 refine A8<|E4<|C1<|sv W<|sv W<|A1<|E3 ?_
 cases hz1
 exact ⟨W,g2,(E0 (Bv W)<|B9 (gq W) trivial)⟩
 refine C9 W ?_
 cases hz1
 obtain rfl:=ez1 _ rfl
 refine ⟨nofun,C6 W<|Y7 ?_⟩
 exact ⟨g2,(E0 ⟨.of W,trivial⟩<|B9 G_hit trivial)⟩
 rintro _ ⟨g1,q1⟩
 refine B5 q1<|A9<|C0 (oS y1 (23,g1)) W W (C0 (oS y1 (23,g1)) W W (A1<|B0 ?_))
 cases h
 exact A6 (.inr W) (B6 (B2 W)<|Y5 G_hit) Y4
def T3 (p1:Map)(v7:List Int)(x1:(Int×Int)):Option (Stp (Int×Int) (Sum Unit Int)):=
  cond (decide (x1.2< (v7.length:Int))) ((B7 v7 x1.2).bind fun v8=>(B7 p1.Lanes x1.1).bind fun v9=>(O5 v9.Next v8).bind fun v10=>cond (!v10) (some (.out (.inr 13))) (some (.go (v8,(C3 (x1.2+1)))))) (some (.out (.inl ())))
def Bk (p1:Map)(p2:(List Int)):Option Int:=
  (Gc p1).bind fun v1=>cond (v1 !=0) (some v1) (((cond (!(((p2.length:Int)==0)||(decide ((p2.length:Int)>8)))) (B7 p2 0) (some default))).bind fun v2=>((cond (!((((p2.length:Int)==0)||(decide ((p2.length:Int)>8)))||(decide (v2<0)))) (B7 p2 0) (some default))).bind fun v3=>((cond (!(((((p2.length:Int)==0)||(decide ((p2.length:Int)>8)))||(decide (v2<0)))||(decide (v3≥(p1.Lanes.length:Int))))) (B7 p2 0) (some default))).bind fun v4=>((cond (!(((((p2.length:Int)==0)||(decide ((p2.length:Int)>8)))||(decide (v2<0)))||(decide (v3≥(p1.Lanes.length:Int))))) (Im p1 v4) (some default))).bind fun v5=>cond ((((((p2.length:Int)==0)||(decide ((p2.length:Int)>8)))||(decide (v2<0)))||(decide (v3≥(p1.Lanes.length:Int))))||(decide ((v5.length:Int)>0))) (some 13) ((B7 p2 0).bind fun v6=>(EZ p2 1 (p2.length:Int)).bind fun v7=>thenS (loop (T3 p1 v7) (v6,0)) (fun _=>some 0) (fun r=>some r)))
theorem Wr(p1 p2 r)(h:Bk p1 p2=some r):PCall Tryz.prog 154 [(.agg (S3 p1)),(.list (List.map A4 p2))] (i64 r):=by
 refine C4 (fk Tryz.func154 Tryz.ntmps154 m0 (by with_unfolding_all rfl)) (nl W) ?_
 unfold Bk at h
 refine B5 (s0:=⟨T [(0,(.d _)),(1,(.d _))],G []⟩) (F0 W W) ?_
 refine lr<|fun u1 _=>sm W<|sv W<|A1<|A5<|A9<|sd W (B1 W G_hit W W)<|bs h fun _ hv1 h=>B3 W W A3 (Xw _ _ hv1) (.inl W) (sv W<|A1<|A9<|sv W<|sv W<|A1<|cc W h (fun c1 h=> ?_)<|fun c1 h=> ?_)
 refine A9<|sv W<|sv W<|A1<|B0 ?_
 cases h
 exact A6 (.inr W) (B6 (B2 W) C2) (.refl _)
 refine A8<|A5<|A5<|F1 W<|sv W<|sd W (D5 W)<|sv W<|sv W<|gf W (fun _=>W)<|gf W (fun w2=>(D5<|A2 w2))<|gf W (vb W W W)<|sd W (N7 W W<|fun hc=>A2<|I7 hc)<|sv W<|gf W (fun _=>W)<|bs h fun _ hv2 h=>gf W (fun w5=>(C5 (A2 w5) W (B8 w5 hv2) W))<|gf W (fun w6=>(C7 (A2 w6) (B8 w6 hv2) W))<|gf W (vb W W W)<|sd W (N7 W W<|fun hc=>A2<|I7 hc)<|sv W<|gf W (fun _=>W)<|bs h fun _ hv3 h=>gf W (fun w9=>(C5 (A2 w9) W (B8 w9 hv3) W))<|gf W (fun w10=>(C7 (A2 w10) (B8 w10 hv3) W))<|gp W (J9 W) (fun _=>W) (gf W (vl W G_hit W)<|gf W (fun w13=>(D5<|A2 w13))<|gf W (fun w14=>(L9 (A2 w14) (A2 w14) W))<|sd W (N7 W W<|fun hc=>A2<|I7 hc)<|sv W<|gf W (fun _=>(B1 W G_hit W W))<|gf W (fun _=>W)<|bs h fun v4 hv4 h=>gf W (fun w17=>(C5 (A2 w17) W (B8 w17 hv4) W))<|gf W (fun w18=>(C7 (A2 w18) (B8 w18 hv4) W))<|bs h fun v5 hv5 h=> ?_)
 refine N2 _ (.list (List.map A4 v5)) (J9 W) (fun w19=>⟨_,[(.d (.agg (S3 p1))),(di v4)],_,_,(by simp only [A2 w19];rfl),W,A3,OV _ _ _<|B8 w19 hv5,(.inl W)⟩) ?_
 refine gf W (fun w20=>(D5<|A2 w20))<|gf W (vb W W W)<|sd W (N7 W W<|fun hc=>A2<|I7 hc)<|A1<|cc W h (fun c2 h=> ?_)<|fun c2 h=> ?_
 refine A9<|sv W<|A1<|B0 ?_
 cases h
 exact A6 (.inr W) (B6 (B2 W) C2) (.refl _)
 refine A8<|A9<|sv W<|bs h fun v6 hv6 h=>sd W (C5 W W hv6 W)<|sd W (C7 W hv6 W)<|sv W<|A1<|A5<|A9<|sv W<|bs h fun v7 hv7 h=>sd W (nG W (fun _=>W) (uG W) nH hv7)<|sd W (D5 W)<|sv W<|A1<|js h fun z1 hz1 h=>D8 (fun s=> ∃(y1:Unit) (g1:Unit),z1= .inl y1∧Sb ⟨T [],G []⟩ s) ?_ ?_
 refine A7<|E2 (T3 p1 v7) (fun (x1:(Int×Int)) (g2:Unit)=>⟨T [(2,(.ptr (2,u1) 0)),(6,(di x1.1)),(50,(dl A4 v7)),(51,(di (v7.length:Int))),(52,(di x1.2))],G [((2,u1),some<|.box 33 (M7 p1))]⟩) (v6,0) () _ hz1 (F0 W W) ?_
 intro x1 g2 z2 hz2 ez2
 unfold T3 at hz2
 refine A9<|sv W<|A1<|A5<|cc W hz2 (fun c3 hz2=> ?_)<|fun c3 hz2=> ?_
 refine A8<|A5<|A7<|A9<|bs hz2 fun _ hv8 hz2=>sd W (C5 W W hv8 W)<|sd W (C7 W hv8 W)<|sv W<|A1<|A5<|A9<|sq W<|sl W G_hit W<|sv W<|bs hz2 fun _ hv9 hz2=>sd W (C5 W W hv9 W)<|sv W<|sd W (C7 W hv9 W)<|sv W<|bs hz2 fun v10 hv10 hz2=>B3 W W A3 (Gx _ _ _ hv10) (.inl W) (C0 (.d (bo (!v10))) W W (A1<|cc W hz2 (fun c4 hz2=> ?_)<|fun c4 hz2=> ?_))
 refine A9<|sv W<|A1<|B0 ?_
 cases hz2
 obtain rfl:=ez2 _ rfl
 refine ⟨nofun,F2 ?_⟩
 rw [bY]at h
 cases h
 exact A6 (.inr W) (B6 (B2 W) C2) (.refl _)
 refine A8<|C1<|sv W<|sv W<|A1<|E4<|C1<|sv W<|sv W<|A1<|E3 ?_
 cases hz2
 exact ⟨W,(),(F0 W W)⟩
 refine C9 W ?_
 cases hz2
 obtain rfl:=ez2 _ rfl
 refine ⟨nofun,C6 W<|Y7 ?_⟩
 exact ⟨_,(),W,(F0 W W)⟩
 rintro _ ⟨y1,g1,rfl,q1⟩
 rw [bX]at h
 refine B5 q1<|A9<|sv W<|A1<|B0 ?_
 cases h
 exact A6 (.inr W) (B6 (B2 W) C2) (.refl _)
def Bi (p1:Map)(p2:(List Int))(x1:(Int× ((List Int)×Int))):Option (Stp (Int× ((List Int)×Int)) ((List Int)×Int)):=
  cond (decide (x1.1< (p2.length:Int))) ((B7 p2 x1.1).bind fun v2=>(Z2 x1.2.1 [x1.2.2]).bind fun v3=>(Fo p1 v2).bind fun v4=>some (.go ((C3 (x1.1+1)),(v3,(C3 (x1.2.2+v4)))))) (some (.out x1.2))
def Cx (p1:Map)(p2:(List Int)):Option RoadsWay:=
  (Bk p1 p2).bind fun v1=>cond (v1 !=0) (some (RoadsWay.mk (Map.mk 0 [] [] [] []) [] [] 0)) ((loop (Bi p1 p2) (0,([],0))).bind fun y1=>some (RoadsWay.mk p1 p2 y1.1 y1.2))
theorem Qk(p1 p2 r)(h:Cx p1 p2=some r):PCall Tryz.prog 205 [(.agg (S3 p1)),(.list (List.map A4 p2))] (.agg (iN r)):=by
 refine C4 (fk Tryz.func205 Tryz.ntmps205 (fun r=>if r==7 then [1004]else []) (by with_unfolding_all rfl)) (nl W) ?_
 unfold Cx at h
 refine B5 (s0:=⟨T [(0,(.d _)),(1,(.d _))],G []⟩) (F0 W W) ?_
 refine lr<|fun u1 _=>sm W<|sm W<|A1<|A5<|A9<|sd W (B1 W (gq W) W W)<|sv W<|bs h fun _ hv1 h=>B3 W W A3 (Wr _ _ _ hv1) (.inl W) (sv W<|A1<|cc W h (fun c1 h=> ?_)<|fun c1 h=> ?_)
 refine A9<|sv W<|Z4 W G_hit [(di 0),(.d .nilS),(.d .nilS),(.d .nilS),(.d .nilS),(.d .nilS),(.d .nilS),(di 0)] W (A1<|B0 ?_)
 cases h
 exact A6 (.inr W) (B6 (K3 W G_hit (nl W) W) C2) (.agg (ca W<|.cons ⟨DLe.nil,W⟩ (.cons ⟨DLe.nil,W⟩ (.cons ⟨DLe.nil,W⟩ (.cons ⟨DLe.nil,W⟩ (.cons ⟨DLe.nil,W⟩ (.cons ⟨DLe.nil,W⟩ (cz W))))))))
 refine A8<|lr<|fun u4 _=>sd W (B1 W (gq W) W W)<|sv W<|sv W<|sm W<|Z4 W G_hit ((M7 p1)++ [(dl A4 p2),(.d .nilS),(di 0)]) W (A1<|A5<|A9<|sv W<|sd W (D5 W)<|sv W<|A1<|bs h fun y1 hy1 h=>D8 (fun s=> ∃g1:Nat,Sb ⟨T [(4,(.ptr (4,u1) 0)),(5,(.ptr (5,u4) 0))],G [((4,u1),some<|.box 260 [(di 0),(.d .nilS),(.d .nilS),(.d .nilS),(.d .nilS),(.d .nilS),(.d .nilS),(di 0)]),((5,u4),some<|.box 260 ((M7 p1)++ [(dl A4 p2),(oS y1.1 (27,g1)),(di y1.2)])),((27,g1),oB 2 1 A4 y1.1)]⟩ s) ?_ ?_)
 refine A7<|E2 (Bi p1 p2) (fun (x1:(Int× ((List Int)×Int))) (g2:Nat)=>⟨T [(2,(.ptr (2,u1) 0)),(4,(.ptr (4,u1) 0)),(5,(.ptr (5,u4) 0)),(16,(dl A4 p2)),(17,(di (p2.length:Int))),(18,(di x1.1))],G [((2,u1),some<|.box 33 (M7 p1)),((4,u1),some<|.box 260 [(di 0),(.d .nilS),(.d .nilS),(.d .nilS),(.d .nilS),(.d .nilS),(.d .nilS),(di 0)]),((5,u4),some<|.box 260 ((M7 p1)++ [(dl A4 p2),(oS x1.2.1 (27,g2)),(di x1.2.2)])),((27,g2),oB 2 1 A4 x1.2.1)]⟩) (0,([],0)) 0 _ hy1 (E0 (Bv W)<|sg W<|sg W<|B4 G_hit (.of W)<|W0 trivial) ?_
 intro x1 g2 z1 hz1 ez1
 unfold Bi at hz1
 refine A9<|sv W<|A1<|A5<|cc W hz1 (fun c2 hz1=> ?_)<|fun c2 hz1=> ?_
 refine A8<|A5<|A7<|A9<|bs hz1 fun _ hv2 hz1=>sd W (C5 W W hv2 W)<|sd W (C7 W hv2 W)<|sv W<|A1<|lr<|fun u8 _=>sq W<|C0 (oS x1.2.1 (27,g2)) W (Q6 W (gq W) W) (sq W<|sl W (gq W) W (C0 (dl A4 [x1.2.2]) W W (bs hz1 fun _ hv3 hz1=>U1 A4 (27,g2) x1.2.1 x1.2.2 [] _ (L8<|fun _=>W) W (gq W) hv3 (sq W<|Z4 W (gq W) ((M7 p1)++ [(dl A4 p2),(.sl (27,u8)),(di x1.2.2)]) W (A1<|F1 W<|sq W<|sl W G_hit W<|sd W (B1 W (gq W) W W)<|sv W<|bs hz1 fun v4 hv4 hz1=>B3 W W A3 (Uo _ _ _ hv4) (.inl W) (sv W<|sq W<|Z4 W G_hit ((M7 p1)++ [(dl A4 p2),(.sl (27,u8)),(di<|C3 (x1.2.2+v4))]) W (A1<|E4<|C1<|sv W<|sv W<|A1<|E3 ?_)))))))
 cases hz1
 exact ⟨W,u8,(E0 (Bv W)<|sg W<|sg W<|B4 G_hit (.box (cv<|cv<|cv<|cv<|cv<|cv<|.cons (.of (Am<|Bb hv3).symm) cw))<|O9 (gq W) trivial)⟩
 refine C9 W ?_
 cases hz1
 obtain rfl:=ez1 _ rfl
 refine ⟨nofun,C6 W<|Y7 ?_⟩
 exact ⟨g2,(E0 (Bv W)<|sg W<|sg W<|B9 (gq W) trivial)⟩
 rintro _ ⟨g1,q1⟩
 refine B5 q1<|A9<|C0 (Bo ((M7 p1)++ [(dl A4 p2),(oS y1.1 (27,g1)),(di y1.2)])) W (B1 W (gq W) W W) (Ig _ _ _ _ _ (W8 _) W W G_hit (nl W) ((M7 p1)++ [(dl A4 p2),(oS y1.1 (27,g1)),(di y1.2)]) W (A1<|B0 ?_))
 cases h
 exact A6 (.inr W) (B6 (K3 W G_hit (nl W) W)<|Sa<|rD<|rD<|rD<|rD<|rD<|rD<|F5 (Y5<|gq W)<|rD G7) (.agg (ca W<|ca W<|ca W<|ca W<|ca W<|ca W<|.cons ⟨Y4,W⟩ (cz W)))
def As (p1:Map)(p2:(List Int)):Option Int:=
  (Cx p1 p2).bind fun v1=>some v1.length
theorem Vc(p1 p2 r)(h:As p1 p2=some r):PCall Tryz.prog 155 [(.agg (S3 p1)),(.list (List.map A4 p2))] (i64 r):=by
 refine C4 (fk Tryz.func155 Tryz.ntmps155 m0 (by with_unfolding_all rfl)) (nl W) ?_
 unfold As at h
 refine B5 (s0:=⟨T [(0,(.d _)),(1,(.d _))],G []⟩) (F0 W W) ?_
 refine A9<|sm W<|sv W<|A1<|A9<|sd W (B1 W G_hit W W)<|sv W<|bs h fun _ hv1 h=>B3 W W A3 (Qk _ _ _ hv1) (.inl W) (sv W<|sv W<|A1<|B0 ?_)
 cases h
 exact A6 (.inr W) (B6 (B2 W) C2) (.refl _)
def Ei (p1:Map)(p2:(List Int)):Option (List Int):=
  (Cx p1 p2).bind fun v1=>some v1.starts
theorem Vt(p1 p2 r)(h:Ei p1 p2=some r):PCall Tryz.prog 139 [(.agg (S3 p1)),(.list (List.map A4 p2))] (.list (List.map A4 r)):=by
 refine C4 (fk Tryz.func139 Tryz.ntmps139 m0 (by with_unfolding_all rfl)) (nl W) ?_
 unfold Ei at h
 refine B5 (s0:=⟨T [(0,(.d _)),(1,(.d _))],G []⟩) (F0 W W) ?_
 refine A9<|sm W<|sv W<|A1<|A9<|sd W (B1 W G_hit W W)<|sv W<|bs h fun _ hv1 h=>B3 W W A3 (Qk _ _ _ hv1) (.inl W) (sv W<|sv W<|A1<|B0 ?_)
 cases h
 exact A6 (.inr W) (B6 (B2 W) C2) (.refl _)
def Ej (p2:Agent)(v1:(List Int))(x1:Int):Option (Stp Int Int):=
  (B7 v1 x1).bind fun v2=>cond (decide (v2>p2.S)) (some (.go (C3 (x1 - 1)))) (some (.out x1))
def Lx (p1:Map)(p2:Agent):Option (Int×Int):=
  (Ei p1 p2.Route).bind fun v1=>(loop (Ej p2 v1) (C3 ((v1.length:Int) - 1))).bind fun y1=>(B7 p2.Route y1).bind fun v3=>(B7 v1 y1).bind fun v4=>some (v3,(C3 (p2.S - v4)))
theorem HY(p1 p2 r)(h:Lx p1 p2=some r):PCall Tryz.prog 156 [(.agg (S3 p1)),(.agg (D2 p2))] (.tup [(i64 r.1),(i64 r.2)]):=by
 refine C4 (fk Tryz.func156 Tryz.ntmps156 m0 (by with_unfolding_all rfl)) (nl W) ?_
 unfold Lx at h
 refine B5 (s0:=⟨T [(0,(.d _)),(1,(.d _))],G []⟩) (F0 W W) ?_
 refine lr<|fun u1 _=>sm W<|sm W<|sv W<|sv W<|A1<|A9<|sd W (B1 W (gq W) W W)<|sq W<|sl W G_hit W<|bs h fun v1 hv1 h=>B3 W W A3 (Vt _ _ _ hv1) (.inl W) (sv W<|A1<|A9<|sv W<|sd W (D5 W)<|sv W<|sv W<|A1<|A5<|bs h fun y1 hy1 h=>D8 (fun s=> ∃g1:Unit,Sb ⟨T [(3,(.ptr (3,u1) 0)),(6,(dl A4 v1)),(7,(di y1))],G [((3,u1),some<|.box 45 (O8 p2))]⟩ s) ?_ ?_)
 refine A7<|E2 (Ej p2 v1) (fun (x1:Int) (g2:Unit)=>⟨T [(3,(.ptr (3,u1) 0)),(6,(dl A4 v1)),(7,(di x1))],G [((3,u1),some<|.box 45 (O8 p2))]⟩) (C3 ((v1.length:Int) - 1)) () _ hy1 (F0 W W) ?_
 intro x1 g2 z1 hz1 ez1
 unfold Ej at hz1
 refine A5<|A5<|F1 W<|sv W<|sv W<|bs hz1 fun _ hv2 hz1=>sd W (C5 W W hv2 W)<|sd W (C7 W hv2 W)<|sq W<|sl W G_hit W<|sv W<|A1<|cc W hz1 (fun c1 hz1=> ?_)<|fun c1 hz1=> ?_
 refine A8<|A7<|C1<|sv W<|sv W<|sv W<|A1<|E4<|E3 ?_
 cases hz1
 exact ⟨W,(),(F0 W W)⟩
 refine C9 W ?_
 cases hz1
 obtain rfl:=ez1 _ rfl
 refine ⟨nofun,C6 W<|Y7 ?_⟩
 exact ⟨(),(F0 W W)⟩
 rintro _ ⟨g1,q1⟩
 refine B5 q1<|A5<|F1 W<|sq W<|sl W G_hit W<|sv W<|bs h fun _ hv3 h=>sd W (C5 W W hv3 W)<|sd W (C7 W hv3 W)<|sq W<|sl W G_hit W<|sv W<|sv W<|bs h fun _ hv4 h=>sd W (C5 W W hv4 W)<|sd W (C7 W hv4 W)<|sv W<|sv W<|sv W<|A1<|B0 ?_
 cases h
 exact A6 (.inr W) (Rf (B2 W) (B2 W) C2 C2) (.refl _)
def Bp (p1:Agent):Option WorldSpan:=
  some (WorldSpan.mk (C3 (p1.S - p1.Len)) p1.S)
theorem Nb(p1 r)(h:Bp p1=some r):PCall Tryz.prog 140 [(.agg (D2 p1))] (.agg [(i64 r.from_),(i64 r.to)]):=by
 refine C4 (fk Tryz.func140 Tryz.ntmps140 m0 (by with_unfolding_all rfl)) (nl W) ?_
 unfold Bp at h
 refine B5 (s0:=⟨T [(0,(.d _))],G []⟩) (F0 W W) ?_
 refine A9<|sm W<|sn W W<|A1<|A9<|sq W<|sl W (gq W) W (sq W<|sl W (gq W) W (sv W<|sq W<|sl W (gq W) W (sv W<|Z4 W G_hit [(di<|C3 (p1.S - p1.Len)),(di p1.S)] W (A1<|B0 ?_))))
 cases h
 exact A6 (.inr W) (B6 (K3 W G_hit (nl W) W) C2) (.refl _)
def Jd (p1:Map)(p2:Agent):Option Bool:=
  (Bp p2).bind fun v1=>(As p1 p2.Route).bind fun v2=>some (decide (v1.from_>v2))
theorem HZ(p1 p2 r)(h:Jd p1 p2=some r):PCall Tryz.prog 158 [(.agg (S3 p1)),(.agg (D2 p2))] (bo r):=by
 refine C4 (fk Tryz.func158 Tryz.ntmps158 m0 (by with_unfolding_all rfl)) (nl W) ?_
 unfold Jd at h
 refine B5 (s0:=⟨T [(0,(.d _)),(1,(.d _))],G []⟩) (F0 W W) ?_
 refine A9<|sm W<|sn W W<|sv W<|A1<|A5<|F1 W<|sd W (B1 W G_hit W W)<|bs h fun _ hv1 h=>B3 W W A3 (Nb _ _ hv1) (.inl W) (sv W<|sd W (B1 W (gq W) W W)<|sq W<|sl W G_hit W<|bs h fun _ hv2 h=>B3 W W A3 (Vc _ _ _ hv2) (.inl W) (sv W<|sv W<|A1<|B0 ?_))
 cases h
 exact A6 (.inr W) (B6 (B2 W) C2) (.refl _)
def Ck (p1:Map)(p2:State)(p3:Int):Option Int:=
  (B7 p2.Agents p3).bind fun v1=>(Bk p1 v1.Route).bind fun v2=>cond (v2 !=0) (some 13) (((cond (!(((((decide (v1.Len<300))||(decide (v1.Len>20000)))||(decide (v1.Begin<0)))||(decide (v1.Begin>1099511627776)))||(decide (v1.S<0)))) (As p1 v1.Route) (some default))).bind fun v3=>cond ((((((decide (v1.Len<300))||(decide (v1.Len>20000)))||(decide (v1.Begin<0)))||(decide (v1.Begin>1099511627776)))||(decide (v1.S<0)))||(decide (v1.S>(C3 ((C3 (v3+v1.Len))+2000))))) (some 2) ((Lx p1 v1).bind fun v4=>(B7 p1.Lanes v4.1).bind fun v5=>(Cw v5.Kind).bind fun v6=>cond ((decide (v1.V<0))||(decide (v1.V>v6.1))) (some 2) ((Jd p1 v1).bind fun v7=>cond ((!(v1.Gone==v7))||(((decide (v1.Begin>p2.Tick))&& (v1.S !=0))||((p3==0)&& (v1.Begin !=0)))) (some 10) (some 0))))
theorem HL(p1 p2 p3 r)(h:Ck p1 p2 p3=some r):PCall Tryz.prog 72 [(.agg (S3 p1)),(.agg (U4 p2)),(i64 p3)] (i64 r):=by
 refine C4 (fk Tryz.func72 Tryz.ntmps72 m0 (by with_unfolding_all rfl)) (nl W) ?_
 unfold Ck at h
 refine B5 (s0:=⟨T [(0,(.d _)),(1,(.d _)),(2,(.d _))],G []⟩) (F0 W W) ?_
 refine A9<|sm W<|sn W W<|sv W<|A1<|A9<|sq W<|sl W G_hit W<|sv W<|bs h fun v1 hv1 h=>sd W (C5 W W hv1 W)<|sd W (D3 W hv1 W W)<|sm W<|Z4 W G_hit (O8 v1) W (A1<|A5<|A9<|sd W (B1 W (gq W) W W)<|sq W<|sl W G_hit W<|bs h fun _ hv2 h=>B3 W W A3 (Wr _ _ _ hv2) (.inl W) (sv W<|A1<|cc W h (fun c1 h=> ?_)<|fun c1 h=> ?_))
 refine A9<|sv W<|A1<|B0 ?_
 cases h
 exact A6 (.inr W) (B6 (B2 W) C2) (.refl _)
 refine A8<|A5<|A5<|F1 W<|sq W<|sl W G_hit W<|sv W<|sv W<|gp W (J9 W) (fun _=>W) (gf W (vl W G_hit W)<|gf W (vb W W W)<|sd W (N7 W W<|fun hc=>A2<|I7 hc)<|sv W<|gp W (J9 W) (fun _=>W) (gf W (vl W G_hit W)<|gf W (vb W W W)<|sd W (N7 W W<|fun hc=>A2<|I7 hc)<|sv W<|gp W (J9 W) (fun _=>W) (gf W (vl W G_hit W)<|gf W (vb W W W)<|sd W (N7 W W<|fun hc=>A2<|I7 hc)<|sv W<|gp W (J9 W) (fun _=>W) (gf W (vl W G_hit W)<|gf W (vb W W W)<|sd W (N7 W W<|fun hc=>A2<|I7 hc)<|sv W<|gp W (J9 W) (fun _=>W) (gf W (vl W G_hit W)<|gf W (fun _=>(B1 W (gq W) W W))<|gp W (J9 W) (fun _=>W) (gf W (vl W G_hit W)<|bs h fun v3 hv3 h=> ?_))))))
 refine N2 _ (i64 v3) (J9 W) (fun w18=>⟨_,[(.d (.agg (S3 p1))),(dl A4 v1.Route)],_,_,(by simp only [A2 w18];rfl),W,A3,Vc _ _ _<|B8 w18 hv3,(.inl W)⟩) ?_
 refine gp W (J9 W) (fun _=>W) (gf W (vl W G_hit W)<|gf W (fun w21=>(L9 (A2 w21) (A2 w21) W))<|gf W (vb W W W)<|gf W (fun w23=>(L9 (A2 w23) (A2 w23) W))<|sd W (N7 W W<|fun hc=>A2<|I7 hc)<|A1<|cc W h (fun c2 h=> ?_)<|fun c2 h=> ?_)
 refine A9<|sv W<|A1<|B0 ?_
 cases h
 exact A6 (.inr W) (B6 (B2 W) C2) (.refl _)
 refine A8<|A9<|sd W (B1 W (gq W) W W)<|sd W (B1 W G_hit W W)<|bs h fun _ hv4 h=>B3 W W A3 (HY _ _ _ hv4) (.inl W) (sv W<|sv W<|sv W<|sv W<|sv W<|A1<|A5<|A9<|sq W<|sl W (gq W) W (sv W<|bs h fun _ hv5 h=>sd W (C5 W W hv5 W)<|sv W<|sd W (C7 W hv5 W)<|bs h fun _ hv6 h=>B3 W W A3 (Qj _ _ hv6) (.inl W) (sv W<|sv W<|sv W<|sv W<|sv W<|sv W<|sv W<|A1<|A9<|sq W<|sl W G_hit W<|sv W<|sv W<|gp W (J9 W) (fun _=>W) (gf W (vl W G_hit W)<|gf W (fun _=>W)<|gf W (fun w27=>(L9 (A2 w27) (A2 w27) W))<|sd W (N7 W W<|fun hc=>A2<|I7 hc)<|A1<|cc W h (fun c3 h=> ?_)<|fun c3 h=> ?_))))
 refine A9<|sv W<|A1<|B0 ?_
 cases h
 exact A6 (.inr W) (B6 (B2 W) C2) (.refl _)
 refine A8<|A9<|sq W<|sl W G_hit W<|sq W<|sl W (gq W) W (sv W<|sv W<|gp W (M9 W) (fun _=>W) (gt W (vl W G_hit W)<|gt W (vb W W W)<|sa W W W<|sv W<|gf W (fun _=>W)<|gf W (vb W W W)<|gf W (fun w33=>(TE<|A2 w33))<|N1 _ (.ptr _ _) W (X4 W) (fun _=>W) (gv W (X4 W) (vl W G_hit W) (gv W (X4 W) (vb W W W) (gf W (fun w37=>(KY (A2 w37) (fun hc=>A2<|HT w37 hc) W))<|sd W (N7 W W<|fun hc=>A2<|I7 hc)<|sv W<|A1<|A5<|A5<|F1 W<|sq W<|sl W G_hit W<|sd W (B1 W (gq W) W W)<|sd W (B1 W G_hit W W)<|bs h fun v7 hv7 h=>B3 W W A3 (HZ _ _ _ hv7) (.inl W) (C0 (.d (bo (!(v1.Gone==v7)))) W W (sv W<|gf W (fun _=>W)<|sd W (N7 W W<|fun hc=>A2<|I7 hc)<|A1<|cc W h (fun c4 h=> ?_)<|fun c4 h=> ?_)))))))
 refine A9<|sv W<|A1<|B0 ?_
 cases h
 exact A6 (.inr W) (B6 (B2 W) C2) (.refl _)
 refine A8<|A9<|sv W<|A1<|B0 ?_
 cases h
 exact A6 (.inr W) (B6 (B2 W) C2) (.refl _)
def Ek (p1:Int):Option Bool:=
  some (p1 !=p1)
theorem BP(p1 r)(h:Ek p1=some r):PCall Tryz.prog 216 [(i64 p1)] (bo r):=by
 refine C4 (fk Tryz.func216 Tryz.ntmps216 m0 (by with_unfolding_all rfl)) (nl W) ?_
 unfold Ek at h
 refine B5 (s0:=⟨T [(0,(.d _))],G []⟩) (F0 W W) ?_
 refine A9<|sv W<|A1<|A9<|sv W<|sv W<|sv W<|sv W<|A1<|B0 ?_
 cases h
 exact A6 (.inr W) (B6 (B2 W) C2) (.refl _)
def X3 (p1:Int)(p2:Int):Option Int:=
  (Ek p1).bind fun v1=>(Ek p2).bind fun v2=>cond v1 (cond v2 (some 0) (some (-1))) (cond v2 (some 1) (cond (decide (p1<p2)) (some (-1)) (cond (decide (p1>p2)) (some 1) (some 0))))
theorem Ly(p1 p2 r)(h:X3 p1 p2=some r):PCall Tryz.prog 160 [(i64 p1),(i64 p2)] (i64 r):=by
 refine C4 (fk Tryz.func160 Tryz.ntmps160 m0 (by with_unfolding_all rfl)) (nl W) ?_
 unfold X3 at h
 refine B5 (s0:=⟨T [(0,(.d _)),(1,(.d _))],G []⟩) (F0 W W) ?_
 refine A9<|sv W<|A1<|A9<|sv W<|bs h fun _ hv1 h=>B3 W W A3 (BP _ _ hv1) (.inl W) (sv W<|A1<|A9<|sv W<|bs h fun _ hv2 h=>B3 W W A3 (BP _ _ hv2) (.inl W) (sv W<|A1<|A5<|A9<|sv W<|A1<|cc W h (fun c1 h=> ?_)<|fun c1 h=> ?_))
 refine A5<|A9<|sv W<|A1<|cc W h (fun c2 h=> ?_)<|fun c2 h=> ?_
 refine A9<|sv W<|A1<|B0 ?_
 cases h
 exact A6 (.inr W) (B6 (B2 W) C2) (.refl _)
 refine A8<|A9<|sv W<|A1<|B0 ?_
 cases h
 exact A6 (.inr W) (B6 (B2 W) C2) (.refl _)
 refine A8<|A5<|A9<|sv W<|A1<|cc W h (fun c3 h=> ?_)<|fun c3 h=> ?_
 refine A9<|sv W<|A1<|B0 ?_
 cases h
 exact A6 (.inr W) (B6 (B2 W) C2) (.refl _)
 refine A8<|A5<|A9<|sv W<|sv W<|sv W<|A1<|cc W h (fun c4 h=> ?_)<|fun c4 h=> ?_
 refine A9<|sv W<|A1<|B0 ?_
 cases h
 exact A6 (.inr W) (B6 (B2 W) C2) (.refl _)
 refine A8<|A5<|A9<|sv W<|sv W<|sv W<|A1<|cc W h (fun c5 h=> ?_)<|fun c5 h=> ?_
 refine A9<|sv W<|A1<|B0 ?_
 cases h
 exact A6 (.inr W) (B6 (B2 W) C2) (.refl _)
 refine A8<|A9<|sv W<|A1<|B0 ?_
 cases h
 exact A6 (.inr W) (B6 (B2 W) C2) (.refl _)
def Al (p1:(List Int))(x1:Int):Option (Stp Int (Sum Unit Int)):=
  cond (decide (x1< (p1.length:Int))) ((B7 p1 x1).bind fun v1=>cond (v1 !=0) (some (.out (.inr v1))) (some (.go (C3 (x1+1))))) (some (.out (.inl ())))
def Du (p1:(List Int)):Option Int:=
  thenS (loop (Al p1) 0) (fun _=>some 0) (fun r=>some r)
theorem AO(p1 r)(h:Du p1=some r):PCall Tryz.prog 159 [(.list (List.map A4 p1))] (i64 r):=by
 refine C4 (fk Tryz.func159 Tryz.ntmps159 m0 (by with_unfolding_all rfl)) (nl W) ?_
 unfold Du at h
 refine B5 (s0:=⟨T [(0,(.d _))],G []⟩) (F0 W W) ?_
 refine A9<|sv W<|A1<|A9<|sv W<|A1<|A5<|A9<|sv W<|sd W (D5 W)<|sv W<|A1<|js h fun z1 hz1 h=>D8 (fun s=> ∃(y1:Unit) (g1:Unit),z1= .inl y1∧Sb ⟨T [(3,(di 0))],G []⟩ s) ?_ ?_
 refine A7<|E2 (Al p1) (fun (x1:Int) (g2:Unit)=>⟨T [(3,(di 0)),(6,(dl A4 p1)),(7,(di (p1.length:Int))),(8,(di x1))],G []⟩) 0 () _ hz1 (F0 W W) ?_
 intro x1 g2 z2 hz2 ez2
 unfold Al at hz2
 refine A9<|sv W<|A1<|A5<|cc W hz2 (fun c1 hz2=> ?_)<|fun c1 hz2=> ?_
 refine A8<|A5<|A7<|A9<|bs hz2 fun _ hv1 hz2=>sd W (C5 W W hv1 W)<|sd W (C7 W hv1 W)<|sv W<|A1<|A9<|sv W<|sv W<|sv W<|A1<|cc W hz2 (fun c2 hz2=> ?_)<|fun c2 hz2=> ?_
 refine A9<|sv W<|sv W<|A1<|B0 ?_
 cases hz2
 obtain rfl:=ez2 _ rfl
 refine ⟨nofun,F2 ?_⟩
 rw [bY]at h
 cases h
 exact A6 (.inr W) (B6 (B2 W) C2) (.refl _)
 refine A8<|E4<|C1<|sv W<|sv W<|A1<|E3 ?_
 cases hz2
 exact ⟨W,(),(F0 W W)⟩
 refine C9 W ?_
 cases hz2
 obtain rfl:=ez2 _ rfl
 refine ⟨nofun,C6 W<|Y7 ?_⟩
 exact ⟨_,(),W,(F0 W W)⟩
 rintro _ ⟨y1,g1,rfl,q1⟩
 rw [bX]at h
 refine B5 q1<|A9<|sv W<|sv W<|A1<|B0 ?_
 cases h
 exact A6 (.inr W) (B6 (B2 W) C2) (.refl _)
def Gd (p1:Stay)(p2:Stay):Option Int:=
  (X3 p1.Agent_ p2.Agent_).bind fun v1=>(X3 p1.Zone_ p2.Zone_).bind fun v2=>(Du [v1,v2]).bind fun v3=>some v3
theorem Xx(p1 p2 r)(h:Gd p1 p2=some r):PCall Tryz.prog 73 [(.agg (I9 p1)),(.agg (I9 p2))] (i64 r):=by
 refine C4 (fk Tryz.func73 Tryz.ntmps73 (fun r=>if r==1 then [1010]else []) (by with_unfolding_all rfl)) (nl W) ?_
 unfold Gd at h
 refine B5 (s0:=⟨T [(0,(.d _)),(1,(.d _))],G []⟩) (F0 W W) ?_
 refine A9<|sm W<|sn W W<|sv W<|A1<|A5<|F1 W<|sq W<|sl W (gq W) W (sq W<|sl W G_hit W<|bs h fun v1 hv1 h=>B3 W W A3 (Ly _ _ _ hv1) (.inl W) (sq W<|sl W (gq W) W (sq W<|sl W G_hit W<|bs h fun v2 hv2 h=>B3 W W A3 (Ly _ _ _ hv2) (.inl W) (C0 (dl A4 [v1,v2]) W W (bs h fun _ hv3 h=>B3 W W A3 (AO _ _ hv3) (.inl W) (sv W<|A1<|B0 ?_))))))
 cases h
 exact A6 (.inr W) (B6 (B2 W) C2) (.refl _)
def Fp (p1:Stay)(p2:State):Option Bool:=
  some ((((decide (p1.Since<0))||(decide (p1.Since>p2.Tick)))||(decide (p1.Rank<0)))||(decide (p1.Rank>100)))
theorem JH(p1 p2 r)(h:Fp p1 p2=some r):PCall Tryz.prog 75 [(.agg (I9 p1)),(.bp (U4 p2) 0)] (bo r):=by
 refine C4 (fk Tryz.func75 Tryz.ntmps75 m0 (by with_unfolding_all rfl)) (nl W) ?_
 unfold Fp at h
 refine B5 (s0:=⟨T [(0,(.d _)),(1,(.d _))],G []⟩) (F0 W W) ?_
 refine A9<|sm W<|sv W<|A1<|A9<|sq W<|sl W G_hit W<|sv W<|sv W<|gp W (J9 W) (fun _=>W) (gf W (vl W G_hit W)<|gf W (fun _=>W) ?_)
 refine gf W (fun w4=>(by simp only [A2 w4];rfl)) ?_
 refine gf W (fun w5=>(L9 (A2 w5) (A2 w5) W))<|sd W (N7 W W<|fun hc=>A2<|I7 hc)<|sv W<|gp W (J9 W) (fun _=>W) (gf W (vl W G_hit W)<|gf W (vb W W W)<|sd W (N7 W W<|fun hc=>A2<|I7 hc)<|sv W<|gp W (J9 W) (fun _=>W) (gf W (vl W G_hit W)<|gf W (vb W W W)<|sd W (N7 W W<|fun hc=>A2<|I7 hc)<|sv W<|A1<|B0 ?_))
 cases h
 exact A6 (.inr W) (B6 (B2 W) C2) (.refl _)
def H8 (p1:(List Stay))(p2:State)(x1:Int):Option (Stp Int (Sum Unit Int)):=
  cond (decide (x1< (p1.length:Int))) ((B7 p1 x1).bind fun v1=>(Fp v1 p2).bind fun v2=>cond v2 (some (.out (.inr x1))) (some (.go (C3 (x1+1))))) (some (.out (.inl ())))
def K9 (p1:(List Stay))(p2:State):Option Int:=
  thenS (loop (H8 p1 p2) 0) (fun _=>some (-1)) (fun r=>some r)
theorem Kl(p1 p2 r)(h:K9 p1 p2=some r):PCall Tryz.prog 161 [(.list (List.map I9 p1)),(.fn (.func 75) [] [(.bp (U4 p2) 0)])] (i64 r):=by
 refine C4 (fk Tryz.func161 Tryz.ntmps161 m0 (by with_unfolding_all rfl)) (nl W) ?_
 unfold K9 at h
 refine B5 (s0:=⟨T [(0,(.d _)),(1,(.d _))],G []⟩) (F0 W W) ?_
 refine A9<|sv W<|A1<|A5<|A9<|sv W<|sd W (D5 W)<|sv W<|A1<|js h fun z1 hz1 h=>D8 (fun s=> ∃(y1:Unit) (g1:Unit),z1= .inl y1∧Sb ⟨T [],G []⟩ s) ?_ ?_
 refine A7<|E2 (H8 p1 p2) (fun (x1:Int) (g2:Unit)=>⟨T [(0,(dl I9 p1)),(1,(.d (.fn (.func 75) [] [(.bp (U4 p2) 0)]))),(7,(di (p1.length:Int))),(8,(di x1))],G []⟩) 0 () _ hz1 (F0 W W) ?_
 intro x1 g2 z2 hz2 ez2
 unfold H8 at hz2
 refine A9<|sv W<|A1<|A5<|cc W hz2 (fun c1 hz2=> ?_)<|fun c1 hz2=> ?_
 refine A8<|A5<|A7<|A9<|sv W<|sv W<|A1<|A9<|sv W<|sv W<|sv W<|bs hz2 fun _ hv1 hz2=>sd W (C5 W W hv1 W)<|sd W (D3 W hv1 W W)<|bs hz2 fun _ hv2 hz2=>B3 W W A3 (JH _ _ _ hv2) (.inl W) (A1<|cc W hz2 (fun c2 hz2=> ?_)<|fun c2 hz2=> ?_)
 refine A9<|sv W<|sv W<|A1<|B0 ?_
 cases hz2
 obtain rfl:=ez2 _ rfl
 refine ⟨nofun,F2 ?_⟩
 rw [bY]at h
 cases h
 exact A6 (.inr W) (B6 (B2 W) C2) (.refl _)
 refine A8<|E4<|C1<|sv W<|sv W<|A1<|E3 ?_
 cases hz2
 exact ⟨W,(),(F0 W W)⟩
 refine C9 W ?_
 cases hz2
 obtain rfl:=ez2 _ rfl
 refine ⟨nofun,C6 W<|Y7 ?_⟩
 exact ⟨_,(),W,(F0 W W)⟩
 rintro _ ⟨y1,g1,rfl,q1⟩
 rw [bX]at h
 refine B5 q1<|A9<|sv W<|A1<|B0 ?_
 cases h
 exact A6 (.inr W) (B6 (B2 W) C2) (.refl _)
def F9 (p1:(List Stay))(p2:State):Option Bool:=
  (K9 p1 p2).bind fun v1=>some (decide (v1≥0))
theorem Io(p1 p2 r)(h:F9 p1 p2=some r):PCall Tryz.prog 74 [(.list (List.map I9 p1)),(.fn (.func 75) [] [(.bp (U4 p2) 0)])] (bo r):=by
 refine C4 (fk Tryz.func74 Tryz.ntmps74 m0 (by with_unfolding_all rfl)) (nl W) ?_
 unfold F9 at h
 refine B5 (s0:=⟨T [(0,(.d _)),(1,(.d _))],G []⟩) (F0 W W) ?_
 refine A9<|sv W<|A1<|A9<|sv W<|sv W<|bs h fun _ hv1 h=>B3 W W A3 (Kl _ _ _ hv1) (.inl W) (sv W<|sv W<|A1<|B0 ?_)
 cases h
 exact A6 (.inr W) (B6 (B2 W) C2) (.refl _)
def Cy (p1:Map)(p2:State)(x2:Int):Option (Stp Int (Sum Unit Int)):=
  cond (decide (x2< (p2.In.length:Int))) ((B7 p2.In x2).bind fun v3=>((cond ((!((((decide (v3.Agent_<0))||(decide (v3.Agent_≥(p2.Agents.length:Int))))||(decide (v3.Zone_<0)))||(decide (v3.Zone_≥(p1.Zones.length:Int)))))&& (decide (x2>0))) (B7 p2.In (C3 (x2 - 1))) (some default))).bind fun v4=>((cond ((!((((decide (v3.Agent_<0))||(decide (v3.Agent_≥(p2.Agents.length:Int))))||(decide (v3.Zone_<0)))||(decide (v3.Zone_≥(p1.Zones.length:Int)))))&& (decide (x2>0))) (Gd v4 v3) (some default))).bind fun v5=>cond (((((decide (v3.Agent_<0))||(decide (v3.Agent_≥(p2.Agents.length:Int))))||(decide (v3.Zone_<0)))||(decide (v3.Zone_≥(p1.Zones.length:Int))))||((decide (x2>0))&& (decide (v5≥0)))) (some (.out (.inr 11))) (some (.go (C3 (x2+1))))) (some (.out (.inl ())))
def Cz (p1:Map)(p2:State)(x1:Int):Option (Stp Int (Sum Unit Int)):=
  cond (decide (x1< (p2.Agents.length:Int))) ((Ck p1 p2 x1).bind fun v2=>cond (v2 !=0) (some (.out (.inr v2))) (some (.go (C3 (x1+1))))) (some (.out (.inl ())))
def Gf (p1:Map)(p2:State):Option Int:=
  (Gc p1).bind fun v1=>cond (v1 !=0) (some v1) (cond ((decide (p2.Tick<0))||(decide (p2.Tick>1099511627776))) (some 2) (cond ((p2.Agents.length:Int)==0) (some 6) (cond (decide ((p2.Agents.length:Int)>8)) (some 8) (thenS (loop (Cz p1 p2) 0) (fun _=>thenS (loop (Cy p1 p2) 0) (fun _=>(F9 p2.In p2).bind fun v6=>cond v6 (some 2) (some 0)) (fun r=>some r)) (fun r=>some r)))))
theorem Xy(p1 p2 r)(h:Gf p1 p2=some r):PCall Tryz.prog 24 [(.agg (S3 p1)),(.agg (U4 p2))] (i64 r):=by
 refine C4 (fk Tryz.func24 Tryz.ntmps24 m0 (by with_unfolding_all rfl)) (nl W) ?_
 unfold Gf at h
 refine B5 (s0:=⟨T [(0,(.d _)),(1,(.d _))],G []⟩) (F0 W W) ?_
 refine lr<|fun u1 _=>sm W<|sm W<|sv W<|A1<|A5<|A9<|sd W (B1 W (gq W) W W)<|bs h fun _ hv1 h=>B3 W W A3 (Xw _ _ hv1) (.inl W) (sv W<|A1<|A9<|sv W<|sv W<|A1<|cc W h (fun c1 h=> ?_)<|fun c1 h=> ?_)
 refine A9<|sv W<|sv W<|A1<|B0 ?_
 cases h
 exact A6 (.inr W) (B6 (B2 W) C2) (.refl _)
 refine A8<|A5<|A9<|sq W<|sl W G_hit W<|sd W (D5 W)<|sv W<|A1<|A7<|A9<|sq W<|sl W G_hit W<|sv W<|sv W<|gp W (J9 W) (fun _=>W) (gf W (vl W G_hit W)<|gf W (vb W W W)<|sd W (N7 W W<|fun hc=>A2<|I7 hc)<|sv W<|A1<|cc W h (fun c2 h=> ?_)<|fun c2 h=> ?_)
 refine A9<|sv W<|A1<|B0 ?_
 cases h
 exact A6 (.inr W) (B6 (B2 W) C2) (.refl _)
 refine A9<|sv W<|sv W<|sv W<|A1<|cc W h (fun c3 h=> ?_)<|fun c3 h=> ?_
 refine A9<|sv W<|A1<|B0 ?_
 cases h
 exact A6 (.inr W) (B6 (B2 W) C2) (.refl _)
 refine A9<|sv W<|sv W<|sv W<|A1<|cc W h (fun c4 h=> ?_)<|fun c4 h=> ?_
 refine A9<|sv W<|A1<|B0 ?_
 cases h
 exact A6 (.inr W) (B6 (B2 W) C2) (.refl _)
 refine A8<|E4<|A5<|A9<|sq W<|sl W G_hit W<|sd W (D5 W)<|sv W<|A1<|js h fun z1 hz1 h=>D8 (fun s=> ∃(y1:Unit) (g1:Unit),z1= .inl y1∧Sb ⟨T [(2,(.ptr (2,u1) 0)),(3,(.ptr (3,u1) 0))],G [((2,u1),some<|.box 33 (M7 p1)),((3,u1),some<|.box 25 (H7 p2))]⟩ s) ?_ ?_
 refine A7<|E2 (Cz p1 p2) (fun (x1:Int) (g2:Unit)=>⟨T [(2,(.ptr (2,u1) 0)),(3,(.ptr (3,u1) 0)),(36,(di (p2.Agents.length:Int))),(37,(di x1))],G [((2,u1),some<|.box 33 (M7 p1)),((3,u1),some<|.box 25 (H7 p2))]⟩) 0 () _ hz1 (F0 W W) ?_
 intro x1 g2 z2 hz2 ez2
 unfold Cz at hz2
 refine A9<|sv W<|A1<|A5<|cc W hz2 (fun c5 hz2=> ?_)<|fun c5 hz2=> ?_
 refine A8<|A5<|A7<|A9<|sv W<|sv W<|A1<|A9<|sd W (B1 W G_hit W W)<|sd W (B1 W (gq W) W W)<|sv W<|bs hz2 fun _ hv2 hz2=>B3 W W A3 (HL _ _ _ _ hv2) (.inl W) (sv W<|A1<|A9<|sv W<|sv W<|A1<|cc W hz2 (fun c6 hz2=> ?_)<|fun c6 hz2=> ?_)
 refine A9<|sv W<|sv W<|A1<|B0 ?_
 cases hz2
 obtain rfl:=ez2 _ rfl
 refine ⟨nofun,F2 ?_⟩
 rw [bY]at h
 cases h
 exact A6 (.inr W) (B6 (B2 W) C2) (.refl _)
 refine A8<|E4<|C1<|sv W<|sv W<|A1<|E3 ?_
 cases hz2
 exact ⟨W,(),(F0 W W)⟩
 refine C9 W ?_
 cases hz2
 obtain rfl:=ez2 _ rfl
 refine ⟨nofun,C6 W<|Y7 ?_⟩
 exact ⟨_,(),W,(F0 W W)⟩
 rintro _ ⟨y1,g1,rfl,q1⟩
 rw [bX]at h
 refine B5 q1<|A5<|A9<|sq W<|sl W (gq W) W (sd W (D5 W)<|sv W<|A1<|js h fun z3 hz3 h=>D8 (fun s=> ∃(y2:Unit) (g3:Unit),z3= .inl y2∧Sb ⟨T [(3,(.ptr (3,u1) 0))],G [((3,u1),some<|.box 25 (H7 p2))]⟩ s) ?_ ?_)
 refine A7<|E2 (Cy p1 p2) (fun (x2:Int) (g4:Unit)=>⟨T [(2,(.ptr (2,u1) 0)),(3,(.ptr (3,u1) 0)),(49,(dl I9 p2.In)),(50,(di (p2.In.length:Int))),(51,(di x2))],G [((2,u1),some<|.box 33 (M7 p1)),((3,u1),some<|.box 25 (H7 p2))]⟩) 0 () _ hz3 (F0 W W) ?_
 intro x2 g4 z4 hz4 ez4
 unfold Cy at hz4
 refine A9<|sv W<|A1<|A5<|cc W hz4 (fun c7 hz4=> ?_)<|fun c7 hz4=> ?_
 refine A8<|A5<|A7<|A9<|sv W<|bs hz4 fun v3 hv3 hz4=>sd W (C5 W W hv3 W)<|sd W (D3 W hv3 W W)<|sm W<|sv W<|Z4 W G_hit (Uz v3) W (A1<|A5<|F1 W<|sq W<|sl W G_hit W<|sv W<|sv W<|gp W (J9 W) (fun _=>W) (gf W (vl W G_hit W)<|gp W (J9 W) (fun _=>W) (gf W (vl W (gq W) W)<|gf W (fun w8=>(D5<|A2 w8))<|gf W (fun w9=>(L9 (A2 w9) (A2 w9) W))<|sd W (N7 W W<|fun hc=>A2<|I7 hc)<|sv W<|gp W (J9 W) (fun _=>W) (gf W (vl W G_hit W)<|gf W (vb W W W)<|sd W (N7 W W<|fun hc=>A2<|I7 hc)<|sv W<|gp W (J9 W) (fun _=>W) (gf W (vl W G_hit W)<|gp W (J9 W) (fun _=>W) (gf W (vl W (gq W) W)<|gf W (fun w17=>(D5<|A2 w17))<|gf W (fun w18=>(L9 (A2 w18) (A2 w18) W))<|sd W (N7 W W<|fun hc=>A2<|I7 hc)<|sv W<|gf W (fun _=>W)<|gf W (vb W W W)<|gf W (fun w21=>(TE<|A2 w21))<|N1 _ (.ptr _ _) W (X4 W) (fun _=>W) (gv W (X4 W) (vl W (gq W) W) (gv W (X4 W) (fun _=>W) (gv W (X4 W) (vb W W W) (bs hz4 fun v4 hv4 hz4=>gv W (X4 W) (fun w26=>(C5 (A2 w26) (A2 w26) (B8 w26 hv4) W)) (gv W (X4 W) (fun w27=>(D3 (A2 w27) (B8 w27 hv4) W W)) (gv W (X4 W) (fun _=>(B1 W G_hit W W)) (bs hz4 fun v5 hv5 hz4=> ?_)))))))))))))
 refine N2 _ (i64 v5) (X4 W) (fun w29=>⟨_,[(.d (.agg (I9 v4))),(.d (.agg (I9 v3)))],_,_,(by simp only [A2 w29];rfl),W,A3,Xx _ _ _<|B8 w29 hv5,(.inl W)⟩) ?_
 refine gv W (X4 W) (vb W W W) (gf W (fun w31=>(KY (A2 w31) (fun hc=>A2<|HT w31 hc) W))<|sd W (N7 W W<|fun hc=>A2<|I7 hc)<|A1<|cc W hz4 (fun c8 hz4=> ?_)<|fun c8 hz4=> ?_)
 refine A9<|sv W<|A1<|B0 ?_
 cases hz4
 obtain rfl:=ez4 _ rfl
 refine ⟨nofun,F2 ?_⟩
 rw [bY]at h
 cases h
 exact A6 (.inr W) (B6 (B2 W) C2) (.refl _)
 refine A8<|E4<|C1<|sv W<|sv W<|A1<|E3 ?_
 cases hz4
 exact ⟨W,(),(F0 W W)⟩
 refine C9 W ?_
 cases hz4
 obtain rfl:=ez4 _ rfl
 refine ⟨nofun,C6 W<|Y7 ?_⟩
 exact ⟨_,(),W,(F0 W W)⟩
 rintro _ ⟨y2,g3,rfl,q2⟩
 rw [bX]at h
 refine B5 q2<|A5<|A9<|sq W<|sl W G_hit W<|C0 (.fn _ _ _) W W (bs h fun _ hv6 h=>B3 W (rD<|F5 (HS G7<|F5 (Dt G_hit<|rD<|rD<|rD G7) G7) G7) A3 (Io _ _ _ hv6) (.inr W) (A1<|cc W h (fun c9 h=> ?_)<|fun c9 h=> ?_))
 refine A9<|sv W<|A1<|B0 ?_
 cases h
 exact A6 (.inr W) (B6 (B2 W) C2) (.refl _)
 refine A8<|A9<|sv W<|A1<|B0 ?_
 cases h
 exact A6 (.inr W) (B6 (B2 W) C2) (.refl _)
def Rl (p1:Agent):Option Bool:=
  some p1.Gone
theorem RG(p1 r)(h:Rl p1=some r):PCall Tryz.prog 79 [(.agg (D2 p1))] (bo r):=by
 refine C4 (fk Tryz.func79 Tryz.ntmps79 m0 (by with_unfolding_all rfl)) (nl W) ?_
 unfold Rl at h
 refine B5 (s0:=⟨T [(0,(.d _))],G []⟩) (F0 W W) ?_
 refine A9<|sm W<|sv W<|A1<|A9<|sq W<|sl W G_hit W<|sv W<|A1<|B0 ?_
 cases h
 exact A6 (.inr W) (B6 (B2 W) C2) (.refl _)
def M2 (p1:(List Agent))(x1:Int):Option (Stp Int (Sum Unit Int)):=
  cond (decide (x1< (p1.length:Int))) ((B7 p1 x1).bind fun v1=>(Rl v1).bind fun v2=>cond v2 (some (.out (.inr x1))) (some (.go (C3 (x1+1))))) (some (.out (.inl ())))
def M6 (p1:(List Agent)):Option Int:=
  thenS (loop (M2 p1) 0) (fun _=>some (-1)) (fun r=>some r)
theorem Lf(p1 r)(h:M6 p1=some r):PCall Tryz.prog 170 [(.list (List.map D2 p1)),(.fn (.func 79) [] [])] (i64 r):=by
 refine C4 (fk Tryz.func170 Tryz.ntmps170 m0 (by with_unfolding_all rfl)) (nl W) ?_
 unfold M6 at h
 refine B5 (s0:=⟨T [(0,(.d _)),(1,(.d _))],G []⟩) (F0 W W) ?_
 refine A9<|sv W<|A1<|A5<|A9<|sv W<|sd W (D5 W)<|sv W<|A1<|js h fun z1 hz1 h=>D8 (fun s=> ∃(y1:Unit) (g1:Unit),z1= .inl y1∧Sb ⟨T [],G []⟩ s) ?_ ?_
 refine A7<|E2 (M2 p1) (fun (x1:Int) (g2:Unit)=>⟨T [(0,(dl D2 p1)),(1,(.d (.fn (.func 79) [] []))),(7,(di (p1.length:Int))),(8,(di x1))],G []⟩) 0 () _ hz1 (F0 W W) ?_
 intro x1 g2 z2 hz2 ez2
 unfold M2 at hz2
 refine A9<|sv W<|A1<|A5<|cc W hz2 (fun c1 hz2=> ?_)<|fun c1 hz2=> ?_
 refine A8<|A5<|A7<|A9<|sv W<|sv W<|A1<|A9<|sv W<|sv W<|sv W<|bs hz2 fun _ hv1 hz2=>sd W (C5 W W hv1 W)<|sd W (D3 W hv1 W W)<|bs hz2 fun _ hv2 hz2=>B3 W W A3 (RG _ _ hv2) (.inl W) (A1<|cc W hz2 (fun c2 hz2=> ?_)<|fun c2 hz2=> ?_)
 refine A9<|sv W<|sv W<|A1<|B0 ?_
 cases hz2
 obtain rfl:=ez2 _ rfl
 refine ⟨nofun,F2 ?_⟩
 rw [bY]at h
 cases h
 exact A6 (.inr W) (B6 (B2 W) C2) (.refl _)
 refine A8<|E4<|C1<|sv W<|sv W<|A1<|E3 ?_
 cases hz2
 exact ⟨W,(),(F0 W W)⟩
 refine C9 W ?_
 cases hz2
 obtain rfl:=ez2 _ rfl
 refine ⟨nofun,C6 W<|Y7 ?_⟩
 exact ⟨_,(),W,(F0 W W)⟩
 rintro _ ⟨y1,g1,rfl,q1⟩
 rw [bX]at h
 refine B5 q1<|A9<|sv W<|A1<|B0 ?_
 cases h
 exact A6 (.inr W) (B6 (B2 W) C2) (.refl _)
def M3 (p1:(List Agent)):Option Bool:=
  (M6 p1).bind fun v1=>some (decide (v1≥0))
theorem Je(p1 r)(h:M3 p1=some r):PCall Tryz.prog 78 [(.list (List.map D2 p1)),(.fn (.func 79) [] [])] (bo r):=by
 refine C4 (fk Tryz.func78 Tryz.ntmps78 m0 (by with_unfolding_all rfl)) (nl W) ?_
 unfold M3 at h
 refine B5 (s0:=⟨T [(0,(.d _)),(1,(.d _))],G []⟩) (F0 W W) ?_
 refine A9<|sv W<|A1<|A9<|sv W<|sv W<|bs h fun _ hv1 h=>B3 W W A3 (Lf _ _ hv1) (.inl W) (sv W<|sv W<|A1<|B0 ?_)
 cases h
 exact A6 (.inr W) (B6 (B2 W) C2) (.refl _)
def Ez (p1:State)(p2:Int):Option Bool:=
  ((cond ((decide (p2≥0))&& (decide (p2< (p1.Agents.length:Int)))) (B7 p1.Agents p2) (some default))).bind fun v1=>((cond (((decide (p2≥0))&& (decide (p2< (p1.Agents.length:Int))))&& (!v1.Gone)) (B7 p1.Agents p2) (some default))).bind fun v2=>some ((((decide (p2≥0))&& (decide (p2< (p1.Agents.length:Int))))&& (!v1.Gone))&& (decide (v2.Begin≤p1.Tick)))
theorem Si(p1 p2 r)(h:Ez p1 p2=some r):PCall Tryz.prog 36 [(.agg (U4 p1)),(i64 p2)] (bo r):=by
 refine C4 (fk Tryz.func36 Tryz.ntmps36 m0 (by with_unfolding_all rfl)) (nl W) ?_
 unfold Ez at h
 refine B5 (s0:=⟨T [(0,(.d _)),(1,(.d _))],G []⟩) (F0 W W) ?_
 refine A9<|sm W<|sv W<|A1<|A5<|F1 W<|sv W<|sv W<|sv W<|gt W (fun _=>W)<|gp W (M9 W) (fun _=>W) (gt W (vl W G_hit W)<|gt W (fun w4=>(D5<|A2 w4))<|gt W (fun w5=>(L9 (A2 w5) (A2 w5) W))<|sa W W W<|sv W<|gp W (M9 W) (fun _=>W) (gt W (vl W G_hit W)<|gt W (fun _=>W)<|bs h fun v1 hv1 h=>gt W (fun w9=>(C5 (A2 w9) (A2 w9) (B8 w9 hv1) W)) ?_))
 refine gt W (fun w10=>(by simp only [A2 w10];rfl)) ?_
 refine gt W (fun w11=>(C7 (A2 w11) (B8 w11 hv1) W)) ?_
 refine N1 _ (.d (bo (!v1.Gone))) W (M9 W) (fun w12=>(by simp only [A2 w12];rfl)) ?_
 refine sa W W W<|sv W<|gp W (M9 W) (fun _=>W) (gt W (vl W G_hit W)<|gt W (fun _=>W)<|bs h fun _ hv2 h=>gt W (fun w16=>(C5 (A2 w16) (A2 w16) (B8 w16 hv2) W)) ?_)
 refine gt W (fun w17=>(by simp only [A2 w17];rfl)) ?_
 refine gt W (fun w18=>(C7 (A2 w18) (B8 w18 hv2) W))<|gp W (M9 W) (fun _=>W) (gt W (vl W G_hit W)<|gt W (fun w21=>(L9 (A2 w21) (A2 w21) W))<|sa W W W<|sv W<|A1<|B0 ?_)
 cases h
 exact A6 (.inr W) (B6 (B2 W) C2) (.refl _)
def Lz (p1:Agent):Option Bool:=
  some ((((decide (p1.S≥0))&& (decide (p1.S≤1099511627776)))&& (decide (p1.Len≥0)))&& (decide (p1.Len≤1099511627776)))
theorem AP(p1 r)(h:Lz p1=some r):PCall Tryz.prog 138 [(.agg (D2 p1))] (bo r):=by
 refine C4 (fk Tryz.func138 Tryz.ntmps138 m0 (by with_unfolding_all rfl)) (nl W) ?_
 unfold Lz at h
 refine B5 (s0:=⟨T [(0,(.d _))],G []⟩) (F0 W W) ?_
 refine A9<|sm W<|sv W<|A1<|A9<|sq W<|sl W G_hit W<|sv W<|sv W<|gp W (M9 W) (fun _=>W) (gt W (vl W G_hit W)<|gt W (vb W W W)<|sa W W W<|sv W<|gp W (M9 W) (fun _=>W) (gt W (vl W G_hit W)<|gt W (vb W W W)<|sa W W W<|sv W<|gp W (M9 W) (fun _=>W) (gt W (vl W G_hit W)<|gt W (vb W W W)<|sa W W W<|sv W<|A1<|B0 ?_)))
 cases h
 exact A6 (.inr W) (B6 (B2 W) C2) (.refl _)
def U2 (p1:Int):Option Bool:=
  some (p1 !=p1)
theorem Ma(p1 r)(h:U2 p1=some r):PCall Tryz.prog 255 [(i64 p1)] (bo r):=by
 refine C4 (fk Tryz.func255 Tryz.ntmps255 m0 (by with_unfolding_all rfl)) (nl W) ?_
 unfold U2 at h
 refine B5 (s0:=⟨T [(0,(.d _))],G []⟩) (F0 W W) ?_
 refine A9<|sv W<|A1<|A9<|sv W<|sv W<|sv W<|sv W<|A1<|B0 ?_
 cases h
 exact A6 (.inr W) (B6 (B2 W) C2) (.refl _)
def Y6 (p1:Int)(p2:Int):Option Int:=
  (U2 p1).bind fun v1=>(U2 p2).bind fun v2=>cond v1 (cond v2 (some 0) (some (-1))) (cond v2 (some 1) (cond (decide (p1<p2)) (some (-1)) (cond (decide (p1>p2)) (some 1) (some 0))))
theorem Vd(p1 p2 r)(h:Y6 p1 p2=some r):PCall Tryz.prog 229 [(i64 p1),(i64 p2)] (i64 r):=by
 refine C4 (fk Tryz.func229 Tryz.ntmps229 m0 (by with_unfolding_all rfl)) (nl W) ?_
 unfold Y6 at h
 refine B5 (s0:=⟨T [(0,(.d _)),(1,(.d _))],G []⟩) (F0 W W) ?_
 refine A9<|sv W<|A1<|A9<|sv W<|bs h fun _ hv1 h=>B3 W W A3 (Ma _ _ hv1) (.inl W) (sv W<|A1<|A9<|sv W<|bs h fun _ hv2 h=>B3 W W A3 (Ma _ _ hv2) (.inl W) (sv W<|A1<|A5<|A9<|sv W<|A1<|cc W h (fun c1 h=> ?_)<|fun c1 h=> ?_))
 refine A5<|A9<|sv W<|A1<|cc W h (fun c2 h=> ?_)<|fun c2 h=> ?_
 refine A9<|sv W<|A1<|B0 ?_
 cases h
 exact A6 (.inr W) (B6 (B2 W) C2) (.refl _)
 refine A8<|A9<|sv W<|A1<|B0 ?_
 cases h
 exact A6 (.inr W) (B6 (B2 W) C2) (.refl _)
 refine A8<|A5<|A9<|sv W<|A1<|cc W h (fun c3 h=> ?_)<|fun c3 h=> ?_
 refine A9<|sv W<|A1<|B0 ?_
 cases h
 exact A6 (.inr W) (B6 (B2 W) C2) (.refl _)
 refine A8<|A5<|A9<|sv W<|sv W<|sv W<|A1<|cc W h (fun c4 h=> ?_)<|fun c4 h=> ?_
 refine A9<|sv W<|A1<|B0 ?_
 cases h
 exact A6 (.inr W) (B6 (B2 W) C2) (.refl _)
 refine A8<|A5<|A9<|sv W<|sv W<|sv W<|A1<|cc W h (fun c5 h=> ?_)<|fun c5 h=> ?_
 refine A9<|sv W<|A1<|B0 ?_
 cases h
 exact A6 (.inr W) (B6 (B2 W) C2) (.refl _)
 refine A8<|A9<|sv W<|A1<|B0 ?_
 cases h
 exact A6 (.inr W) (B6 (B2 W) C2) (.refl _)
def Fa (p1:Pass)(p2:Pass):Option Int:=
  (Y6 p1.From p2.From).bind fun v1=>(X3 p1.Zone_ p2.Zone_).bind fun v2=>(Du [v1,v2]).bind fun v3=>some v3
theorem LL(p1 p2 r)(h:Fa p1 p2=some r):PCall Tryz.prog 264 [(.agg (U0 p1)),(.agg (U0 p2))] (i64 r):=by
 refine C4 (fk Tryz.func264 Tryz.ntmps264 (fun r=>if r==1 then [1010]else []) (by with_unfolding_all rfl)) (nl W) ?_
 unfold Fa at h
 refine B5 (s0:=⟨T [(0,(.d _)),(1,(.d _))],G []⟩) (F0 W W) ?_
 refine A9<|sm W<|sn W W<|sv W<|A1<|A5<|F1 W<|sq W<|sl W (gq W) W (sq W<|sl W G_hit W<|bs h fun v1 hv1 h=>B3 W W A3 (Vd _ _ _ hv1) (.inl W) (sq W<|sl W (gq W) W (sq W<|sl W G_hit W<|bs h fun v2 hv2 h=>B3 W W A3 (Ly _ _ _ hv2) (.inl W) (C0 (dl A4 [v1,v2]) W W (bs h fun _ hv3 h=>B3 W W A3 (AO _ _ hv3) (.inl W) (sv W<|A1<|B0 ?_))))))
 cases h
 exact A6 (.inr W) (B6 (B2 W) C2) (.refl _)
end
end Go.Abs.World
