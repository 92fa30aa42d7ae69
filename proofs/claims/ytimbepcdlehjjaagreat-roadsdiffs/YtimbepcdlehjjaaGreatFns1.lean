/-
  The Go functions that RoadsDiffs reaches, as plain Lean functions, and the proofs that the program computes them.
-/
import Derived.Test.YtimbepcdlehjjaaGreatCoreD
import Derived.Test.YtimbepcdlehjjaaGreatProg
import Derived.KernelRfl
import Derived.IntWalk
import Derived.Shelf.Spec.SlicesGrow
set_option maxRecDepth 20000
set_option maxHeartbeats 4000000
set_option linter.unusedVariables false
namespace Go.Abs.Roadsz
noncomputable section
open Go Go.Abs Go.Proofs Tryz
attribute [local irreducible] H7 Ix Db
structure Spot where
  X:Int
  Y:Int
  deriving Inhabited
structure CurveVector where
  x:Int
  y:Int
  deriving Inhabited
structure CurvePiece where
  p:Spot
  v:CurveVector
  l:Int
  start:Int
  deriving Inhabited
abbrev I0:Spot→List D:=fun x=> [(i64 x.X),(i64 x.Y)]
structure Curve where
  Pts:(List Spot)
  deriving Inhabited
abbrev LZ:Curve→List D:=fun x=> [(.list (List.map I0 x.Pts))]
abbrev A7:Int→List D:=fun x=> [.v (.int .i64 x)]
structure Part where
  Lane_:Int
  From:Int
  To:Int
  Rank:Int
  deriving Inhabited
abbrev G1:Part→List D:=fun x=> [(i64 x.Lane_),(i64 x.From),(i64 x.To),(i64 x.Rank)]
structure Phase where
  Ticks:Int
  Green:(List Int)
  deriving Inhabited
abbrev G3:Phase→List D:=fun x=> [(i64 x.Ticks),(.list (List.map A7 x.Green))]
structure Lane where
  Kind:Int
  Curve_:Curve
  Half:Int
  Limit:Int
  Next:(List Int)
  deriving Inhabited
structure Zone where
  Parts:(List Part)
  Signal_:Int
  deriving Inhabited
structure Signal where
  Offset:Int
  Phases:(List Phase)
  deriving Inhabited
structure Work where
  Lane_:Int
  From:Int
  To:Int
  Begin:Int
  End:Int
  Limit:Int
  deriving Inhabited
structure Map where
  Version:Int
  Lanes:(List Lane)
  Zones:(List Zone)
  Signals:(List Signal)
  Works:(List Work)
  deriving Inhabited
abbrev R8:Lane→List D:=fun x=> [(i64 x.Kind),(.list (List.map I0 x.Curve_.Pts)),(i64 x.Half),(i64 x.Limit),(.list (List.map A7 x.Next))]
abbrev N8:Zone→List D:=fun x=> [(.list (List.map G1 x.Parts)),(i64 x.Signal_)]
abbrev U8:Signal→List D:=fun x=> [(i64 x.Offset),(.list (List.map G3 x.Phases))]
abbrev By:Work→List D:=fun x=> [(i64 x.Lane_),(i64 x.From),(i64 x.To),(i64 x.Begin),(i64 x.End),(i64 x.Limit)]
abbrev O1:Map→List D:=fun x=> [(i64 x.Version),(.list (List.map R8 x.Lanes)),(.list (List.map N8 x.Zones)),(.list (List.map U8 x.Signals)),(.list (List.map By x.Works))]
abbrev PE:(List Lane)→List D:=fun x=> [.list (List.map R8 x)]
abbrev PF:(List Spot)→List D:=fun x=> [.list (List.map I0 x)]
abbrev FJ:(List Int)→List D:=fun x=> [.list (List.map A7 x)]
abbrev PG:(List Zone)→List D:=fun x=> [.list (List.map N8 x)]
abbrev PH:(List Part)→List D:=fun x=> [.list (List.map G1 x)]
abbrev IH:(List Signal)→List D:=fun x=> [.list (List.map U8 x)]
abbrev MA:(List Phase)→List D:=fun x=> [.list (List.map G3 x)]
abbrev PI:(List Work)→List D:=fun x=> [.list (List.map By x)]
structure RoadsWay where
  Map_:Map
  lanes:(List Int)
  starts:(List Int)
  length:Int
  deriving Inhabited
abbrev UY:Nat→List D:=fun x=> [.fn (.func x) [] []]
structure RoadsCheck where
  Map_:Map
  deriving Inhabited
abbrev TN:(Int×Int×Int)→List D:=fun x=> [(i64 x.1),(i64 x.2.1),(i64 x.2.2)]
structure Clash where
  Kind:Int
  Zone_:Int
  A:Int
  B:Int
  deriving Inhabited
abbrev I7:Clash→List D:=fun x=> [(i64 x.Kind),(i64 x.Zone_),(i64 x.A),(i64 x.B)]
structure Edit where
  Kind:Int
  Table:Int
  At:Int
  Lane_:Lane
  Zone_:Zone
  Signal_:Signal
  Work_:Work
  deriving Inhabited
structure Patch where
  Base:Int
  Edits:(List Edit)
  deriving Inhabited
abbrev E3:Edit→List D:=fun x=> [(i64 x.Kind),(i64 x.Table),(i64 x.At),(i64 x.Lane_.Kind),(.list (List.map I0 x.Lane_.Curve_.Pts)),(i64 x.Lane_.Half),(i64 x.Lane_.Limit),(.list (List.map A7 x.Lane_.Next)),(.list (List.map G1 x.Zone_.Parts)),(i64 x.Zone_.Signal_),(i64 x.Signal_.Offset),(.list (List.map G3 x.Signal_.Phases)),(i64 x.Work_.Lane_),(i64 x.Work_.From),(i64 x.Work_.To),(i64 x.Work_.Begin),(i64 x.Work_.End),(i64 x.Work_.Limit)]
abbrev Oe:(List Edit)→List D:=fun x=> [.list (List.map E3 x)]
structure Anon7 where
  x:Int
  y:Int
  signed:Bool
  code:Int
  deriving Inhabited
structure RuntimeBoundsError where
  x:Int
  y:Int
  signed:Bool
  code:Int
  deriving Inhabited
structure Anon13 where
  msg:ByteArray
  addr:Int
  deriving Inhabited
structure RuntimeErrorAddressString where
  msg:ByteArray
  addr:Int
  deriving Inhabited
structure Anon26 where
  Version:Int
  Lanes:(List Lane)
  Zones:(List Zone)
  Signals:(List Signal)
  Works:(List Work)
  deriving Inhabited
structure Anon35 where
  Base:Int
  Edits:(List Edit)
  deriving Inhabited
structure Anon38 where
  Pts:(List Spot)
  deriving Inhabited
structure Anon41 where
  Kind:Int
  Curve_:Curve
  Half:Int
  Limit:Int
  Next:(List Int)
  deriving Inhabited
structure Anon44 where
  Parts:(List Part)
  Signal_:Int
  deriving Inhabited
structure Anon47 where
  Offset:Int
  Phases:(List Phase)
  deriving Inhabited
structure Anon49 where
  Lane_:Int
  From:Int
  To:Int
  Begin:Int
  End:Int
  Limit:Int
  deriving Inhabited
structure Anon51 where
  Kind:Int
  Table:Int
  At:Int
  Lane_:Lane
  Zone_:Zone
  Signal_:Signal
  Work_:Work
  deriving Inhabited
structure Anon90 where
  Lane_:Int
  From:Int
  To:Int
  Rank:Int
  deriving Inhabited
structure Anon92 where
  Kind:Int
  Zone_:Int
  A:Int
  B:Int
  deriving Inhabited
structure Anon94 where
  Zone_:Int
  Part_:Int
  From:Int
  To:Int
  deriving Inhabited
structure Pass where
  Zone_:Int
  Part_:Int
  From:Int
  To:Int
  deriving Inhabited
structure Anon96 where
  Ticks:Int
  Green:(List Int)
  deriving Inhabited
structure Anon104 where
  Map_:Map
  deriving Inhabited
structure Anon144 where
  b:(List Int)
  deriving Inhabited
structure RoadsWriter where
  b:(List Int)
  deriving Inhabited
structure Anon147 where
  X:Int
  Y:Int
  deriving Inhabited
structure Anon153 where
  s:ByteArray
  short:Bool
  deriving Inhabited
structure RoadsReader where
  s:ByteArray
  short:Bool
  deriving Inhabited
structure Anon168 where
  Map_:Map
  lanes:(List Int)
  starts:(List Int)
  length:Int
  deriving Inhabited
structure Anon186 where
  s:ByteArray
  bad:Bool
  deriving Inhabited
structure Ref03Reader where
  s:ByteArray
  bad:Bool
  deriving Inhabited
structure Anon225 where
  FromA:Int
  ToA:Int
  FromB:Int
  ToB:Int
  deriving Inhabited
structure Cross where
  FromA:Int
  ToA:Int
  FromB:Int
  ToB:Int
  deriving Inhabited
structure Anon252 where
  x:Int
  y:Int
  deriving Inhabited
structure Anon279 where
  p:Spot
  v:CurveVector
  l:Int
  start:Int
  deriving Inhabited
structure Anon282 where
  piece:CurvePiece
  half:Int
  ends:(Int×Int)
  deriving Inhabited
structure CurveCorridor where
  piece:CurvePiece
  half:Int
  ends:(Int×Int)
  deriving Inhabited
structure Anon290 where
  p:Spot
  v:Spot
  l:Int
  h:Int
  s:Int
  t:Int
  deriving Inhabited
structure Ref01Stripe where
  p:Spot
  v:Spot
  l:Int
  h:Int
  s:Int
  t:Int
  deriving Inhabited
abbrev Ou:Edit→List AV:=fun x=> [(.d (i64 x.Kind)),(.d (i64 x.Table)),(.d (i64 x.At)),(.d (i64 x.Lane_.Kind)),(.d (.list (List.map I0 x.Lane_.Curve_.Pts))),(.d (i64 x.Lane_.Half)),(.d (i64 x.Lane_.Limit)),(.d (.list (List.map A7 x.Lane_.Next))),(.d (.list (List.map G1 x.Zone_.Parts))),(.d (i64 x.Zone_.Signal_)),(.d (i64 x.Signal_.Offset)),(.d (.list (List.map G3 x.Signal_.Phases))),(.d (i64 x.Work_.Lane_)),(.d (i64 x.Work_.From)),(.d (i64 x.Work_.To)),(.d (i64 x.Work_.Begin)),(.d (i64 x.Work_.End)),(.d (i64 x.Work_.Limit))]
abbrev II:RoadsWay→List D:=fun x=> [(i64 x.Map_.Version),(.list (List.map R8 x.Map_.Lanes)),(.list (List.map N8 x.Map_.Zones)),(.list (List.map U8 x.Map_.Signals)),(.list (List.map By x.Map_.Works)),(.list (List.map A7 x.lanes)),(.list (List.map A7 x.starts)),(i64 x.length)]
abbrev Em:RoadsWay→List AV:=fun x=> [(.d (i64 x.Map_.Version)),(.d (.list (List.map R8 x.Map_.Lanes))),(.d (.list (List.map N8 x.Map_.Zones))),(.d (.list (List.map U8 x.Map_.Signals))),(.d (.list (List.map By x.Map_.Works))),(.d (.list (List.map A7 x.lanes))),(.d (.list (List.map A7 x.starts))),(.d (i64 x.length))]
abbrev GX:Work→List AV:=fun x=> [(.d (i64 x.Lane_)),(.d (i64 x.From)),(.d (i64 x.To)),(.d (i64 x.Begin)),(.d (i64 x.End)),(.d (i64 x.Limit))]
abbrev CS:CurvePiece→List D:=fun x=> [(i64 x.p.X),(i64 x.p.Y),(i64 x.v.x),(i64 x.v.y),(i64 x.l),(i64 x.start)]
abbrev CT:CurvePiece→List AV:=fun x=> [(.d (i64 x.p.X)),(.d (i64 x.p.Y)),(.d (i64 x.v.x)),(.d (i64 x.v.y)),(.d (i64 x.l)),(.d (i64 x.start))]
abbrev I4:Map→List AV:=fun x=> [(.d (i64 x.Version)),(.d (.list (List.map R8 x.Lanes))),(.d (.list (List.map N8 x.Zones))),(.d (.list (List.map U8 x.Signals))),(.d (.list (List.map By x.Works)))]
abbrev De:Lane→List AV:=fun x=> [(.d (i64 x.Kind)),(.d (.list (List.map I0 x.Curve_.Pts))),(.d (i64 x.Half)),(.d (i64 x.Limit)),(.d (.list (List.map A7 x.Next)))]
abbrev Nh:Part→List AV:=fun x=> [(.d (i64 x.Lane_)),(.d (i64 x.From)),(.d (i64 x.To)),(.d (i64 x.Rank))]
def Gh (p1:Map)(x3:Int)(x4:Int):Option (Stp Int (Sum Unit Bool)):=
  (D6 p1.Signals x3).bind fun v5=>cond (decide (x4< (v5.Phases.length:Int))) ((D6 p1.Signals x3).bind fun v6=>(D6 v6.Phases x4).bind fun v7=>cond (decide ((v7.Green.length:Int)>14)) (some (.out (.inr false))) (some (.go (I8 (x4+1))))) (some (.out (.inl ())))
def Gi [Lp](p1:Map)(x3:Int):Option (Stp Int (Sum Unit Bool)):=
  cond (decide (x3< (p1.Signals.length:Int))) ((D6 p1.Signals x3).bind fun v4=>cond (decide ((v4.Phases.length:Int)>8)) (some (.out (.inr false))) (thenS (loop (Gh p1 x3) 0) (fun _=>some (.go (I8 (x3+1)))) (fun r=>some (.out (.inr r))))) (some (.out (.inl ())))
def Gj (p1:Map)(x2:Int):Option (Stp Int (Sum Unit Bool)):=
  cond (decide (x2< (p1.Zones.length:Int))) ((D6 p1.Zones x2).bind fun v3=>cond (decide ((v3.Parts.length:Int)>8)) (some (.out (.inr false))) (some (.go (I8 (x2+1))))) (some (.out (.inl ())))
def Gk (p1:Map)(x1:Int):Option (Stp Int (Sum Unit Bool)):=
  cond (decide (x1< (p1.Lanes.length:Int))) ((D6 p1.Lanes x1).bind fun v1=>((cond (!(decide ((v1.Curve_.Pts.length:Int)>18))) (D6 p1.Lanes x1) (some default))).bind fun v2=>cond ((decide ((v1.Curve_.Pts.length:Int)>18))||(decide ((v2.Next.length:Int)>5))) (some (.out (.inr false))) (some (.go (I8 (x1+1))))) (some (.out (.inl ())))
def Il [Lp](p1:Map):Option Bool:=
  cond ((((decide ((p1.Lanes.length:Int)>14))||(decide ((p1.Zones.length:Int)>14)))||(decide ((p1.Signals.length:Int)>6)))||(decide ((p1.Works.length:Int)>10))) (some false) (thenS (loop (Gk p1) 0) (fun _=>thenS (loop (Gj p1) 0) (fun _=>thenS (loop (Gi p1) 0) (fun _=>some true) (fun r=>some r)) (fun r=>some r)) (fun r=>some r))
theorem Qy(p1 r)(h:Il p1=some r):PCall prog 13 [(.agg (O1 p1))] (bo r):=by
 refine C0 (fk func13 ntmps13 m0 (by with_unfolding_all rfl)) (nl Z) ?_
 unfold Il at h
 refine A5 (s0:=⟨T [(0,(.d _))],G []⟩) (D2 Z Z) ?_
 refine lr<|fun u1 _=>sm Z<|sv Z<|A1<|A2<|B5<|sq Z<|sl Z G_hit Z<|sd Z (C1 Z)<|sv Z<|sv Z<|gp Z (I9 Z) (fun _=>Z) (gf Z (vl Z G_hit Z)<|gf Z (fun w3=>(C1<|A4 w3))<|gf Z (vb Z Z Z)<|sd Z (S9 Z Z<|fun hc=>A4<|L3 hc)<|sv Z<|gp Z (I9 Z) (fun _=>Z) (gf Z (vl Z G_hit Z)<|gf Z (fun w7=>(C1<|A4 w7))<|gf Z (vb Z Z Z)<|sd Z (S9 Z Z<|fun hc=>A4<|L3 hc)<|sv Z<|gp Z (I9 Z) (fun _=>Z) (gf Z (vl Z G_hit Z)<|gf Z (fun w11=>(C1<|A4 w11))<|gf Z (vb Z Z Z)<|sd Z (S9 Z Z<|fun hc=>A4<|L3 hc)<|A1<|cc Z h (fun c1 h=> ?_)<|fun c1 h=> ?_)))
 refine A2<|A5 (s0:=⟨T [],G []⟩) (D2 Z Z) ?_
 refine B0<|sv Z<|A1<|B1 ?_
 cases h
 exact A8 (.inr Z) (B4 (B2 Z) C2) (.refl _)
 refine A9<|A2<|A2<|A5 (s0:=⟨T [(1,(.ptr _ _))],G [((1,u1),some<|.box 27 _)]⟩) (D2 Z Z) ?_
 refine B0<|sv Z<|A1<|js h fun z1 hz1 h=>D5 (fun s=> ∃(y1:Unit) (g1:Unit),z1= .inl y1∧Sb ⟨T [(1,(.ptr (1,u1) 0))],G [((1,u1),some<|.box 27 (I4 p1))]⟩ s) ?_ ?_
 refine A6<|E0 (Gk p1) (fun (x1:Int) (g2:Unit)=>⟨T [(1,(.ptr (1,u1) 0)),(3,(di x1))],G [((1,u1),some<|.box 27 (I4 p1))]⟩) 0 () _ hz1 (D2 Z Z) ?_
 intro x1 g2 z2 hz2 ez2
 unfold Gk at hz2
 refine A2<|B5<|sv Z<|sq Z<|sl Z G_hit Z<|sd Z (C1 Z)<|sv Z<|A1<|cc Z hz2 (fun c2 hz2=> ?_)<|fun c2 hz2=> ?_
 refine A9<|A2<|A6<|B5<|sq Z<|sl Z G_hit Z<|sv Z<|bs hz2 fun _ hv1 hz2=>sd Z (C9 Z Z hv1 Z)<|sv Z<|sv Z<|sd Z (F5 Z hv1 Z)<|sd Z (C1 Z)<|sv Z<|sv Z<|gp Z (I9 Z) (fun _=>Z) (gf Z (vl Z G_hit Z)<|gf Z (fun _=>Z)<|bs hz2 fun _ hv2 hz2=>gf Z (fun w16=>(C9 (A4 w16) (A4 w16) (G0 w16 hv2) Z)) ?_)
 refine gf Z (fun w17=>(by simp only [A4 w17];rfl)) ?_
 refine gf Z (fun w18=>(F5 (A4 w18) (G0 w18 hv2) Z))<|gf Z (fun w19=>(C1<|A4 w19))<|gf Z (vb Z Z Z)<|sd Z (S9 Z Z<|fun hc=>A4<|L3 hc)<|A1<|cc Z hz2 (fun c3 hz2=> ?_)<|fun c3 hz2=> ?_
 refine A2<|A5 (s0:=⟨T [],G []⟩) (D2 Z Z) ?_
 refine B0<|sv Z<|A1<|B1 ?_
 cases hz2
 obtain rfl:=ez2 _ rfl
 refine ⟨nofun,E4 ?_⟩
 rw [bJ]at h
 cases h
 exact A8 (.inr Z) (B4 (B2 Z) C2) (.refl _)
 refine A9<|D9<|A5 (s0:=⟨T [(1,(.ptr _ _)),(3,(.d _))],G [((1,u1),some<|.box 27 _)]⟩) (D2 Z Z) ?_
 refine B0<|sv Z<|sv Z<|sv Z<|A1<|E7 ?_
 cases hz2
 exact ⟨Z,(),(D2 Z Z)⟩
 refine C5 Z ?_
 cases hz2
 obtain rfl:=ez2 _ rfl
 refine ⟨nofun,C4 Z<|Y5 ?_⟩
 exact ⟨_,(),Z,(D2 Z Z)⟩
 rintro _ ⟨y1,g1,rfl,q1⟩
 rw [bI]at h
 refine A5 q1<|A2<|B5<|sv Z<|A1<|js h fun z3 hz3 h=>D5 (fun s=> ∃(y2:Unit) (g3:Unit),z3= .inl y2∧Sb ⟨T [(1,(.ptr (1,u1) 0))],G [((1,u1),some<|.box 27 (I4 p1))]⟩ s) ?_ ?_
 refine A6<|E0 (Gj p1) (fun (x2:Int) (g4:Unit)=>⟨T [(1,(.ptr (1,u1) 0)),(4,(di x2))],G [((1,u1),some<|.box 27 (I4 p1))]⟩) 0 () _ hz3 (D2 Z Z) ?_
 intro x2 g4 z4 hz4 ez4
 unfold Gj at hz4
 refine A2<|B5<|sv Z<|sq Z<|sl Z G_hit Z<|sd Z (C1 Z)<|sv Z<|A1<|cc Z hz4 (fun c4 hz4=> ?_)<|fun c4 hz4=> ?_
 refine A9<|A2<|A6<|B5<|sq Z<|sl Z G_hit Z<|sv Z<|bs hz4 fun _ hv3 hz4=>sd Z (C9 Z Z hv3 Z)<|sv Z<|sd Z (F5 Z hv3 Z)<|sd Z (C1 Z)<|sv Z<|A1<|cc Z hz4 (fun c5 hz4=> ?_)<|fun c5 hz4=> ?_
 refine B5<|sv Z<|A1<|B1 ?_
 cases hz4
 obtain rfl:=ez4 _ rfl
 refine ⟨nofun,E4 ?_⟩
 rw [bJ]at h
 cases h
 exact A8 (.inr Z) (B4 (B2 Z) C2) (.refl _)
 refine A9<|D9<|B0<|sv Z<|sv Z<|sv Z<|A1<|E7 ?_
 cases hz4
 exact ⟨Z,(),(D2 Z Z)⟩
 refine C5 Z ?_
 cases hz4
 obtain rfl:=ez4 _ rfl
 refine ⟨nofun,C4 Z<|Y5 ?_⟩
 exact ⟨_,(),Z,(D2 Z Z)⟩
 rintro _ ⟨y2,g3,rfl,q2⟩
 rw [bI]at h
 refine A5 q2<|A2<|B5<|sv Z<|A1<|js h fun z5 hz5 h=>D5 (fun s=> ∃(y3:Unit) (g5:Unit),z5= .inl y3∧Sb ⟨T [],G []⟩ s) ?_ ?_
 refine A6<|E0 (Gi p1) (fun (x3:Int) (g6:Unit)=>⟨T [(1,(.ptr (1,u1) 0)),(5,(di x3))],G [((1,u1),some<|.box 27 (I4 p1))]⟩) 0 () _ hz5 (D2 Z Z) ?_
 intro x3 g6 z6 hz6 ez6
 unfold Gi at hz6
 refine A2<|B5<|sv Z<|sq Z<|sl Z G_hit Z<|sd Z (C1 Z)<|sv Z<|A1<|cc Z hz6 (fun c6 hz6=> ?_)<|fun c6 hz6=> ?_
 refine A9<|A2<|A6<|A2<|B5<|sq Z<|sl Z G_hit Z<|sv Z<|bs hz6 fun _ hv4 hz6=>sd Z (C9 Z Z hv4 Z)<|sv Z<|sd Z (F5 Z hv4 Z)<|sd Z (C1 Z)<|sv Z<|A1<|cc Z hz6 (fun c7 hz6=> ?_)<|fun c7 hz6=> ?_
 refine B5<|sv Z<|A1<|B1 ?_
 cases hz6
 obtain rfl:=ez6 _ rfl
 refine ⟨nofun,E4 ?_⟩
 rw [bJ]at h
 cases h
 exact A8 (.inr Z) (B4 (B2 Z) C2) (.refl _)
 refine A9<|B5<|sv Z<|A1<|js hz6 fun z7 hz7 hz6=>D5 (fun s=> ∃(y4:Unit) (g7:Unit),z7= .inl y4∧Sb ⟨T [(1,(.ptr (1,u1) 0)),(5,(di x3))],G [((1,u1),some<|.box 27 (I4 p1))]⟩ s) ?_ ?_
 refine A6<|E0 (Gh p1 x3) (fun (x4:Int) (g8:Unit)=>⟨T [(1,(.ptr (1,u1) 0)),(5,(di x3)),(6,(di x4))],G [((1,u1),some<|.box 27 (I4 p1))]⟩) 0 () _ hz7 (D2 Z Z) ?_
 intro x4 g8 z8 hz8 ez8
 unfold Gh at hz8
 refine A2<|B5<|sv Z<|sq Z<|sl Z G_hit Z<|sv Z<|bs hz8 fun _ hv5 hz8=>sd Z (C9 Z Z hv5 Z)<|sv Z<|sd Z (F5 Z hv5 Z)<|sd Z (C1 Z)<|sv Z<|A1<|cc Z hz8 (fun c8 hz8=> ?_)<|fun c8 hz8=> ?_
 refine A9<|A2<|A6<|B5<|sq Z<|sl Z G_hit Z<|sv Z<|bs hz8 fun _ hv6 hz8=>sd Z (C9 Z Z hv6 Z)<|sv Z<|sd Z (F5 Z hv6 Z)<|sv Z<|bs hz8 fun _ hv7 hz8=>sd Z (C9 Z Z hv7 Z)<|sv Z<|sd Z (F5 Z hv7 Z)<|sd Z (C1 Z)<|sv Z<|A1<|cc Z hz8 (fun c9 hz8=> ?_)<|fun c9 hz8=> ?_
 refine A2<|A5 (s0:=⟨T [],G []⟩) (D2 Z Z) ?_
 refine B0<|sv Z<|A1<|B1 ?_
 cases hz8
 obtain rfl:=ez8 _ rfl
 refine ⟨nofun,E4 ?_⟩
 rw [bJ]at hz6
 cases hz6
 obtain rfl:=ez6 _ rfl
 refine ⟨nofun,E4 ?_⟩
 rw [bJ]at h
 cases h
 exact A8 (.inr Z) (B4 (B2 Z) C2) (.refl _)
 refine A9<|D9<|A5 (s0:=⟨T [(1,(.ptr _ _)),(5,(.d _)),(6,(.d _))],G [((1,u1),some<|.box 27 _)]⟩) (D2 Z Z) ?_
 refine B0<|sv Z<|sv Z<|sv Z<|A1<|E7 ?_
 cases hz8
 exact ⟨Z,(),(D2 Z Z)⟩
 refine C5 Z ?_
 cases hz8
 obtain rfl:=ez8 _ rfl
 refine ⟨nofun,C4 Z<|Y5 ?_⟩
 exact ⟨_,(),Z,(D2 Z Z)⟩
 rintro _ ⟨y4,g7,rfl,q3⟩
 rw [bI]at hz6
 refine D9<|A5 q3<|B0<|sv Z<|sv Z<|sv Z<|A1<|E7 ?_
 cases hz6
 exact ⟨Z,(),(D2 Z Z)⟩
 refine C5 Z ?_
 cases hz6
 obtain rfl:=ez6 _ rfl
 refine ⟨nofun,C4 Z<|Y5 ?_⟩
 exact ⟨_,(),Z,(D2 Z Z)⟩
 rintro _ ⟨y3,g5,rfl,q4⟩
 rw [bI]at h
 refine A5 q4<|B5<|sv Z<|A1<|B1 ?_
 cases h
 exact A8 (.inr Z) (B4 (B2 Z) C2) (.refl _)
def Ni (p4:(List Int))(x1:(Int×Lane)):Option (Stp (Int×Lane) Lane):=
  cond (decide ((I8 (x1.1+1))< (p4.length:Int))) ((D6 p4 x1.1).bind fun v1=>(D6 p4 (I8 (x1.1+1))).bind fun v2=>(U5 x1.2.Curve_.Pts [(Spot.mk v1 v2)]).bind fun v3=>some (.go ((I8 (x1.1+2)),(Lane.mk x1.2.Kind (Curve.mk v3) x1.2.Half x1.2.Limit x1.2.Next)))) (some (.out x1.2))
def Jd [Lp](p1:Int)(p2:Int)(p3:(List Int))(p4:(List Int)):Option Lane:=
  (loop (Ni p4) (0,(Lane.mk p1 (Curve.mk []) 1500 p2 p3))).bind fun y1=>cond (p1==3) (some (Lane.mk y1.Kind y1.Curve_ 500 y1.Limit y1.Next)) (some y1)
theorem Ti(p1 p2 p3 p4 r)(h:Jd p1 p2 p3 p4=some r):PCall prog 115 [(i64 p1),(i64 p2),(.list (List.map A7 p3)),(.list (List.map A7 p4))] (.agg (R8 r)):=by
 refine C0 (fk func115 ntmps115 (fun r=>if r==5 then [1013]else []) (by with_unfolding_all rfl)) (nl Z) ?_
 unfold Jd at h
 refine A5 (s0:=⟨T [(0,(.d _)),(1,(.d _)),(2,(.d _)),(3,(.d _))],G []⟩) (D2 Z Z) ?_
 refine lr<|fun u1 _=>sm Z<|A1<|lr<|fun u2 _=>sv Z<|sv Z<|sv Z<|sv Z<|sm Z<|Aj Z G_hit [(di p1),(.d .nilS),(di 1500),(di p2),(dl A7 p3)] Z (A1<|A2<|B5<|sv Z<|A1<|bs h fun y1 hy1 h=>D5 (fun s=> ∃g1:Nat,Sb ⟨T [(0,(di p1)),(8,(.ptr (8,u1) 0)),(9,(.ptr (9,u2) 0))],G [((8,u1),some<|.box 42 (((zs 4).set 1 (.d .nilS))++ [(.d .nilS)])),((9,u2),some<|.box 42 ((De y1).set 1 (oS y1.Curve_.Pts (36,g1)))),((36,g1),oB 148 2 I0 y1.Curve_.Pts)]⟩ s) ?_ ?_)
 refine A6<|E0 (Ni p4) (fun (x1:(Int×Lane)) (g2:Nat)=>⟨T [(0,(di p1)),(3,(dl A7 p4)),(8,(.ptr (8,u1) 0)),(9,(.ptr (9,u2) 0)),(10,(di x1.1))],G [((8,u1),some<|.box 42 (((zs 4).set 1 (.d .nilS))++ [(.d .nilS)])),((9,u2),some<|.box 42 ((De x1.2).set 1 (oS x1.2.Curve_.Pts (36,g2)))),((36,g2),oB 148 2 I0 x1.2.Curve_.Pts)]⟩) (0,(Lane.mk p1 (Curve.mk []) 1500 p2 p3)) 0 _ hy1 (C3 (U2 Z)<|sg Z<|B7 G_hit (.of Z)<|Y1 trivial) ?_
 intro x1 g2 z1 hz1 ez1
 unfold Ni at hz1
 refine A2<|B5<|sv Z<|sv Z<|sv Z<|sd Z (C1 Z)<|sv Z<|A1<|cc Z hz1 (fun c1 hz1=> ?_)<|fun c1 hz1=> ?_
 refine A9<|A2<|A6<|Lj Z fun u5 _=>sq Z<|sq Z<|B6 (oS x1.2.Curve_.Pts (36,g2)) Z (Gf Z (gq Z) Z) (sv Z<|sv Z<|bs hz1 fun v1 hv1 hz1=>sd Z (C9 Z Z hv1 Z)<|sd Z (F5 Z hv1 Z)<|sv Z<|sv Z<|sv Z<|bs hz1 fun v2 hv2 hz1=>sd Z (C9 Z Z hv2 Z)<|sd Z (F5 Z hv2 Z)<|sv Z<|B6 (dl I0 [(Spot.mk v1 v2)]) Z Z (bs hz1 fun _ hv3 hz1=>J2 I0 (36,g2) x1.2.Curve_.Pts (Spot.mk v1 v2) [] _ (F4<|fun _=>Z) Z (gq Z) hv3 (sq Z<|sp Z Z<|Aj Z (gq Z) ((De x1.2).set 1 (.sl (36,u5))) Z (A1<|D9<|A5 (s0:=⟨T [(0,(.d _)),(3,(.d _)),(8,(.ptr _ _)),(9,(.ptr _ _)),(10,(.d _))],G [((8,u1),some<|.box 42 _),((9,u2),some<|.box 42 _),((36,u5),some _)]⟩) (D2 Z Z) ?_))))
 refine B0<|sv Z<|sv Z<|sv Z<|A1<|E7 ?_
 cases hz1
 exact ⟨Z,u5,(C3 (U2 Z)<|B7 G_hit (.of Z)<|B7 (gq Z) (.box (cv<|.cons (.of (Ai<|O0 hv3).symm) cw)) (P5 (gq Z) trivial))⟩
 refine C5 Z ?_
 cases hz1
 obtain rfl:=ez1 _ rfl
 refine ⟨nofun,C4 Z<|Y5 ?_⟩
 exact ⟨g2,(C3 (U2 Z)<|B7 G_hit (.of Z)<|sg Z<|D3 (gq Z) trivial)⟩
 rintro _ ⟨g1,q1⟩
 refine A5 q1<|A2<|B5<|sv Z<|sv Z<|A1<|cc Z h (fun c2 h=> ?_)<|fun c2 h=> ?_
 refine B0<|sq Z<|Aj Z (gq Z) (((De y1).set 1 (oS y1.Curve_.Pts (36,g1))).set 2 (di 500)) Z (A1<|B5<|B6 (Bv (((De y1).set 1 (oS y1.Curve_.Pts (36,g1))).set 2 (di 500))) Z (B3 Z G_hit Z Z) (Cq _ _ _ _ _ (Cr _) Z Z (gq Z) (nl Z) (((De y1).set 1 (oS y1.Curve_.Pts (36,g1))).set 2 (di 500)) Z (A1<|B1 ?_)))
 cases h
 exact A8 (.inr Z) (B4 (H8 Z G_hit (nl Z) Z)<|Iz<|rD<|O4 (Ed<|gq Z)<|rD<|rD<|rD K9) (.agg (ca Z<|.cons ⟨Ec,Z⟩ (cz Z)))
 refine A9<|B5<|B6 (Bv ((De y1).set 1 (oS y1.Curve_.Pts (36,g1)))) Z (B3 Z (gq Z) Z Z) (Cq _ _ _ _ _ (Cr _) Z Z G_hit (nl Z) ((De y1).set 1 (oS y1.Curve_.Pts (36,g1))) Z (A1<|B1 ?_))
 cases h
 exact A8 (.inr Z) (B4 (H8 Z G_hit (nl Z) Z)<|Iz<|rD<|O4 (Ed<|gq Z)<|rD<|rD<|rD K9) (.agg (ca Z<|.cons ⟨Ec,Z⟩ (cz Z)))
def Im [Lp]:Option Map:=
  (Jd 1 1500 [] [0,0,100000,0]).bind fun v1=>(Jd 1 1500 [] [50000,(-50000),50000,50000]).bind fun v2=>some (Map.mk 0 [v1,v2] [(Zone.mk [(Part.mk 0 48000 52000 1),(Part.mk 1 48000 52000 0)] 0)] [] [])
theorem AD(r)(h:Im=some r):PCall prog 58 [] (.agg (O1 r)):=by
 refine C0 (fk func58 ntmps58 (fun r=>if r==1 then [1000,1002,1004,1007,1009]else []) (by with_unfolding_all rfl)) (nl Z) ?_
 unfold Im at h
 refine A5 (s0:=⟨T [],G []⟩) (D2 Z Z) ?_
 refine B5<|sm Z<|A1<|B5<|B6 (dl A7 [0,0,100000,0]) Z Z (bs h fun v1 hv1 h=>B8 Z Z (.cons (.refl _) (.cons (.refl _) (.cons DLe.nil A3))) (Ti _ _ _ _ _ hv1) (.inl Z) (B6 (dl A7 [50000,(-50000),50000,50000]) Z Z (bs h fun v2 hv2 h=>B8 Z Z (.cons (.refl _) (.cons (.refl _) (.cons DLe.nil A3))) (Ti _ _ _ _ _ hv2) (.inl Z) (B6 (dl R8 [v1,v2]) Z (Bx R8 ([v1,v2]:List Lane) (fun _=>Z) Z Z ⟨Z,Z,Z,Z,Z,Z,trivial⟩ (fun _=>Z)) (sv Z<|sv Z<|B6 (dl G1 [(Part.mk 0 48000 52000 1),(Part.mk 1 48000 52000 0)]) Z Z (sv Z<|B6 (dl N8 [(Zone.mk [(Part.mk 0 48000 52000 1),(Part.mk 1 48000 52000 0)] 0)]) Z Z (sv Z<|Aj Z G_hit [(di 0),(dl R8 [v1,v2]),(dl N8 [(Zone.mk [(Part.mk 0 48000 52000 1),(Part.mk 1 48000 52000 0)] 0)]),(.d .nilS),(.d .nilS)] Z (A1<|B1 ?_))))))))
 cases h
 exact A8 (.inr Z) (B4 (H8 Z G_hit (nl Z) Z) C2) (.agg (ca Z<|ca Z<|ca Z<|.cons ⟨DLe.nil,Z⟩ (.cons ⟨DLe.nil,Z⟩ .nil)))
def Q7 (p1:Int)(p2:Int)(p3:Int):Option Bool:=
  some ((decide (p2≤p1))&& (decide (p1≤p3)))
theorem Q5(p1 p2 p3 r)(h:Q7 p1 p2 p3=some r):PCall prog 134 [(i64 p1),(i64 p2),(i64 p3)] (bo r):=by
 refine C0 (fk func134 ntmps134 m0 (by with_unfolding_all rfl)) (nl Z) ?_
 unfold Q7 at h
 refine A5 (s0:=⟨T [(0,(.d _)),(1,(.d _)),(2,(.d _))],G []⟩) (D2 Z Z) ?_
 refine B5<|sv Z<|A1<|B5<|sv Z<|sv Z<|sv Z<|sv Z<|gt Z (fun _=>Z)<|gt Z (fun _=>Z)<|gt Z (fun w3=>(T1 (A4 w3) (A4 w3) Z))<|sa Z Z Z<|sv Z<|A1<|B1 ?_
 cases h
 exact A8 (.inr Z) (B4 (B2 Z) C2) (.refl _)
def T9 (p1:RoadsCheck):Option Int:=
  (Q7 p1.Map_.Version 0 1099511627776).bind fun v1=>cond (!v1) (some 2) (cond ((p1.Map_.Lanes.length:Int)==0) (some 6) (cond ((((decide ((p1.Map_.Lanes.length:Int)>12))||(decide ((p1.Map_.Zones.length:Int)>12)))||(decide ((p1.Map_.Signals.length:Int)>4)))||(decide ((p1.Map_.Works.length:Int)>8))) (some 8) (some 0)))
theorem Lm(p1 r)(h:T9 p1=some r):PCall prog 65 [(.agg (O1 p1.Map_))] (i64 r):=by
 refine C0 (fk func65 ntmps65 m0 (by with_unfolding_all rfl)) (nl Z) ?_
 unfold T9 at h
 refine A5 (s0:=⟨T [(0,(.d _))],G []⟩) (D2 Z Z) ?_
 refine B5<|sm Z<|sv Z<|A1<|A2<|A6<|B5<|sq Z<|sp Z Z<|sl Z G_hit Z<|bs h fun v1 hv1 h=>B8 Z Z A3 (Q5 _ _ _ _ hv1) (.inl Z) (B6 (.d (bo (!v1))) Z Z (sv Z<|A1<|cc Z h (fun c1 h=> ?_)<|fun c1 h=> ?_))
 refine B5<|sv Z<|A1<|B1 ?_
 cases h
 exact A8 (.inr Z) (B4 (B2 Z) C2) (.refl _)
 refine B5<|sq Z<|sp Z Z<|sl Z G_hit Z<|sd Z (C1 Z)<|sv Z<|sv Z<|A1<|cc Z h (fun c2 h=> ?_)<|fun c2 h=> ?_
 refine B5<|sv Z<|A1<|B1 ?_
 cases h
 exact A8 (.inr Z) (B4 (B2 Z) C2) (.refl _)
 refine B5<|sq Z<|sp Z Z<|sl Z G_hit Z<|sd Z (C1 Z)<|sv Z<|sv Z<|gp Z (I9 Z) (fun _=>Z) ?_
 refine Ck _ (.ptr _ _) Z (I9 Z) (fun w2=>(by simp only [A4 w2];rfl)) ?_
 refine gf Z (vl Z G_hit Z)<|gf Z (fun w4=>(C1<|A4 w4))<|gf Z (vb Z Z Z)<|sd Z (S9 Z Z<|fun hc=>A4<|L3 hc)<|sv Z<|gp Z (I9 Z) (fun _=>Z) ?_
 refine Ck _ (.ptr _ _) Z (I9 Z) (fun w7=>(by simp only [A4 w7];rfl)) ?_
 refine gf Z (vl Z G_hit Z)<|gf Z (fun w9=>(C1<|A4 w9))<|gf Z (vb Z Z Z)<|sd Z (S9 Z Z<|fun hc=>A4<|L3 hc)<|sv Z<|gp Z (I9 Z) (fun _=>Z) ?_
 refine Ck _ (.ptr _ _) Z (I9 Z) (fun w12=>(by simp only [A4 w12];rfl)) ?_
 refine gf Z (vl Z G_hit Z)<|gf Z (fun w14=>(C1<|A4 w14))<|gf Z (vb Z Z Z)<|sd Z (S9 Z Z<|fun hc=>A4<|L3 hc)<|sv Z<|A1<|cc Z h (fun c3 h=> ?_)<|fun c3 h=> ?_
 refine A2<|A5 (s0:=⟨T [],G []⟩) (D2 Z Z) ?_
 refine B0<|sv Z<|A1<|B1 ?_
 cases h
 exact A8 (.inr Z) (B4 (B2 Z) C2) (.refl _)
 refine A9<|D9<|A2<|A5 (s0:=⟨T [],G []⟩) (D2 Z Z) ?_
 refine B0<|sv Z<|A1<|B1 ?_
 cases h
 exact A8 (.inr Z) (B4 (B2 Z) C2) (.refl _)
def En (p1:Int):Option (Int×Int×Int):=
  cond ((decide (p1<0))||(decide (p1≥4))) (some (0,0,0)) ((D6 ([(0,0,0),(2000,30,90),(1000,20,60),(300,100,300)]:List (Int×Int×Int)) p1).bind fun v1=>some (v1.1,v1.2.1,v1.2.2))
theorem Mb(p1 r)(h:En p1=some r):PCall prog 169 [(i64 p1)] (.tup [(i64 r.1),(i64 r.2.1),(i64 r.2.2)]):=by
 refine C0 (fk func169 ntmps169 m0 (by with_unfolding_all rfl)) (nl Z) ?_
 unfold En at h
 refine A5 (s0:=⟨T [(0,(.d _))],G []⟩) (D2 Z Z) ?_
 refine B5<|sv Z<|sv Z<|sv Z<|A1<|B5<|sv Z<|sv Z<|sv Z<|sv Z<|sm Z<|Aj Z G_hit [(di 0),(di 0),(di 0),(di 2000),(di 30),(di 90),(di 1000),(di 20),(di 60),(di 300),(di 100),(di 300)] Z (A1<|A2<|B5<|sv Z<|sv Z<|sv Z<|gf Z (fun _=>Z)<|gf Z (vb Z Z Z)<|sd Z (S9 Z Z<|fun hc=>A4<|L3 hc)<|A1<|cc Z h (fun c1 h=> ?_)<|fun c1 h=> ?_)
 refine B5<|sv Z<|sv Z<|sv Z<|A1<|B1 ?_
 cases h
 exact A8 (.inr Z) (Tf (B2 Z) (B2 Z) (B2 Z) C2 C2 C2) (.refl _)
 refine A9<|lr<|fun u5 _=>sv Z<|bs h fun v1 hv1 h=>sp Z (Qx Z Z hv1 Z)<|sd Z (LW (f:=TN) Z G_hit hv1 (fun _=>Z) Z Z)<|sm Z<|Aj Z G_hit [(di v1.1),(di v1.2.1),(di v1.2.2)] Z (A1<|A2<|A5 (s0:=⟨T [(6,(.ptr _ _))],G [((6,u5),some<|.box 249 _)]⟩) (D2 Z Z) ?_)
 refine J6 Z<|sq Z<|sl Z G_hit Z<|sq Z<|sl Z G_hit Z<|sq Z<|sl Z G_hit Z<|sv Z<|sv Z<|sv Z<|A1<|B1 ?_
 cases h
 exact A8 (.inr Z) (Tf (B2 Z) (B2 Z) (B2 Z) C2 C2 C2) (.refl _)
def Bl (p1:(List Spot))(x1:Int):Option (Stp Int (Sum Unit Bool)):=
  cond (decide (x1< (p1.length:Int))) ((D6 p1 x1).bind fun v1=>cond ((decide ((Ej false v1.X v1.Y)< (-16777216)))||(decide ((Ej true v1.X v1.Y)>16777216))) (some (.out (.inr false))) (some (.go (I8 (x1+1))))) (some (.out (.inl ())))
def Ee [Lp](p1:(List Spot)):Option Bool:=
  thenS (loop (Bl p1) 0) (fun _=>some true) (fun r=>some r)
theorem Xg(p1 r)(h:Ee p1=some r):PCall prog 233 [(.list (List.map I0 p1))] (bo r):=by
 refine C0 (fk func233 ntmps233 m0 (by with_unfolding_all rfl)) (nl Z) ?_
 unfold Ee at h
 refine A5 (s0:=⟨T [(0,(.d _))],G []⟩) (D2 Z Z) ?_
 refine B5<|sv Z<|A1<|A2<|B5<|sv Z<|sd Z (C1 Z)<|sv Z<|A1<|js h fun z1 hz1 h=>D5 (fun s=> ∃(y1:Unit) (g1:Unit),z1= .inl y1∧Sb ⟨T [],G []⟩ s) ?_ ?_
 refine A6<|E0 (Bl p1) (fun (x1:Int) (g2:Unit)=>⟨T [(5,(dl I0 p1)),(6,(di (p1.length:Int))),(7,(di x1))],G []⟩) 0 () _ hz1 (D2 Z Z) ?_
 intro x1 g2 z2 hz2 ez2
 unfold Bl at hz2
 refine B5<|sv Z<|A1<|A2<|cc Z hz2 (fun c1 hz2=> ?_)<|fun c1 hz2=> ?_
 refine A9<|A2<|A6<|B5<|bs hz2 fun v1 hv1 hz2=>sd Z (C9 Z Z hv1 Z)<|sd Z (B9 Z hv1 Z Z)<|sm Z<|Aj Z G_hit [(di v1.X),(di v1.Y)] Z (A1<|B5<|sq Z<|sl Z G_hit Z<|sq Z<|sl Z G_hit Z<|sv Z<|sv Z<|sv Z<|gp Z (I9 Z) (fun _=>Z) (gf Z (vl Z G_hit Z)<|gp Z (I9 Z) (fun _=>Z) (gf Z (vl Z G_hit Z) ?_)))
 refine gf Z (fun w5=>(by simp only [A4 w5];rfl)) ?_
 refine gf Z (vb Z Z Z)<|sd Z (S9 Z Z<|fun hc=>A4<|L3 hc)<|A1<|cc Z hz2 (fun c2 hz2=> ?_)<|fun c2 hz2=> ?_
 refine A2<|A5 (s0:=⟨T [],G []⟩) (D2 Z Z) ?_
 refine B0<|sv Z<|A1<|B1 ?_
 cases hz2
 obtain rfl:=ez2 _ rfl
 refine ⟨nofun,E4 ?_⟩
 rw [bJ]at h
 cases h
 exact A8 (.inr Z) (B4 (B2 Z) C2) (.refl _)
 refine A9<|D9<|A5 (s0:=⟨T [(5,(.d _)),(6,(.d _)),(7,(.d _))],G []⟩) (D2 Z Z) ?_
 refine B0<|sv Z<|sv Z<|A1<|E7 ?_
 cases hz2
 exact ⟨Z,(),(D2 Z Z)⟩
 refine C5 Z ?_
 cases hz2
 obtain rfl:=ez2 _ rfl
 refine ⟨nofun,C4 Z<|Y5 ?_⟩
 exact ⟨_,(),Z,(D2 Z Z)⟩
 rintro _ ⟨y1,g1,rfl,q1⟩
 rw [bI]at h
 refine A5 q1<|B5<|sv Z<|A1<|B1 ?_
 cases h
 exact A8 (.inr Z) (B4 (B2 Z) C2) (.refl _)
def Gw (p1:Spot)(p2:Spot):Option CurveVector:=
  some (CurveVector.mk (I8 (p2.X - p1.X)) (I8 (p2.Y - p1.Y)))
theorem Ov(p1 p2 r)(h:Gw p1 p2=some r):PCall prog 234 [(.agg [(i64 p1.X),(i64 p1.Y)]),(.agg [(i64 p2.X),(i64 p2.Y)])] (.agg [(i64 r.x),(i64 r.y)]):=by
 refine C0 (fk func234 ntmps234 m0 (by with_unfolding_all rfl)) (nl Z) ?_
 unfold Gw at h
 refine A5 (s0:=⟨T [(0,(.d _)),(1,(.d _))],G []⟩) (D2 Z Z) ?_
 refine B5<|sm Z<|sn Z Z<|sm Z<|A1<|B5<|sq Z<|sl Z (gq Z) Z (sq Z<|sl Z (gq Z) Z (sv Z<|sq Z<|sl Z (gq Z) Z (sq Z<|sl Z (gq Z) Z (sv Z<|sv Z<|Aj Z G_hit [(di<|I8 (p2.X - p1.X)),(di<|I8 (p2.Y - p1.Y))] Z (A1<|B1 ?_)))))
 cases h
 exact A8 (.inr Z) (B4 (H8 Z G_hit (nl Z) Z) C2) (.refl _)
def U9 (p1:CurveVector)(p2:CurveVector):Option Int:=
  some (I8 ((I8 (p1.x*p2.x))+ (I8 (p1.y*p2.y))))
theorem Fc(p1 p2 r)(h:U9 p1 p2=some r):PCall prog 236 [(.agg [(i64 p1.x),(i64 p1.y)]),(.agg [(i64 p2.x),(i64 p2.y)])] (i64 r):=by
 refine C0 (fk func236 ntmps236 m0 (by with_unfolding_all rfl)) (nl Z) ?_
 unfold U9 at h
 refine A5 (s0:=⟨T [(0,(.d _)),(1,(.d _))],G []⟩) (D2 Z Z) ?_
 refine B5<|sm Z<|sn Z Z<|sv Z<|A1<|B5<|sq Z<|sl Z (gq Z) Z (sq Z<|sl Z G_hit Z<|sv Z<|sq Z<|sl Z (gq Z) Z (sq Z<|sl Z G_hit Z<|sv Z<|sv Z<|sv Z<|A1<|B1 ?_))
 cases h
 exact A8 (.inr Z) (B4 (B2 Z) C2) (.refl _)
def Fe (p1:Int)(x1:(Int×Int)):Option (Stp (Int×Int) Int):=
  cond (decide (x1.1<x1.2)) (cond (decide ((I8 ((I8 ((I8 (x1.1+x1.2)).tdiv 2))* (I8 ((I8 (x1.1+x1.2)).tdiv 2))))<p1)) (some (.go ((I8 ((I8 ((I8 (x1.1+x1.2)).tdiv 2))+1)),x1.2))) (some (.go (x1.1,(I8 ((I8 (x1.1+x1.2)).tdiv 2)))))) (some (.out x1.1))
def Bm [Lp](p1:Int):Option (Int×Bool):=
  (loop (Fe p1) (0,67108864)).bind fun y1=>some (y1,((I8 (y1*y1))==p1))
theorem Ow(p1 r)(h:Bm p1=some r):PCall prog 235 [(i64 p1)] (.tup [(i64 r.1),(bo r.2)]):=by
 refine C0 (fk func235 ntmps235 m0 (by with_unfolding_all rfl)) (nl Z) ?_
 unfold Bm at h
 refine A5 (s0:=⟨T [(0,(.d _))],G []⟩) (D2 Z Z) ?_
 refine B5<|sv Z<|sv Z<|A1<|B5<|sv Z<|sv Z<|A1<|A2<|bs h fun y1 hy1 h=>D5 (fun s=> ∃g1:Unit,Sb ⟨T [(0,(di p1)),(4,(di y1))],G []⟩ s) ?_ ?_
 refine A6<|E0 (Fe p1) (fun (x1:(Int×Int)) (g2:Unit)=>⟨T [(0,(di p1)),(4,(di x1.1)),(5,(di x1.2))],G []⟩) (0,67108864) () _ hy1 (D2 Z Z) ?_
 intro x1 g2 z1 hz1 ez1
 unfold Fe at hz1
 refine A2<|B5<|sv Z<|sv Z<|sv Z<|A1<|cc Z hz1 (fun c1 hz1=> ?_)<|fun c1 hz1=> ?_
 refine A9<|A6<|B5<|sv Z<|sv Z<|sv Z<|sv Z<|sv Z<|A1<|B5<|sv Z<|sv Z<|sv Z<|sv Z<|sv Z<|A1<|cc Z hz1 (fun c2 hz1=> ?_)<|fun c2 hz1=> ?_
 refine B0<|sv Z<|sv Z<|sv Z<|A1<|D9<|E7 ?_
 cases hz1
 exact ⟨Z,(),(D2 Z Z)⟩
 refine B0<|sv Z<|sv Z<|A1<|D9<|E7 ?_
 cases hz1
 exact ⟨Z,(),(D2 Z Z)⟩
 refine C5 Z ?_
 cases hz1
 obtain rfl:=ez1 _ rfl
 refine ⟨nofun,C4 Z<|Y5 ?_⟩
 exact ⟨(),(D2 Z Z)⟩
 rintro _ ⟨g1,q1⟩
 refine A5 q1<|B5<|sv Z<|sv Z<|sv Z<|sv Z<|sv Z<|sv Z<|sv Z<|sv Z<|A1<|B1 ?_
 cases h
 exact A8 (.inr Z) (Te (B2 Z) (B2 Z) C2 C2) (.refl _)
def R6 [Lp](p1:Curve)(x1:(Int×CurveVector)):Option (Stp (Int×CurveVector) (Sum Unit Int)):=
  cond (decide (x1.1< (I8 ((p1.Pts.length:Int) - 1)))) ((D6 p1.Pts x1.1).bind fun v2=>(D6 p1.Pts (I8 (x1.1+1))).bind fun v3=>(Gw v2 v3).bind fun v4=>(U9 v4 v4).bind fun v5=>(Bm v5).bind fun v6=>cond (!v6.2) (some (.out (.inr 3))) (cond ((decide (v6.1<1000))||(decide (v6.1>1048576))) (some (.out (.inr 2))) (((cond (decide (x1.1>0)) (U9 x1.2 v4) (some default))).bind fun v7=>cond ((decide (x1.1>0))&& (decide (v7≤0))) (some (.out (.inr 12))) (some (.go ((I8 (x1.1+1)),v4)))))) (some (.out (.inl ())))
def Az [Lp](p1:Curve):Option Int:=
  cond (decide ((p1.Pts.length:Int)<2)) (some 6) (cond (decide ((p1.Pts.length:Int)>16)) (some 5) ((Ee p1.Pts).bind fun v1=>cond (!v1) (some 2) (thenS (loop (R6 p1) (0,(CurveVector.mk 0 0))) (fun _=>some 0) (fun r=>some r))))
theorem Nj(p1 r)(h:Az p1=some r):PCall prog 170 [(.agg [(.list (List.map I0 p1.Pts))])] (i64 r):=by
 refine C0 (fk func170 ntmps170 m0 (by with_unfolding_all rfl)) (nl Z) ?_
 unfold Az at h
 refine A5 (s0:=⟨T [(0,(.d _))],G []⟩) (D2 Z Z) ?_
 refine lr<|fun u1 _=>sm Z<|sv Z<|A1<|A2<|A6<|B5<|sq Z<|sl Z G_hit Z<|sd Z (C1 Z)<|sv Z<|sv Z<|A1<|cc Z h (fun c1 h=> ?_)<|fun c1 h=> ?_
 refine B5<|sv Z<|A1<|B1 ?_
 cases h
 exact A8 (.inr Z) (B4 (B2 Z) C2) (.refl _)
 refine B5<|sq Z<|sl Z G_hit Z<|sd Z (C1 Z)<|sv Z<|sv Z<|A1<|cc Z h (fun c2 h=> ?_)<|fun c2 h=> ?_
 refine B5<|sv Z<|A1<|B1 ?_
 cases h
 exact A8 (.inr Z) (B4 (B2 Z) C2) (.refl _)
 refine B5<|sq Z<|sl Z G_hit Z<|bs h fun v1 hv1 h=>B8 Z Z A3 (Xg _ _ hv1) (.inl Z) (B6 (.d (bo (!v1))) Z Z (sv Z<|A1<|cc Z h (fun c3 h=> ?_)<|fun c3 h=> ?_))
 refine B5<|sv Z<|A1<|B1 ?_
 cases h
 exact A8 (.inr Z) (B4 (B2 Z) C2) (.refl _)
 refine A9<|D9<|lr<|fun u8 _=>sm Z<|A1<|A2<|B5<|sq Z<|sl Z (gq Z) Z (sd Z (C1 Z)<|sv Z<|sv Z<|A1<|js h fun z1 hz1 h=>D5 (fun s=> ∃(y1:Unit) (g1:Unit),z1= .inl y1∧Sb ⟨T [],G []⟩ s) ?_ ?_)
 refine A6<|E0 (R6 p1) (fun (x1:(Int×CurveVector)) (g2:Unit)=>⟨T [(1,(.ptr (1,u1) 0)),(3,(.ptr (3,u8) 0)),(26,(di<|I8 ((p1.Pts.length:Int) - 1))),(27,(di x1.1))],G [((1,u1),some<|.box 39 [(dl I0 p1.Pts)]),((3,u8),some<|.box 253 [(di x1.2.x),(di x1.2.y)])]⟩) (0,(CurveVector.mk 0 0)) () _ hz1 (D2 Z Z) ?_
 intro x1 g2 z2 hz2 ez2
 unfold R6 at hz2
 refine B5<|sv Z<|A1<|A2<|cc Z hz2 (fun c4 hz2=> ?_)<|fun c4 hz2=> ?_
 refine A9<|A2<|A6<|B5<|sv Z<|sv Z<|A1<|A2<|Lj Z fun u12 _=>sq Z<|sl Z G_hit Z<|sv Z<|bs hz2 fun _ hv2 hz2=>sd Z (C9 Z Z hv2 Z)<|sd Z (B9 Z hv2 Z Z)<|sq Z<|sl Z G_hit Z<|sv Z<|sv Z<|bs hz2 fun _ hv3 hz2=>sd Z (C9 Z Z hv3 Z)<|sd Z (B9 Z hv3 Z Z)<|bs hz2 fun v4 hv4 hz2=>B8 Z Z A3 (Ov _ _ _ hv4) (.inl Z) (sm Z<|Aj Z G_hit [(di v4.x),(di v4.y)] Z (A1<|A2<|A5 (s0:=⟨T [(1,(.ptr _ _)),(3,(.ptr _ _)),(4,(.d _)),(5,(.ptr _ _)),(26,(.d _)),(27,(.d _))],G [((1,u1),some<|.box 39 _),((3,u8),some<|.box 253 _),((5,u12),some<|.box 253 _)]⟩) (D2 Z Z) ?_))
 refine B0<|sd Z (B3 Z (gq Z) Z Z)<|sd Z (B3 Z (gq Z) Z Z)<|bs hz2 fun _ hv5 hz2=>B8 Z Z A3 (Fc _ _ _ hv5) (.inl Z) (bs hz2 fun v6 hv6 hz2=>B8 Z Z A3 (Ow _ _ hv6) (.inl Z) (sv Z<|sv Z<|sv Z<|sv Z<|sv Z<|A1<|A2<|A6<|B5<|sv Z<|B6 (.d (bo (!v6.2))) Z Z (sv Z<|A1<|cc Z hz2 (fun c5 hz2=> ?_)<|fun c5 hz2=> ?_)))
 refine B5<|sv Z<|A1<|B1 ?_
 cases hz2
 obtain rfl:=ez2 _ rfl
 refine ⟨nofun,E4 ?_⟩
 rw [bJ]at h
 cases h
 exact A8 (.inr Z) (B4 (B2 Z) C2) (.refl _)
 refine B5<|sv Z<|sv Z<|sv Z<|gf Z (fun _=>Z)<|gf Z (vb Z Z Z)<|sd Z (S9 Z Z<|fun hc=>A4<|L3 hc)<|sv Z<|A1<|cc Z hz2 (fun c6 hz2=> ?_)<|fun c6 hz2=> ?_
 refine A2<|A5 (s0:=⟨T [],G []⟩) (D2 Z Z) ?_
 refine B0<|sv Z<|A1<|B1 ?_
 cases hz2
 obtain rfl:=ez2 _ rfl
 refine ⟨nofun,E4 ?_⟩
 rw [bJ]at h
 cases h
 exact A8 (.inr Z) (B4 (B2 Z) C2) (.refl _)
 refine A2<|A5 (s0:=⟨T [(1,(.ptr _ _)),(3,(.ptr _ _)),(4,(.d _)),(5,(.ptr _ _)),(26,(.d _)),(27,(.d _))],G [((1,u1),some<|.box 39 _),((3,u8),some<|.box 253 _),((5,u12),some<|.box 253 _)]⟩) (D2 Z Z) ?_
 refine B0<|sv Z<|sv Z<|sv Z<|gt Z (fun _=>(B3 Z (gq Z) Z Z))<|gt Z (fun _=>(B3 Z (gq Z) Z Z))<|bs hz2 fun v7 hv7 hz2=> ?_
 refine L4 _ (i64 v7) (P4 Z) (fun w5=>⟨_,[(.d (.agg [(i64 x1.2.x),(i64 x1.2.y)])),(.d (.agg [(i64 v4.x),(i64 v4.y)]))],_,_,(by simp only [A4 w5];rfl),Z,A3,Fc _ _ _<|G0 w5 hv7,(.inl Z)⟩) ?_
 refine gt Z (vb Z Z Z)<|sa Z Z Z<|sv Z<|A1<|cc Z hz2 (fun c7 hz2=> ?_)<|fun c7 hz2=> ?_
 refine B5<|sv Z<|A1<|B1 ?_
 cases hz2
 obtain rfl:=ez2 _ rfl
 refine ⟨nofun,E4 ?_⟩
 rw [bJ]at h
 cases h
 exact A8 (.inr Z) (B4 (B2 Z) C2) (.refl _)
 refine A9<|D9<|B0<|sd Z (B3 Z (gq Z) Z Z)<|Aj Z (gq Z) [(di v4.x),(di v4.y)] Z (A1<|D9<|B0<|sv Z<|sv Z<|A1<|E7 ?_)
 cases hz2
 exact ⟨Z,(),(D2 Z Z)⟩
 refine C5 Z ?_
 cases hz2
 obtain rfl:=ez2 _ rfl
 refine ⟨nofun,C4 Z<|Y5 ?_⟩
 exact ⟨_,(),Z,(D2 Z Z)⟩
 rintro _ ⟨y1,g1,rfl,q1⟩
 rw [bI]at h
 refine A5 q1<|B5<|sv Z<|A1<|B1 ?_
 cases h
 exact A8 (.inr Z) (B4 (B2 Z) C2) (.refl _)
def X2 (p1:(List Int))(p3:Int)(x1:(Int×Int)):Option (Stp (Int×Int) (Sum Unit Bool)):=
  cond (decide (x1.2< (p1.length:Int))) ((D6 p1 x1.2).bind fun v1=>cond ((decide (v1<x1.1))||(decide (v1≥p3))) (some (.out (.inr false))) (some (.go ((I8 (v1+1)),(I8 (x1.2+1)))))) (some (.out (.inl ())))
def W2 [Lp](p1:(List Int))(p2:Int)(p3:Int):Option Bool:=
  thenS (loop (X2 p1 p3) (p2,0)) (fun _=>some true) (fun r=>some r)
theorem Hr(p1 p2 p3 r)(h:W2 p1 p2 p3=some r):PCall prog 171 [(.list (List.map A7 p1)),(i64 p2),(i64 p3)] (bo r):=by
 refine C0 (fk func171 ntmps171 m0 (by with_unfolding_all rfl)) (nl Z) ?_
 unfold W2 at h
 refine A5 (s0:=⟨T [(0,(.d _)),(1,(.d _)),(2,(.d _))],G []⟩) (D2 Z Z) ?_
 refine B5<|sv Z<|A1<|A2<|B5<|sv Z<|sd Z (C1 Z)<|sv Z<|A1<|js h fun z1 hz1 h=>D5 (fun s=> ∃(y1:Unit) (g1:Unit),z1= .inl y1∧Sb ⟨T [],G []⟩ s) ?_ ?_
 refine A6<|E0 (X2 p1 p3) (fun (x1:(Int×Int)) (g2:Unit)=>⟨T [(1,(di x1.1)),(2,(di p3)),(9,(dl A7 p1)),(10,(di (p1.length:Int))),(11,(di x1.2))],G []⟩) (p2,0) () _ hz1 (D2 Z Z) ?_
 intro x1 g2 z2 hz2 ez2
 unfold X2 at hz2
 refine B5<|sv Z<|A1<|A2<|cc Z hz2 (fun c1 hz2=> ?_)<|fun c1 hz2=> ?_
 refine A9<|A2<|A6<|B5<|bs hz2 fun _ hv1 hz2=>sd Z (C9 Z Z hv1 Z)<|sd Z (F5 Z hv1 Z)<|sv Z<|A1<|A2<|B5<|sv Z<|sv Z<|sv Z<|sv Z<|gf Z (fun _=>Z)<|gf Z (fun _=>Z)<|gf Z (fun w3=>(T1 (A4 w3) (A4 w3) Z))<|sd Z (S9 Z Z<|fun hc=>A4<|L3 hc)<|A1<|cc Z hz2 (fun c2 hz2=> ?_)<|fun c2 hz2=> ?_
 refine B5<|sv Z<|A1<|B1 ?_
 cases hz2
 obtain rfl:=ez2 _ rfl
 refine ⟨nofun,E4 ?_⟩
 rw [bJ]at h
 cases h
 exact A8 (.inr Z) (B4 (B2 Z) C2) (.refl _)
 refine A9<|B0<|sv Z<|sv Z<|sv Z<|A1<|D9<|B0<|sv Z<|sv Z<|A1<|E7 ?_
 cases hz2
 exact ⟨Z,(),(D2 Z Z)⟩
 refine C5 Z ?_
 cases hz2
 obtain rfl:=ez2 _ rfl
 refine ⟨nofun,C4 Z<|Y5 ?_⟩
 exact ⟨_,(),Z,(D2 Z Z)⟩
 rintro _ ⟨y1,g1,rfl,q1⟩
 rw [bI]at h
 refine A5 q1<|B5<|sv Z<|A1<|B1 ?_
 cases h
 exact A8 (.inr Z) (B4 (B2 Z) C2) (.refl _)
def M2 [Lp](p1:RoadsCheck)(x1:Int):Option (Stp Int (Sum Unit Int)):=
  cond (decide (x1< (p1.Map_.Lanes.length:Int))) ((D6 p1.Map_.Lanes x1).bind fun v1=>(En v1.Kind).bind fun v2=>cond (v2.1==0) (some (.out (.inr 4))) ((Az v1.Curve_).bind fun v3=>cond (v3 !=0) (some (.out (.inr v3))) ((Q7 v1.Half 200 4000).bind fun v4=>((cond (!(!v4)) (Q7 v1.Limit 1 v2.1) (some default))).bind fun v5=>cond ((!v4)||(!v5)) (some (.out (.inr 2))) (cond (decide ((v1.Next.length:Int)>3)) (some (.out (.inr 8))) ((W2 v1.Next (I8 (x1+1)) (p1.Map_.Lanes.length:Int)).bind fun v6=>cond (!v6) (some (.out (.inr 11))) (some (.go (I8 (x1+1))))))))) (some (.out (.inl ())))
def P8 [Lp](p1:RoadsCheck):Option Int:=
  thenS (loop (M2 p1) 0) (fun _=>some 0) (fun r=>some r)
theorem Nk(p1 r)(h:P8 p1=some r):PCall prog 66 [(.agg (O1 p1.Map_))] (i64 r):=by
 refine C0 (fk func66 ntmps66 m0 (by with_unfolding_all rfl)) (nl Z) ?_
 unfold P8 at h
 refine A5 (s0:=⟨T [(0,(.d _))],G []⟩) (D2 Z Z) ?_
 refine lr<|fun u1 _=>sm Z<|sv Z<|A1<|A2<|B5<|sq Z<|sp Z Z<|sl Z G_hit Z<|sd Z (C1 Z)<|sv Z<|A1<|js h fun z1 hz1 h=>D5 (fun s=> ∃(y1:Unit) (g1:Unit),z1= .inl y1∧Sb ⟨T [],G []⟩ s) ?_ ?_
 refine A6<|E0 (M2 p1) (fun (x1:Int) (g2:Unit)=>⟨T [(1,(.ptr (1,u1) 0)),(11,(dl R8 p1.Map_.Lanes)),(12,(di (p1.Map_.Lanes.length:Int))),(13,(di x1))],G [((1,u1),some<|.box 105 (I4 p1.Map_))]⟩) 0 () _ hz1 (D2 Z Z) ?_
 intro x1 g2 z2 hz2 ez2
 unfold M2 at hz2
 refine B5<|sv Z<|A1<|A2<|cc Z hz2 (fun c1 hz2=> ?_)<|fun c1 hz2=> ?_
 refine A9<|A2<|A6<|lr<|fun u4 _=>sv Z<|bs hz2 fun v1 hv1 hz2=>sd Z (C9 Z Z hv1 Z)<|sd Z (B9 Z hv1 Z Z)<|sm Z<|sv Z<|Aj Z G_hit (De v1) Z (A1<|B5<|sq Z<|sl Z G_hit Z<|bs hz2 fun v2 hv2 hz2=>B8 Z Z A3 (Mb _ _ hv2) (.inl Z) (sv Z<|sv Z<|sv Z<|sv Z<|sv Z<|sv Z<|sv Z<|A1<|A2<|A2<|A5 (s0:=⟨T [(1,(.ptr _ _)),(3,(.d _)),(4,(.ptr _ _)),(5,(.d _)),(11,(.d _)),(12,(.d _)),(13,(.d _))],G [((1,u1),some<|.box 105 _),((4,u4),some<|.box 42 _)]⟩) (D2 Z Z) ?_))
 refine B0<|sv Z<|sv Z<|A1<|cc Z hz2 (fun c2 hz2=> ?_)<|fun c2 hz2=> ?_
 refine B5<|sv Z<|A1<|B1 ?_
 cases hz2
 obtain rfl:=ez2 _ rfl
 refine ⟨nofun,E4 ?_⟩
 rw [bJ]at h
 cases h
 exact A8 (.inr Z) (B4 (B2 Z) C2) (.refl _)
 refine A9<|A2<|B5<|sq Z<|sd Z (B3 Z (gq Z) Z Z)<|bs hz2 fun _ hv3 hz2=>B8 Z Z A3 (Nj _ _ hv3) (.inl Z) (sv Z<|A1<|B5<|sv Z<|sv Z<|A1<|cc Z hz2 (fun c3 hz2=> ?_)<|fun c3 hz2=> ?_)
 refine B5<|sv Z<|sv Z<|A1<|B1 ?_
 cases hz2
 obtain rfl:=ez2 _ rfl
 refine ⟨nofun,E4 ?_⟩
 rw [bJ]at h
 cases h
 exact A8 (.inr Z) (B4 (B2 Z) C2) (.refl _)
 refine A9<|A6<|B5<|sq Z<|sl Z (gq Z) Z (bs hz2 fun v4 hv4 hz2=>B8 Z Z A3 (Q5 _ _ _ _ hv4) (.inl Z) (B6 (.d (bo (!v4))) Z Z (sv Z<|gp Z (I9 Z) (fun _=>Z) (gf Z (vl Z (gq Z) Z)<|gf Z (fun _=>Z)<|bs hz2 fun v5 hv5 hz2=> ?_))))
 refine L4 _ (bo v5) (I9 Z) (fun w4=>⟨_,[(di v1.Limit),(di 1),(di v2.1)],_,_,(by simp only [A4 w4];rfl),Z,A3,Q5 _ _ _ _<|G0 w4 hv5,(.inl Z)⟩) ?_
 refine Ck _ (.d (bo (!v5))) Z (I9 Z) (fun w5=>(by simp only [A4 w5];rfl)) ?_
 refine sd Z (S9 Z Z<|fun hc=>A4<|L3 hc)<|sv Z<|A1<|cc Z hz2 (fun c4 hz2=> ?_)<|fun c4 hz2=> ?_
 refine A2<|A5 (s0:=⟨T [],G []⟩) (D2 Z Z) ?_
 refine B0<|sv Z<|A1<|B1 ?_
 cases hz2
 obtain rfl:=ez2 _ rfl
 refine ⟨nofun,E4 ?_⟩
 rw [bJ]at h
 cases h
 exact A8 (.inr Z) (B4 (B2 Z) C2) (.refl _)
 refine A2<|A5 (s0:=⟨T [(1,(.ptr _ _)),(3,(.d _)),(4,(.ptr _ _)),(11,(.d _)),(12,(.d _)),(13,(.d _))],G [((1,u1),some<|.box 105 _),((4,u4),some<|.box 42 _)]⟩) (D2 Z Z) ?_
 refine B0<|sq Z<|sl Z (gq Z) Z (sd Z (C1 Z)<|sv Z<|sv Z<|A1<|cc Z hz2 (fun c5 hz2=> ?_)<|fun c5 hz2=> ?_)
 refine B5<|sv Z<|A1<|B1 ?_
 cases hz2
 obtain rfl:=ez2 _ rfl
 refine ⟨nofun,E4 ?_⟩
 rw [bJ]at h
 cases h
 exact A8 (.inr Z) (B4 (B2 Z) C2) (.refl _)
 refine B5<|sq Z<|sl Z (gq Z) Z (sv Z<|sv Z<|sq Z<|sp Z Z<|sl Z G_hit Z<|sd Z (C1 Z)<|bs hz2 fun v6 hv6 hz2=>B8 Z Z A3 (Hr _ _ _ _ hv6) (.inl Z) (B6 (.d (bo (!v6))) Z Z (sv Z<|A1<|cc Z hz2 (fun c6 hz2=> ?_)<|fun c6 hz2=> ?_)))
 refine A2<|A5 (s0:=⟨T [],G []⟩) (D2 Z Z) ?_
 refine B0<|sv Z<|A1<|B1 ?_
 cases hz2
 obtain rfl:=ez2 _ rfl
 refine ⟨nofun,E4 ?_⟩
 rw [bJ]at h
 cases h
 exact A8 (.inr Z) (B4 (B2 Z) C2) (.refl _)
 refine A9<|D9<|D9<|A5 (s0:=⟨T [(1,(.ptr _ _)),(11,(.d _)),(12,(.d _)),(13,(.d _))],G [((1,u1),some<|.box 105 _)]⟩) (D2 Z Z) ?_
 refine B0<|sv Z<|sv Z<|A1<|E7 ?_
 cases hz2
 exact ⟨Z,(),(D2 Z Z)⟩
 refine C5 Z ?_
 cases hz2
 obtain rfl:=ez2 _ rfl
 refine ⟨nofun,C4 Z<|Y5 ?_⟩
 exact ⟨_,(),Z,(D2 Z Z)⟩
 rintro _ ⟨y1,g1,rfl,q1⟩
 rw [bI]at h
 refine A5 q1<|B5<|sv Z<|A1<|B1 ?_
 cases h
 exact A8 (.inr Z) (B4 (B2 Z) C2) (.refl _)
def R3 (p1:RoadsCheck)(v1:Lane)(v2:Spot)(x2:Int):Option (Stp Int (Sum Unit Int)):=
  cond (decide (x2< (v1.Next.length:Int))) ((D6 v1.Next x2).bind fun v3=>(D6 p1.Map_.Lanes v3).bind fun v4=>cond (v4.Kind !=v1.Kind) (some (.out (.inr 4))) ((D6 p1.Map_.Lanes v3).bind fun v5=>(D6 v5.Curve_.Pts 0).bind fun v6=>cond (!(v6.X==v2.X&& (v6.Y==v2.Y&&true))) (some (.out (.inr 3))) (some (.go (I8 (x2+1)))))) (some (.out (.inl ())))
def L0 [Lp](p1:RoadsCheck)(x1:Int):Option (Stp Int (Sum Unit Int)):=
  cond (decide (x1< (p1.Map_.Lanes.length:Int))) ((D6 p1.Map_.Lanes x1).bind fun v1=>(D6 v1.Curve_.Pts (I8 ((v1.Curve_.Pts.length:Int) - 1))).bind fun v2=>thenS (loop (R3 p1 v1 v2) 0) (fun _=>some (.go (I8 (x1+1)))) (fun r=>some (.out (.inr r)))) (some (.out (.inl ())))
def P3 [Lp](p1:RoadsCheck):Option Int:=
  thenS (loop (L0 p1) 0) (fun _=>some 0) (fun r=>some r)
theorem Ml(p1 r)(h:P3 p1=some r):PCall prog 67 [(.agg (O1 p1.Map_))] (i64 r):=by
 refine C0 (fk func67 ntmps67 m0 (by with_unfolding_all rfl)) (nl Z) ?_
 unfold P3 at h
 refine A5 (s0:=⟨T [(0,(.d _))],G []⟩) (D2 Z Z) ?_
 refine lr<|fun u1 _=>sm Z<|sv Z<|A1<|A2<|B5<|sq Z<|sp Z Z<|sl Z G_hit Z<|sd Z (C1 Z)<|sv Z<|A1<|js h fun z1 hz1 h=>D5 (fun s=> ∃(y1:Unit) (g1:Unit),z1= .inl y1∧Sb ⟨T [],G []⟩ s) ?_ ?_
 refine A6<|E0 (L0 p1) (fun (x1:Int) (g2:Unit)=>⟨T [(1,(.ptr (1,u1) 0)),(10,(dl R8 p1.Map_.Lanes)),(11,(di (p1.Map_.Lanes.length:Int))),(12,(di x1))],G [((1,u1),some<|.box 105 (I4 p1.Map_))]⟩) 0 () _ hz1 (D2 Z Z) ?_
 intro x1 g2 z2 hz2 ez2
 unfold L0 at hz2
 refine B5<|sv Z<|A1<|A2<|cc Z hz2 (fun c1 hz2=> ?_)<|fun c1 hz2=> ?_
 refine A9<|A2<|A6<|lr<|fun u4 _=>bs hz2 fun v1 hv1 hz2=>sd Z (C9 Z Z hv1 Z)<|sd Z (B9 Z hv1 Z Z)<|sm Z<|Aj Z G_hit (De v1) Z (A1<|lr<|fun u5 _=>sq Z<|sq Z<|sl Z G_hit Z<|sq Z<|sp Z Z<|sl Z G_hit Z<|sd Z (C1 Z)<|sv Z<|bs hz2 fun v2 hv2 hz2=>sd Z (C9 Z Z hv2 Z)<|sd Z (B9 Z hv2 Z Z)<|sm Z<|Aj Z G_hit [(di v2.X),(di v2.Y)] Z (A1<|A2<|A5 (s0:=⟨T [(1,(.ptr _ _)),(4,(.ptr _ _)),(5,(.ptr _ _)),(10,(.d _)),(11,(.d _)),(12,(.d _))],G [((1,u1),some<|.box 105 _),((4,u4),some<|.box 42 _),((5,u5),some<|.box 148 _)]⟩) (D2 Z Z) ?_))
 refine B0<|sq Z<|sl Z (gq Z) Z (sd Z (C1 Z)<|sv Z<|A1<|js hz2 fun z3 hz3 hz2=>D5 (fun s=> ∃(y2:Unit) (g3:Unit),z3= .inl y2∧Sb ⟨T [(1,(.ptr (1,u1) 0)),(10,(dl R8 p1.Map_.Lanes)),(11,(di (p1.Map_.Lanes.length:Int))),(12,(di x1))],G [((1,u1),some<|.box 105 (I4 p1.Map_))]⟩ s) ?_ ?_)
 refine A6<|E0 (R3 p1 v1 v2) (fun (x2:Int) (g4:Unit)=>⟨T [(1,(.ptr (1,u1) 0)),(4,(.ptr (4,u4) 0)),(5,(.ptr (5,u5) 0)),(10,(dl R8 p1.Map_.Lanes)),(11,(di (p1.Map_.Lanes.length:Int))),(12,(di x1)),(27,(dl A7 v1.Next)),(28,(di (v1.Next.length:Int))),(29,(di x2))],G [((1,u1),some<|.box 105 (I4 p1.Map_)),((4,u4),some<|.box 42 (De v1)),((5,u5),some<|.box 148 [(di v2.X),(di v2.Y)])]⟩) 0 () _ hz3 (D2 Z Z) ?_
 intro x2 g4 z4 hz4 ez4
 unfold R3 at hz4
 refine B5<|sv Z<|A1<|A2<|cc Z hz4 (fun c2 hz4=> ?_)<|fun c2 hz4=> ?_
 refine A9<|A2<|A6<|B5<|bs hz4 fun _ hv3 hz4=>sd Z (C9 Z Z hv3 Z)<|sd Z (F5 Z hv3 Z)<|sv Z<|A1<|A2<|A2<|J6 Z<|sq Z<|sq Z<|sl Z G_hit Z<|sv Z<|bs hz4 fun _ hv4 hz4=>sd Z (C9 Z Z hv4 Z)<|sv Z<|sd Z (F5 Z hv4 Z)<|sq Z<|sl Z (gq Z) Z (sv Z<|A1<|cc Z hz4 (fun c3 hz4=> ?_)<|fun c3 hz4=> ?_)
 refine A2<|A5 (s0:=⟨T [],G []⟩) (D2 Z Z) ?_
 refine B0<|sv Z<|A1<|B1 ?_
 cases hz4
 obtain rfl:=ez4 _ rfl
 refine ⟨nofun,E4 ?_⟩
 rw [bJ]at hz2
 cases hz2
 obtain rfl:=ez2 _ rfl
 refine ⟨nofun,E4 ?_⟩
 rw [bJ]at h
 cases h
 exact A8 (.inr Z) (B4 (B2 Z) C2) (.refl _)
 refine A9<|A2<|A5 (s0:=⟨T [(1,(.ptr _ _)),(4,(.ptr _ _)),(5,(.ptr _ _)),(7,(.d _)),(10,(.d _)),(11,(.d _)),(12,(.d _)),(27,(.d _)),(28,(.d _)),(29,(.d _))],G [((1,u1),some<|.box 105 _),((4,u4),some<|.box 42 _),((5,u5),some<|.box 148 _)]⟩) (D2 Z Z) ?_
 refine J6 Z<|sq Z<|sq Z<|sl Z G_hit Z<|sv Z<|bs hz4 fun _ hv5 hz4=>sd Z (C9 Z Z hv5 Z)<|sv Z<|sv Z<|sd Z (F5 Z hv5 Z)<|bs hz4 fun v6 hv6 hz4=>sd Z (C9 Z Z hv6 Z)<|sd Z (B9 Z hv6 Z Z)<|sd Z (B3 Z (gq Z) Z Z)<|B6 (.d (bo (!(v6.X==v2.X&& (v6.Y==v2.Y&&true))))) Z Z (A1<|cc Z hz4 (fun c4 hz4=> ?_)<|fun c4 hz4=> ?_)
 refine A2<|A5 (s0:=⟨T [],G []⟩) (D2 Z Z) ?_
 refine B0<|sv Z<|A1<|B1 ?_
 cases hz4
 obtain rfl:=ez4 _ rfl
 refine ⟨nofun,E4 ?_⟩
 rw [bJ]at hz2
 cases hz2
 obtain rfl:=ez2 _ rfl
 refine ⟨nofun,E4 ?_⟩
 rw [bJ]at h
 cases h
 exact A8 (.inr Z) (B4 (B2 Z) C2) (.refl _)
 refine A9<|D9<|A5 (s0:=⟨T [(1,(.ptr _ _)),(4,(.ptr _ _)),(5,(.ptr _ _)),(10,(.d _)),(11,(.d _)),(12,(.d _)),(27,(.d _)),(28,(.d _)),(29,(.d _))],G [((1,u1),some<|.box 105 _),((4,u4),some<|.box 42 _),((5,u5),some<|.box 148 _)]⟩) (D2 Z Z) ?_
 refine B0<|sv Z<|sv Z<|A1<|E7 ?_
 cases hz4
 exact ⟨Z,(),(D2 Z Z)⟩
 refine C5 Z ?_
 cases hz4
 obtain rfl:=ez4 _ rfl
 refine ⟨nofun,C4 Z<|Y5 ?_⟩
 exact ⟨_,(),Z,(D2 Z Z)⟩
 rintro _ ⟨y2,g3,rfl,q1⟩
 rw [bI]at hz2
 refine D9<|A5 q1<|B0<|sv Z<|sv Z<|A1<|E7 ?_
 cases hz2
 exact ⟨Z,(),(D2 Z Z)⟩
 refine C5 Z ?_
 cases hz2
 obtain rfl:=ez2 _ rfl
 refine ⟨nofun,C4 Z<|Y5 ?_⟩
 exact ⟨_,(),Z,(D2 Z Z)⟩
 rintro _ ⟨y1,g1,rfl,q2⟩
 rw [bI]at h
 refine A5 q2<|B5<|sv Z<|A1<|B1 ?_
 cases h
 exact A8 (.inr Z) (B4 (B2 Z) C2) (.refl _)
def Ag (p1:Phase):Option Bool:=
  (Q7 p1.Ticks 1 10000).bind fun v1=>some (!v1)
theorem Kk(p1 r)(h:Ag p1=some r):PCall prog 173 [(.agg [(i64 p1.Ticks),(.list (List.map A7 p1.Green))])] (bo r):=by
 refine C0 (fk func173 ntmps173 m0 (by with_unfolding_all rfl)) (nl Z) ?_
 unfold Ag at h
 refine A5 (s0:=⟨T [(0,(.d _))],G []⟩) (D2 Z Z) ?_
 refine B5<|sm Z<|sv Z<|A1<|B5<|sq Z<|sl Z G_hit Z<|bs h fun v1 hv1 h=>B8 Z Z A3 (Q5 _ _ _ _ hv1) (.inl Z) (B6 (.d (bo (!v1))) Z Z (sv Z<|A1<|B1 ?_))
 cases h
 exact A8 (.inr Z) (B4 (B2 Z) C2) (.refl _)
def F8 (p1:(List Phase))(x1:Int):Option (Stp Int (Sum Unit Int)):=
  cond (decide (x1< (p1.length:Int))) ((D6 p1 x1).bind fun v1=>(Ag v1).bind fun v2=>cond v2 (some (.out (.inr x1))) (some (.go (I8 (x1+1))))) (some (.out (.inl ())))
def D7 [Lp](p1:(List Phase)):Option Int:=
  thenS (loop (F8 p1) 0) (fun _=>some (-1)) (fun r=>some r)
theorem X9(p1 r)(h:D7 p1=some r):PCall prog 237 [(.list (List.map G3 p1)),(.fn (.func 173) [] [])] (i64 r):=by
 refine C0 (fk func237 ntmps237 m0 (by with_unfolding_all rfl)) (nl Z) ?_
 unfold D7 at h
 refine A5 (s0:=⟨T [(0,(.d _)),(1,(.d _))],G []⟩) (D2 Z Z) ?_
 refine B5<|sv Z<|A1<|A2<|B5<|sv Z<|sd Z (C1 Z)<|sv Z<|A1<|js h fun z1 hz1 h=>D5 (fun s=> ∃(y1:Unit) (g1:Unit),z1= .inl y1∧Sb ⟨T [],G []⟩ s) ?_ ?_
 refine A6<|E0 (F8 p1) (fun (x1:Int) (g2:Unit)=>⟨T [(0,(dl G3 p1)),(1,(.d (.fn (.func 173) [] []))),(7,(di (p1.length:Int))),(8,(di x1))],G []⟩) 0 () _ hz1 (D2 Z Z) ?_
 intro x1 g2 z2 hz2 ez2
 unfold F8 at hz2
 refine B5<|sv Z<|A1<|A2<|cc Z hz2 (fun c1 hz2=> ?_)<|fun c1 hz2=> ?_
 refine A9<|A2<|A6<|B5<|sv Z<|sv Z<|A1<|B5<|sv Z<|sv Z<|sv Z<|bs hz2 fun _ hv1 hz2=>sd Z (C9 Z Z hv1 Z)<|sd Z (B9 Z hv1 Z Z)<|bs hz2 fun _ hv2 hz2=>B8 Z Z A3 (Kk _ _ hv2) (.inl Z) (A1<|cc Z hz2 (fun c2 hz2=> ?_)<|fun c2 hz2=> ?_)
 refine B5<|sv Z<|sv Z<|A1<|B1 ?_
 cases hz2
 obtain rfl:=ez2 _ rfl
 refine ⟨nofun,E4 ?_⟩
 rw [bJ]at h
 cases h
 exact A8 (.inr Z) (B4 (B2 Z) C2) (.refl _)
 refine A9<|D9<|B0<|sv Z<|sv Z<|A1<|E7 ?_
 cases hz2
 exact ⟨Z,(),(D2 Z Z)⟩
 refine C5 Z ?_
 cases hz2
 obtain rfl:=ez2 _ rfl
 refine ⟨nofun,C4 Z<|Y5 ?_⟩
 exact ⟨_,(),Z,(D2 Z Z)⟩
 rintro _ ⟨y1,g1,rfl,q1⟩
 rw [bI]at h
 refine A5 q1<|B5<|sv Z<|A1<|B1 ?_
 cases h
 exact A8 (.inr Z) (B4 (B2 Z) C2) (.refl _)
def C8 [Lp](p1:(List Phase)):Option Bool:=
  (D7 p1).bind fun v1=>some (decide (v1≥0))
theorem W6(p1 r)(h:C8 p1=some r):PCall prog 172 [(.list (List.map G3 p1)),(.fn (.func 173) [] [])] (bo r):=by
 refine C0 (fk func172 ntmps172 m0 (by with_unfolding_all rfl)) (nl Z) ?_
 unfold C8 at h
 refine A5 (s0:=⟨T [(0,(.d _)),(1,(.d _))],G []⟩) (D2 Z Z) ?_
 refine B5<|sv Z<|A1<|B5<|sv Z<|sv Z<|bs h fun _ hv1 h=>B8 Z Z A3 (X9 _ _ hv1) (.inl Z) (sv Z<|sv Z<|A1<|B1 ?_)
 cases h
 exact A8 (.inr Z) (B4 (B2 Z) C2) (.refl _)
def O5 [Lp](p1:Phase)(p2:RoadsCheck):Option Bool:=
  (W2 p1.Green 0 (p2.Map_.Lanes.length:Int)).bind fun v1=>some (!v1)
theorem Je(p1 p2 r)(h:O5 p1 p2=some r):PCall prog 174 [(.agg [(i64 p1.Ticks),(.list (List.map A7 p1.Green))]),(.bp (O1 p2.Map_) 0)] (bo r):=by
 refine C0 (fk func174 ntmps174 m0 (by with_unfolding_all rfl)) (nl Z) ?_
 unfold O5 at h
 refine A5 (s0:=⟨T [(0,(.d _)),(1,(.d _))],G []⟩) (D2 Z Z) ?_
 refine B5<|sm Z<|sv Z<|A1<|B5<|sq Z<|sl Z G_hit Z<|sv Z<|sv Z<|sv Z<|sd Z (C1 Z)<|bs h fun v1 hv1 h=>B8 Z Z A3 (Hr _ _ _ _ hv1) (.inl Z) (B6 (.d (bo (!v1))) Z Z (sv Z<|A1<|B1 ?_))
 cases h
 exact A8 (.inr Z) (B4 (B2 Z) C2) (.refl _)
def C6 [Lp](p1:(List Phase))(p2:RoadsCheck)(x1:Int):Option (Stp Int (Sum Unit Int)):=
  cond (decide (x1< (p1.length:Int))) ((D6 p1 x1).bind fun v1=>(O5 v1 p2).bind fun v2=>cond v2 (some (.out (.inr x1))) (some (.go (I8 (x1+1))))) (some (.out (.inl ())))
def D4 [Lp](p1:(List Phase))(p2:RoadsCheck):Option Int:=
  thenS (loop (C6 p1 p2) 0) (fun _=>some (-1)) (fun r=>some r)
theorem X3(p1 p2 r)(h:D4 p1 p2=some r):PCall prog 237 [(.list (List.map G3 p1)),(.fn (.func 174) [] [(.bp (O1 p2.Map_) 0)])] (i64 r):=by
 refine C0 (fk func237 ntmps237 m0 (by with_unfolding_all rfl)) (nl Z) ?_
 unfold D4 at h
 refine A5 (s0:=⟨T [(0,(.d _)),(1,(.d _))],G []⟩) (D2 Z Z) ?_
 refine B5<|sv Z<|A1<|A2<|B5<|sv Z<|sd Z (C1 Z)<|sv Z<|A1<|js h fun z1 hz1 h=>D5 (fun s=> ∃(y1:Unit) (g1:Unit),z1= .inl y1∧Sb ⟨T [],G []⟩ s) ?_ ?_
 refine A6<|E0 (C6 p1 p2) (fun (x1:Int) (g2:Unit)=>⟨T [(0,(dl G3 p1)),(1,(.d (.fn (.func 174) [] [(.bp (O1 p2.Map_) 0)]))),(7,(di (p1.length:Int))),(8,(di x1))],G []⟩) 0 () _ hz1 (D2 Z Z) ?_
 intro x1 g2 z2 hz2 ez2
 unfold C6 at hz2
 refine B5<|sv Z<|A1<|A2<|cc Z hz2 (fun c1 hz2=> ?_)<|fun c1 hz2=> ?_
 refine A9<|A2<|A6<|B5<|sv Z<|sv Z<|A1<|B5<|sv Z<|sv Z<|sv Z<|bs hz2 fun _ hv1 hz2=>sd Z (C9 Z Z hv1 Z)<|sd Z (B9 Z hv1 Z Z)<|bs hz2 fun _ hv2 hz2=>B8 Z Z A3 (Je _ _ _ hv2) (.inl Z) (A1<|cc Z hz2 (fun c2 hz2=> ?_)<|fun c2 hz2=> ?_)
 refine B5<|sv Z<|sv Z<|A1<|B1 ?_
 cases hz2
 obtain rfl:=ez2 _ rfl
 refine ⟨nofun,E4 ?_⟩
 rw [bJ]at h
 cases h
 exact A8 (.inr Z) (B4 (B2 Z) C2) (.refl _)
 refine A9<|D9<|B0<|sv Z<|sv Z<|A1<|E7 ?_
 cases hz2
 exact ⟨Z,(),(D2 Z Z)⟩
 refine C5 Z ?_
 cases hz2
 obtain rfl:=ez2 _ rfl
 refine ⟨nofun,C4 Z<|Y5 ?_⟩
 exact ⟨_,(),Z,(D2 Z Z)⟩
 rintro _ ⟨y1,g1,rfl,q1⟩
 rw [bI]at h
 refine A5 q1<|B5<|sv Z<|A1<|B1 ?_
 cases h
 exact A8 (.inr Z) (B4 (B2 Z) C2) (.refl _)
def C7 [Lp](p1:(List Phase))(p2:RoadsCheck):Option Bool:=
  (D4 p1 p2).bind fun v1=>some (decide (v1≥0))
theorem W3(p1 p2 r)(h:C7 p1 p2=some r):PCall prog 172 [(.list (List.map G3 p1)),(.fn (.func 174) [] [(.bp (O1 p2.Map_) 0)])] (bo r):=by
 refine C0 (fk func172 ntmps172 m0 (by with_unfolding_all rfl)) (nl Z) ?_
 unfold C7 at h
 refine A5 (s0:=⟨T [(0,(.d _)),(1,(.d _))],G []⟩) (D2 Z Z) ?_
 refine B5<|sv Z<|A1<|B5<|sv Z<|sv Z<|bs h fun _ hv1 h=>B8 Z Z A3 (X3 _ _ _ hv1) (.inl Z) (sv Z<|sv Z<|A1<|B1 ?_)
 cases h
 exact A8 (.inr Z) (B4 (B2 Z) C2) (.refl _)
def K0 [Lp](p1:RoadsCheck)(x1:Int):Option (Stp Int (Sum Unit Int)):=
  cond (decide (x1< (p1.Map_.Signals.length:Int))) ((D6 p1.Map_.Signals x1).bind fun v1=>cond ((v1.Phases.length:Int)==0) (some (.out (.inr 6))) (cond (decide ((v1.Phases.length:Int)>6)) (some (.out (.inr 8))) ((Q7 v1.Offset 0 1099511627776).bind fun v2=>cond (!v2) (some (.out (.inr 2))) ((C8 v1.Phases).bind fun v3=>cond v3 (some (.out (.inr 2))) ((C7 v1.Phases p1).bind fun v4=>cond v4 (some (.out (.inr 11))) (some (.go (I8 (x1+1))))))))) (some (.out (.inl ())))
def O2 [Lp](p1:RoadsCheck):Option Int:=
  thenS (loop (K0 p1) 0) (fun _=>some 0) (fun r=>some r)
theorem Ln(p1 r)(h:O2 p1=some r):PCall prog 68 [(.agg (O1 p1.Map_))] (i64 r):=by
 refine C0 (fk func68 ntmps68 m0 (by with_unfolding_all rfl)) (nl Z) ?_
 unfold O2 at h
 refine A5 (s0:=⟨T [(0,(.d _))],G []⟩) (D2 Z Z) ?_
 refine lr<|fun u1 _=>sm Z<|sv Z<|A1<|A2<|B5<|sq Z<|sp Z Z<|sl Z G_hit Z<|sd Z (C1 Z)<|sv Z<|A1<|js h fun z1 hz1 h=>D5 (fun s=> ∃(y1:Unit) (g1:Unit),z1= .inl y1∧Sb ⟨T [],G []⟩ s) ?_ ?_
 refine A6<|E0 (K0 p1) (fun (x1:Int) (g2:Unit)=>⟨T [(1,(.ptr (1,u1) 0)),(8,(dl U8 p1.Map_.Signals)),(9,(di (p1.Map_.Signals.length:Int))),(10,(di x1))],G [((1,u1),some<|.box 105 (I4 p1.Map_))]⟩) 0 () _ hz1 (D2 Z Z) ?_
 intro x1 g2 z2 hz2 ez2
 unfold K0 at hz2
 refine B5<|sv Z<|A1<|A2<|cc Z hz2 (fun c1 hz2=> ?_)<|fun c1 hz2=> ?_
 refine A9<|A2<|A6<|lr<|fun u4 _=>bs hz2 fun v1 hv1 hz2=>sd Z (C9 Z Z hv1 Z)<|sd Z (B9 Z hv1 Z Z)<|sm Z<|Aj Z G_hit [(di v1.Offset),(dl G3 v1.Phases)] Z (A1<|B5<|sq Z<|sl Z G_hit Z<|sd Z (C1 Z)<|sv Z<|A1<|A6<|B5<|sv Z<|sv Z<|sv Z<|A1<|cc Z hz2 (fun c2 hz2=> ?_)<|fun c2 hz2=> ?_)
 refine B5<|sv Z<|A1<|B1 ?_
 cases hz2
 obtain rfl:=ez2 _ rfl
 refine ⟨nofun,E4 ?_⟩
 rw [bJ]at h
 cases h
 exact A8 (.inr Z) (B4 (B2 Z) C2) (.refl _)
 refine B5<|sv Z<|sv Z<|sv Z<|A1<|cc Z hz2 (fun c3 hz2=> ?_)<|fun c3 hz2=> ?_
 refine B5<|sv Z<|A1<|B1 ?_
 cases hz2
 obtain rfl:=ez2 _ rfl
 refine ⟨nofun,E4 ?_⟩
 rw [bJ]at h
 cases h
 exact A8 (.inr Z) (B4 (B2 Z) C2) (.refl _)
 refine B5<|sq Z<|sl Z G_hit Z<|bs hz2 fun v2 hv2 hz2=>B8 Z Z A3 (Q5 _ _ _ _ hv2) (.inl Z) (B6 (.d (bo (!v2))) Z Z (sv Z<|A1<|cc Z hz2 (fun c4 hz2=> ?_)<|fun c4 hz2=> ?_))
 refine A2<|A5 (s0:=⟨T [],G []⟩) (D2 Z Z) ?_
 refine B0<|sv Z<|A1<|B1 ?_
 cases hz2
 obtain rfl:=ez2 _ rfl
 refine ⟨nofun,E4 ?_⟩
 rw [bJ]at h
 cases h
 exact A8 (.inr Z) (B4 (B2 Z) C2) (.refl _)
 refine A2<|A5 (s0:=⟨T [(1,(.ptr _ _)),(4,(.ptr _ _)),(8,(.d _)),(9,(.d _)),(10,(.d _))],G [((1,u1),some<|.box 105 _),((4,u4),some<|.box 48 _)]⟩) (D2 Z Z) ?_
 refine B0<|sq Z<|sl Z (gq Z) Z (bs hz2 fun _ hv3 hz2=>B8 Z Z A3 (W6 _ _ hv3) (.inl Z) (sv Z<|A1<|cc Z hz2 (fun c5 hz2=> ?_)<|fun c5 hz2=> ?_))
 refine B5<|sv Z<|A1<|B1 ?_
 cases hz2
 obtain rfl:=ez2 _ rfl
 refine ⟨nofun,E4 ?_⟩
 rw [bJ]at h
 cases h
 exact A8 (.inr Z) (B4 (B2 Z) C2) (.refl _)
 refine B5<|sq Z<|sl Z (gq Z) Z (B6 (.fn _ _ _) Z Z (bs hz2 fun _ hv4 hz2=>B8 Z (rD<|O4 (Yj K9<|O4 (Ki G_hit<|rD<|rD<|rD<|rD<|rD K9) K9) K9) A3 (W3 _ _ _ hv4) (.inr Z) (sv Z<|A1<|cc Z hz2 (fun c6 hz2=> ?_)<|fun c6 hz2=> ?_)))
 refine B5<|sv Z<|A1<|B1 ?_
 cases hz2
 obtain rfl:=ez2 _ rfl
 refine ⟨nofun,E4 ?_⟩
 rw [bJ]at h
 cases h
 exact A8 (.inr Z) (B4 (B2 Z) C2) (.refl _)
 refine A9<|D9<|D9<|B0<|sv Z<|sv Z<|A1<|E7 ?_
 cases hz2
 exact ⟨Z,(),(D2 Z Z)⟩
 refine C5 Z ?_
 cases hz2
 obtain rfl:=ez2 _ rfl
 refine ⟨nofun,C4 Z<|Y5 ?_⟩
 exact ⟨_,(),Z,(D2 Z Z)⟩
 rintro _ ⟨y1,g1,rfl,q1⟩
 rw [bI]at h
 refine A5 q1<|B5<|sv Z<|A1<|B1 ?_
 cases h
 exact A8 (.inr Z) (B4 (B2 Z) C2) (.refl _)
/-- kerbstone/curve.pieces$1 -/
def Ka:AC:=(.seq (.reg [oo 3 (.mv (ci 0))]) (.seq (.reg [oo 8 (.fieldA 0 (.t 1)),oo 9 (.load 1 false (.t 8)),oo 10 (.len (.t 9)),oo 11 (.bin .sub (.t 10) (ci 1)),oo 12 (.mv (ci 0))]) (.block 0 (.loop (.seq (.reg [oo 13 (.bin .lss (.t 12) (.t 11))]) (.seq (.cond (.t 13) .skip (.exit 0)) (.seq (.block 1 (.seq (.reg [oo 14 (.mv (.t 12)),oo 4 (.mv (.t 14))]) (.seq (.draw [oo 15 (.fieldA 0 (.t 1)),oo 16 (.load 1 false (.t 15)),oo 17 (.mv (.t 4)),oo 18 (.idxS 2 (.t 16) (.t 17)),oo 19 (.load 2 true (.t 18)),oo 20 (.fieldA 0 (.t 1)),oo 21 (.load 1 false (.t 20)),oo 22 (.mv (.t 4)),oo 23 (.bin .add (.t 22) (ci 1)),oo 24 (.idxS 2 (.t 21) (.t 23)),oo 25 (.load 2 true (.t 24)),oo 26 (.call (cf 234) [(.t 19),(.t 25)]),oo 5 (.alloc 253 [z0,z0]),oe (.store 2 (.t 5) (.t 26))] []) (.seq (.reg [oo 28 (.load 2 true (.t 5)),oo 29 (.load 2 true (.t 5)),oo 30 (.call (cf 236) [(.t 28),(.t 29)]),oo 31 (.call (cf 235) [(.t 30)]),oo 27 (.mv (.t 31)),oo 32 (.ext (.t 27) 0),oo 33 (.ext (.t 27) 1),oo 6 (.mv (.t 32)),oo 7 (.mv (.t 33))]) (.seq (.seq (.drawB [oo 34 (.mv (.t 0)),oo 35 (.mv (.t 4)),oo 36 (.fieldA 0 (.t 1)),oo 37 (.load 1 false (.t 36)),oo 38 (.mv (.t 4)),oo 39 (.idxS 2 (.t 37) (.t 38)),oo 40 (.load 2 true (.t 39)),oo 41 (.load 2 true (.t 5)),oo 42 (.mv (.t 6)),oo 43 (.mv (.t 3)),oo 44 (.build [z0,z0,z0,z0,z0,z0] [(0,2,(.t 40)),(2,2,(.t 41)),(4,1,(.t 42)),(5,1,(.t 43))]),oo 45 (.icall (.t 34) [(.t 35),(.t 44)]),oo 46 (.un .not (.t 45))] 11 []) (.cond (.t 46) .ret .skip)) (.reg [oo 47 (.mv (.t 3)),oo 48 (.mv (.t 6)),oo 49 (.bin .add (.t 47) (.t 48)),oo 3 (.mv (.t 49))])))))) (.reg [oo 50 (.bin .add (.t 12) (ci 1)),oo 12 (.mv (.t 50))]))))))))
theorem Qz:FnOK prog 271 51 [] Ka:=⟨_,_,func271,rfl,ntmps271,by kernel_rfl,⟨fun r=>if r==6 then [11]else [],by kernel_rfl⟩,by kernel_rfl⟩
/-- The pieces of a chain of points, from a number on. -/
def Df [Lp](pts:List Spot):Nat→Nat→Int→Option (List (Int×CurvePiece))
  |0,_,_=>some []
  |n+1,i,start=>(pts[i]?).bind fun p=>(pts[i+1]?).bind fun q=>(Gw p q).bind fun v=>(U9 v v).bind fun d=>(Bm d).bind fun r=>
   (Df pts n (i+1) (I8 (start+r.1))).bind fun l=>some (((i:Int),CurvePiece.mk p v r.1 start)::l)
def Kb [Lp](pts:List Spot):Option (List (Int×CurvePiece)):=if pts.length≤1000000 then Df pts (pts.length - 1) 0 0 else none
/-- kerbstone/curve.pieces -/
def Mc:AC:=(.seq (.reg [oo 1 (.box 39 true (.t 0)),oo 2 (.mv (.c (.v .nilFunc)))]) (.seq (.reg [oo 3 (.mkfn (.func 271) [] [(.t 1)]),oo 2 (.mv (.t 3))]) .ret))
theorem Ts:FnOK prog 257 4 [.t 2] Mc:=⟨_,_,func257,rfl,ntmps257,by kernel_rfl,⟨fun _=> [],by kernel_rfl⟩,by kernel_rfl⟩
abbrev AE (a:Int×CurvePiece):List D:= [i64 a.1, .agg [i64 a.2.p.X,i64 a.2.p.Y,i64 a.2.v.x,i64 a.2.v.y,i64 a.2.l,i64 a.2.start]]
theorem CU (c:Curve):PCall prog 257 [.agg [.list (List.map I0 c.Pts)]] (.fn (.func 271) [] [.bp [.list (List.map I0 c.Pts)] 0]):=by
  refine KM Ts (by simp) ?_
  unfold Mc
  refine Gu<|Kh fun _ _=> ?_
  refine EZ (.ptr _ _) _ Z Z ?_
  refine M0 (.d _) Z Z ?_
  refine Gc ?_
  refine Gu<|Kh fun u' hu'=> ?_
  refine M0 (.fn _ _ _) Z Z ?_
  refine M0 (.fn _ _ _) Z Z ?_
  refine Gc ?_
  refine EV ⟨.inr Z,?_⟩
  refine B4 (B2 (v:= .fn _ _ _) Z) ?_
  exact Yj K9<|O4 (Ki (by simp only [U1,if_true];rfl)<|O4 C2 K9) K9
theorem MB (ps:List Spot)(n:Int)(i:Nat)(p:Spot)(hn:n=i)(h:ps[i]? =some p):(List.map I0 ps)[n.toNat]? =some (I0 p):=by
  subst hn
  rw [Int.toNat_natCast,lI,h];rfl
theorem FK {n:Int}(h: -9223372036854775808≤n∧n≤9223372036854775807):I8 n=n:=Go.IntWalk.i64_in n h
theorem Tt (pts:List Spot): ∀n i s L,Df pts n i s=some L→L.length=n:=by
  intro n
  induction n with
  |zero=>intro i s L h;cases h;rfl
  |succ n ih=>
   intro i s L h
   rw [Df]at h
   obtain ⟨p,hp,h⟩:=bind_some h
   obtain ⟨q,hq,h⟩:=bind_some h
   obtain ⟨v,hv,h⟩:=bind_some h
   obtain ⟨d,hd,h⟩:=bind_some h
   obtain ⟨r,hr,h⟩:=bind_some h
   obtain ⟨l,hl,h⟩:=bind_some h
   cases h
   rw [lJ,ih _ _ _ hl]
theorem CV {pts:List Spot}{L:List (Int×CurvePiece)}(h:Kb pts=some L):LD prog (.fn (.func 271) [] [.bp [.list (List.map I0 pts)] 0]) (L.map AE):=by
  unfold Kb at h
  split at h
  case isFalse=>cases h
  rename_i hlen
  refine ⟨271,[],_,Z,?_⟩
  intro k h0 Inv Stop hi0 hy
  refine KL Qz (by simp) ?_
  unfold Ka
  refine Gu<|Kh fun u hu=> ?_
  refine M0 (.d _) Z Z ?_
  refine Gc ?_
  refine Gu<|Kh fun u hu=> ?_
  refine M0 (.d _) Z Z ?_
  refine M0 (.d _) Z Z ?_
  refine M0 (.d (i64 pts.length)) Z (C1 (f:=I0) Z) ?_
  refine M0 (.d _) Z Z ?_
  refine M0 (.d _) Z Z ?_
  refine Gc ?_
  refine Vm ?_
  refine KO (α:=Nat×Int×D0) (fun x=>⟨T [(0, .yld k),(1, .d (.bp [.list (List.map I0 pts)] 0)),(3, .d (i64 x.2.1)),(11, .d (i64<|I8 (pts.length - 1))),(12, .d (i64 x.1))],x.2.2⟩) (fun x=>pts.length - x.1)
    (fun x=>Inv x.1 x.2.2∧x.1≤pts.length - 1∧Df pts (pts.length - 1 - x.1) x.1 x.2.1=some (L.drop x.1)) (0,0,h0) ⟨hi0,by omega,h⟩ (KU ⟨rfl,rfl,rfl,rfl,rfl,trivial⟩ fun _ _ h=>h) ?_
  rintro ⟨i,start,hh⟩ ⟨hinv,hi,hgo⟩
  dsimp only at hinv hi hgo ⊢
  refine Gu<|Kh fun u hu=> ?_
  refine M0 (.d _) Z Z ?_
  refine Gc ?_
  refine Gu ?_
  refine KP Z (fun hlt=> ?_)<|fun hlt=> ?_
  ·refine Zr ?_
   have hlen1:I8 ((pts.length:Int) - 1)=pts.length - 1:=FK (by omega)
   rw [hlen1]at hlt
   have hi1:i+1<pts.length:=by omega
   have hw1:IntKind.i64.wrap ((i:Int)+1)=(i:Int)+1:=FK (by omega)
   obtain ⟨m,hm⟩: ∃m,pts.length - 1 - i=m+1:=⟨pts.length - 1 - i - 1,by omega⟩
   rw [hm,Df]at hgo
   obtain ⟨p,hp,hgo⟩:=bind_some hgo
   obtain ⟨q,hq,hgo⟩:=bind_some hgo
   obtain ⟨v,hv,hgo⟩:=bind_some hgo
   obtain ⟨d,hd,hgo⟩:=bind_some hgo
   obtain ⟨r,hr,hgo⟩:=bind_some hgo
   obtain ⟨l,hl,hgo⟩:=bind_some hgo
   have hgo:((i:Int),CurvePiece.mk p v r.1 start)::l=L.drop i:=lC hgo
   have hLi:L[i]? =some ((i:Int),CurvePiece.mk p v r.1 start):=by
     have:=congrArg (fun z=>z[0]?) hgo
     simpa using this.symm
   have hLd:L.drop (i+1)=l:=by
     have:=congrArg (fun z=>z.drop 1) hgo
     simpa using this.symm
   have hin: ∀(p:Spot) (n:Int) (j:Nat),n=j→pts[j]? =some p→(List.map I0 pts)[n.toNat]? =some (I0 p):=fun p n j=>MB pts n j p
   refine Gu ?_
   refine Vm ?_
   refine Gu<|Kh fun u hu=> ?_
   refine M0 (.d _) Z Z ?_
   refine M0 (.d _) Z Z ?_
   refine Gc ?_
   refine Gu<|GJ Z fun u hu=> ?_
   refine M0 (.d _) Z Z ?_
   refine M0 (.d _) Z Z ?_
   refine M0 (.d _) Z Z ?_
   refine FA _ _ _ _ Z Z (Int.natCast_nonneg i) (hin p _ i Z hp) Z ?_
   refine Sa _ _ _ _ _ Z (hin p _ i Z hp) (by simp) Z ?_
   refine M0 (.d _) Z Z ?_
   refine M0 (.d _) Z Z ?_
   refine M0 (.d _) Z Z ?_
   refine M0 (.d _) Z Z ?_
   refine FA _ _ _ _ Z Z (by rw [hw1];omega) (hin q _ (i+1) (by rw [hw1];rfl) hq) Z ?_
   refine Sa _ _ _ _ _ Z (hin q _ (i+1) (by rw [hw1];rfl) hq) (by simp) Z ?_
   refine Um Z Z (Ov p q _ hv) (.inl Z) ?_
   refine EZ (.ptr _ _) _ Z Z ?_
   refine CC _ _ _ _ _ Z Z Z (by simp only [U1,if_true];rfl) (by simp) ?_
   refine Gc ?_
   refine Gu<|Kh fun u' hu'=> ?_
   refine Vq _ _ _ _ (.d (.agg [i64 v.x,i64 v.y])) Z (by simp only [U1,if_true];rfl) (by simp [Dz]) Z ?_
   refine Vq _ _ _ _ (.d (.agg [i64 v.x,i64 v.y])) Z (by simp only [U1,if_true];rfl) (by simp [Dz]) Z ?_
   refine Um Z Z (Fc v v _ hd) (.inl Z) ?_
   refine Um Z Z (Ow d _ hr) (.inl Z) ?_
   refine M0 (.d _) Z Z ?_
   refine M0 (.d _) Z Z ?_
   refine M0 (.d _) Z Z ?_
   refine M0 (.d _) Z Z ?_
   refine M0 (.d _) Z Z ?_
   refine Gc ?_
   refine Gu<|Gu ?_
   refine KJ Z fun _ _=> ?_
   simp only [List.take,List.drop]
   refine M0 (.yld _) Z Z ?_
   refine M0 (.d _) Z Z ?_
   refine M0 (.d _) Z Z ?_
   refine M0 (.d _) Z Z ?_
   refine M0 (.d _) Z Z ?_
   refine FA _ _ _ _ Z Z (Int.natCast_nonneg i) (hin p _ i Z hp) Z ?_
   refine Sa _ _ _ _ _ Z (hin p _ i Z hp) (by simp) Z ?_
   refine Vq _ _ _ _ (.d (.agg [i64 v.x,i64 v.y])) Z (by simp only [U1,if_true];rfl) (by simp [Dz]) Z ?_
   refine M0 (.d _) Z Z ?_
   refine M0 (.d _) Z Z ?_
   refine M0 (.d _) Z Z ?_
   refine Gc ?_
   intro u3 hu3
   refine KV k ((AE ((i:Int),CurvePiece.mk p v r.1 start)).map .d) Z Z ?_
   refine YCall.weak (GL hu<|GL hu fun _ _ h=>h) ((hy i hh _ (by rw [lI,hLi];rfl) hinv).mono ?_)
   rintro v' h' (⟨rfl,hin⟩|⟨rfl,hst⟩)
   ·intro u4 hu4
    refine M0 (.d _) Z Z ?_
    refine Gc ?_
    refine Qq (t:=false) Z (fun h=>by cases h) (fun _=> ?_)
    refine Zr ?_
    refine Kh fun u hu=> ?_
    refine M0 (.d _) Z Z ?_
    refine M0 (.d _) Z Z ?_
    refine M0 (.d _) Z Z ?_
    refine M0 (.d _) Z Z ?_
    refine Gc ?_
    refine Kh fun u hu=> ?_
    refine M0 (.d _) Z Z ?_
    refine M0 (.d _) Z Z ?_
    refine Gc ?_
    refine ⟨(i+1,I8 (start+r.1),h'),⟨hin,by dsimp only;omega,?_⟩,by dsimp only;omega,KU ⟨rfl,rfl,rfl,rfl,?_,trivial⟩ fun _ _ h=>h⟩
    ·dsimp only
     rw [hLd,show pts.length - 1 - (i+1)=m by omega];exact hl
    ·show AV.d (i64 (IntKind.i64.wrap ((i:Int)+1)))=_
     rw [hw1];rfl
   ·intro u4 hu4
    refine M0 (.d _) Z Z ?_
    refine Gc ?_
    refine Qq (t:=true) Z (fun _=> ?_) (fun h=>by cases h)
    refine EV ?_
    dsimp only
    exact ⟨Or.inr trivial,AV.tup [],Z,Or.inr hst⟩
  ·refine Zs ?_
   have hlen1:1≤pts.length→I8 ((pts.length:Int) - 1)=pts.length - 1:=fun _=>FK (by omega)
   have:i=pts.length - 1:=by
     by_cases h:1≤pts.length
     ·rw [hlen1 h]at hlt;omega
     ·omega
   subst this
   rw [Nat.sub_self,Df]at hgo
   have hL:(L.map AE).length=pts.length - 1:=by
     have h1:L.drop (pts.length - 1)= []:=(lC hgo).symm
     have h2:=List.drop_eq_nil_iff.1 h1
     rw [lP]
     refine Nat.le_antisymm h2 ?_
     exact Nat.le_of_eq (Tt _ _ _ _ _ h).symm
   exact ⟨.inl Z,_,Z, .inl (by rw [hL];exact hinv)⟩
def An (x1:(List Int))(a1:(Int×CurvePiece)):Option (Stp (List Int) (List Int)):=
  (U5 x1 [a1.2.l]).bind fun v3=>some (.go v3)
def Ba [Lp](p1:Curve):Option (List Int):=
  (Az p1).bind fun v1=>cond (v1 !=0) (some []) (((Kb p1.Pts).bind fun v2=>loopL (An) (fun (x1:(List Int))=>x1) v2 []).bind fun y1=>some y1)
theorem Tu(p1 r)(h:Ba p1=some r):PCall prog 268 [(.agg [(.list (List.map I0 p1.Pts))])] (.list (List.map A7 r)):=by
 refine C0 (fk func268 ntmps268 (fun r=>if r==6 then [1003]else []) (by with_unfolding_all rfl)) (nl Z) ?_
 unfold Ba at h
 refine A5 (s0:=⟨T [(0,(.d _))],G []⟩) (D2 Z Z) ?_
 refine B5<|sm Z<|sv Z<|A1<|A2<|B5<|sd Z (B3 Z G_hit Z Z)<|bs h fun _ hv1 h=>B8 Z Z A3 (Nj _ _ hv1) (.inl Z) (sv Z<|A1<|cc Z h (fun c1 h=> ?_)<|fun c1 h=> ?_)
 refine B5<|sv Z<|A1<|B1 ?_
 cases h
 exact A8 (.inr Z) (B4 (B2 Z) C2) DLe.nil
 refine A9<|lr<|fun u4 _=>sm Z<|A1<|A2<|B5<|sd Z (B3 Z (gq Z) Z Z)<|B8 Z Z A3 (CU p1) (.inl Z) (A1<|bs h fun y1 hy1 h=>D5 (fun s=> ∃g1:Nat,Sb ⟨T [(3,(.ptr (3,u4) 0))],G [((3,u4),some<|.box 75 [(oS y1 (17,g1))]),((17,g1),oB 2 1 A7 y1)]⟩ s) ?_ ?_)
 refine A6<|bs hy1 fun v2 hv2 hy1=>A5 (s0:=⟨T [(3,(.ptr _ _)),(10,(.d _))],G [((3,u4),some<|.box 75 _)]⟩) (D2 Z Z) ?_
 refine LF (.fn (.func 271) [] [(.bp [(.list (List.map I0 p1.Pts))] 0)]) AE v2 (An) (fun (x1:(List Int))=>x1) (fun (x1:(List Int)) (g2:Nat)=> [((3,u4),some<|.box 75 [(oS x1 (17,g2))]),((17,g2),oB 2 1 A7 x1)]) [] 0 _ Z (CV hv2) (fun _=>Z) hy1 (C3 trivial<|B7 G_hit (.of Z)<|Y1 trivial) nofun ?_ ?_
 intro u7 hu7 hku7
 refine ⟨fun x1 g2=>(N6 Z<|N6 Z Z),?_⟩
 intro r1 x1 g2 a1 z1 hrr1 hz1 ez1
 unfold An at hz1
 show Db _ _ _ _ _ _ ⟨T [(12,(.d (.agg (CS a1.2)))),(11,(di a1.1)),(3,(.ptr (3,u4) 0)),(10,(.d (.fn (.func 271) [] [(.bp [(.list (List.map I0 p1.Pts))] 0)])))],G [((1000000,u7),some (.obj (T [(3,(.ptr (3,u4) 0)),(10,(.d (.fn (.func 271) [] [(.bp [(.list (List.map I0 p1.Pts))] 0)])))]) r1)),((3,u4),some (.box 75 [(oS x1 (17,g2))])),((17,g2),oB 2 1 A7 x1)]⟩
 refine B0<|sm Z<|Aj Z G_hit (CT a1.2) Z (A1<|Y5<|RE (gq Z) ?_)
 refine A6<|O9 fun u9 _=>B6 (oS x1 (17,g2)) Z (Gf Z (gq Z) Z) (sq Z<|sl Z (gq Z) Z (B6 (dl A7 [a1.2.l]) Z Z (bs hz1 fun _ hv3 hz1=>J2 A7 (17,g2) x1 a1.2.l [] _ (F4<|fun _=>Z) Z (gq Z) hv3 (Aj Z (gq Z) [(.sl (17,u9))] Z (A1<|D9<|E7 ?_)))))
 cases hz1
 exact RF (gq Z) u9 (B7 G_hit (.box (.cons (.of (Ai<|O0 hv3).symm) .nil))<|P5 (gq Z) trivial)
 rintro x1 g2 _ rfl qx1
 refine D9<|Y5 ?_
 exact ⟨g2,(Sb.after qx1<|C3 ⟨.of Z,trivial⟩<|B7 G_hit (.of Z)<|D3 (gq Z) trivial)⟩
 rintro _ ⟨g1,q1⟩
 refine A5 q1<|B5<|B6 (oS y1 (17,g1)) Z (Gf Z G_hit Z) (B6 (oS y1 (17,g1)) Z Z (A1<|B1 ?_))
 cases h
 exact A8 (.inr Z) (B4 (B2 Z)<|Ed<|gq Z) Ec
def U3 (v1:(List Int))(x1:(Int×Int)):Option (Stp (Int×Int) Int):=
  cond (decide (x1.2< (v1.length:Int))) ((D6 v1 x1.2).bind fun v2=>some (.go ((I8 (x1.1+v2)),(I8 (x1.2+1))))) (some (.out x1.1))
def Bb [Lp](p1:Curve):Option Int:=
  (Ba p1).bind fun v1=>(loop (U3 v1) (0,0)).bind fun y1=>some y1
theorem Tv(p1 r)(h:Bb p1=some r):PCall prog 232 [(.agg [(.list (List.map I0 p1.Pts))])] (i64 r):=by
 refine C0 (fk func232 ntmps232 m0 (by with_unfolding_all rfl)) (nl Z) ?_
 unfold Bb at h
 refine A5 (s0:=⟨T [(0,(.d _))],G []⟩) (D2 Z Z) ?_
 refine B5<|sm Z<|sv Z<|A1<|B5<|sv Z<|A1<|A2<|B5<|sd Z (B3 Z G_hit Z Z)<|bs h fun v1 hv1 h=>B8 Z Z A3 (Tu _ _ hv1) (.inl Z) (sd Z (C1 Z)<|sv Z<|A1<|bs h fun y1 hy1 h=>D5 (fun s=> ∃g1:Unit,Sb ⟨T [(3,(di y1))],G []⟩ s) ?_ ?_)
 refine A6<|E0 (U3 v1) (fun (x1:(Int×Int)) (g2:Unit)=>⟨T [(3,(di x1.1)),(7,(dl A7 v1)),(8,(di (v1.length:Int))),(9,(di x1.2))],G []⟩) (0,0) () _ hy1 (D2 Z Z) ?_
 intro x1 g2 z1 hz1 ez1
 unfold U3 at hz1
 refine B5<|sv Z<|A1<|A2<|cc Z hz1 (fun c1 hz1=> ?_)<|fun c1 hz1=> ?_
 refine A9<|A2<|A6<|B5<|bs hz1 fun _ hv2 hz1=>sd Z (C9 Z Z hv2 Z)<|sd Z (F5 Z hv2 Z)<|sv Z<|A1<|B0<|sv Z<|sv Z<|sv Z<|sv Z<|A1<|D9<|B0<|sv Z<|sv Z<|A1<|E7 ?_
 cases hz1
 exact ⟨Z,(),(D2 Z Z)⟩
 refine C5 Z ?_
 cases hz1
 obtain rfl:=ez1 _ rfl
 refine ⟨nofun,C4 Z<|Y5 ?_⟩
 exact ⟨(),(D2 Z Z)⟩
 rintro _ ⟨g1,q1⟩
 refine A5 q1<|B5<|sv Z<|sv Z<|A1<|B1 ?_
 cases h
 exact A8 (.inr Z) (B4 (B2 Z) C2) (.refl _)
def T5 [Lp](p1:Map)(p2:Int):Option Int:=
  (D6 p1.Lanes p2).bind fun v1=>(Bb v1.Curve_).bind fun v2=>some v2
theorem Dp(p1 p2 r)(h:T5 p1 p2=some r):PCall prog 165 [(.agg (O1 p1)),(i64 p2)] (i64 r):=by
 refine C0 (fk func165 ntmps165 m0 (by with_unfolding_all rfl)) (nl Z) ?_
 unfold T5 at h
 refine A5 (s0:=⟨T [(0,(.d _)),(1,(.d _))],G []⟩) (D2 Z Z) ?_
 refine B5<|sm Z<|sv Z<|A1<|B5<|sq Z<|sl Z G_hit Z<|sv Z<|bs h fun _ hv1 h=>sd Z (C9 Z Z hv1 Z)<|sv Z<|sd Z (B9 Z hv1 Z Z)<|bs h fun _ hv2 h=>B8 Z Z A3 (Tv _ _ hv2) (.inl Z) (sv Z<|A1<|B1 ?_)
 cases h
 exact A8 (.inr Z) (B4 (B2 Z) C2) (.refl _)
def M3 [Lp](p1:RoadsCheck)(v1:Zone)(x3:Int):Option (Stp Int (Sum Unit Int)):=
  cond (decide (x3< (v1.Parts.length:Int))) ((D6 v1.Parts x3).bind fun v5=>((cond (!((decide (v5.From<0))||(decide (v5.From≥v5.To)))) (T5 p1.Map_ v5.Lane_) (some default))).bind fun v6=>cond (((((decide (v5.From<0))||(decide (v5.From≥v5.To)))||(decide (v5.To>v6)))||(decide (v5.Rank<0)))||(decide (v5.Rank>100))) (some (.out (.inr 2))) (some (.go (I8 (x3+1))))) (some (.out (.inl ())))
def Bc (v1:Zone)(x2:((List Int)×Int)):Option (Stp ((List Int)×Int) (List Int)):=
  cond (decide (x2.2< (v1.Parts.length:Int))) ((D6 v1.Parts x2.2).bind fun v2=>(U5 x2.1 [v2.Lane_]).bind fun v3=>some (.go (v3,(I8 (x2.2+1))))) (some (.out x2.1))
def M4 [Lp](p1:RoadsCheck)(x1:Int):Option (Stp Int (Sum Unit Int)):=
  cond (decide (x1< (p1.Map_.Zones.length:Int))) ((D6 p1.Map_.Zones x1).bind fun v1=>cond (decide ((v1.Parts.length:Int)<2)) (some (.out (.inr 6))) (cond (decide ((v1.Parts.length:Int)>6)) (some (.out (.inr 8))) (cond ((decide (v1.Signal_<0))||(decide (v1.Signal_>(p1.Map_.Signals.length:Int)))) (some (.out (.inr 2))) ((loop (Bc v1) ([],0)).bind fun y2=>(W2 y2 0 (p1.Map_.Lanes.length:Int)).bind fun v4=>cond (!v4) (some (.out (.inr 11))) (thenS (loop (M3 p1 v1) 0) (fun _=>some (.go (I8 (x1+1)))) (fun r=>some (.out (.inr r)))))))) (some (.out (.inl ())))
def P9 [Lp](p1:RoadsCheck):Option Int:=
  thenS (loop (M4 p1) 0) (fun _=>some 0) (fun r=>some r)
theorem Nl(p1 r)(h:P9 p1=some r):PCall prog 69 [(.agg (O1 p1.Map_))] (i64 r):=by
 refine C0 (fk func69 ntmps69 (fun r=>if r==15 then [1003]else []) (by with_unfolding_all rfl)) (nl Z) ?_
 unfold P9 at h
 refine A5 (s0:=⟨T [(0,(.d _))],G []⟩) (D2 Z Z) ?_
 refine lr<|fun u1 _=>sm Z<|sv Z<|A1<|A2<|B5<|sq Z<|sp Z Z<|sl Z G_hit Z<|sd Z (C1 Z)<|sv Z<|A1<|js h fun z1 hz1 h=>D5 (fun s=> ∃(y1:Unit) (g1:Unit),z1= .inl y1∧Sb ⟨T [],G []⟩ s) ?_ ?_
 refine A6<|E0 (M4 p1) (fun (x1:Int) (g2:Unit)=>⟨T [(1,(.ptr (1,u1) 0)),(13,(dl N8 p1.Map_.Zones)),(14,(di (p1.Map_.Zones.length:Int))),(15,(di x1))],G [((1,u1),some<|.box 105 (I4 p1.Map_))]⟩) 0 () _ hz1 (D2 Z Z) ?_
 intro x1 g2 z2 hz2 ez2
 unfold M4 at hz2
 refine B5<|sv Z<|A1<|A2<|cc Z hz2 (fun c1 hz2=> ?_)<|fun c1 hz2=> ?_
 refine A9<|A2<|A6<|lr<|fun u4 _=>bs hz2 fun v1 hv1 hz2=>sd Z (C9 Z Z hv1 Z)<|sd Z (B9 Z hv1 Z Z)<|sm Z<|Aj Z G_hit [(dl G1 v1.Parts),(di v1.Signal_)] Z (A1<|A2<|B5<|sq Z<|sl Z G_hit Z<|sd Z (C1 Z)<|sv Z<|A1<|A6<|B5<|sv Z<|sv Z<|sv Z<|A1<|cc Z hz2 (fun c2 hz2=> ?_)<|fun c2 hz2=> ?_)
 refine B5<|sv Z<|A1<|B1 ?_
 cases hz2
 obtain rfl:=ez2 _ rfl
 refine ⟨nofun,E4 ?_⟩
 rw [bJ]at h
 cases h
 exact A8 (.inr Z) (B4 (B2 Z) C2) (.refl _)
 refine B5<|sv Z<|sv Z<|sv Z<|A1<|cc Z hz2 (fun c3 hz2=> ?_)<|fun c3 hz2=> ?_
 refine B5<|sv Z<|A1<|B1 ?_
 cases hz2
 obtain rfl:=ez2 _ rfl
 refine ⟨nofun,E4 ?_⟩
 rw [bJ]at h
 cases h
 exact A8 (.inr Z) (B4 (B2 Z) C2) (.refl _)
 refine B5<|sq Z<|sl Z G_hit Z<|sv Z<|sv Z<|gp Z (I9 Z) (fun _=>Z) (gf Z (vl Z G_hit Z)<|gp Z (I9 Z) (fun _=>Z) ?_)
 refine Ck _ (.ptr _ _) Z (I9 Z) (fun w4=>(by simp only [A4 w4];rfl)) ?_
 refine gf Z (vl Z (gq Z) Z)<|gf Z (fun w6=>(C1<|A4 w6))<|gf Z (fun w7=>(T1 (A4 w7) (A4 w7) Z))<|sd Z (S9 Z Z<|fun hc=>A4<|L3 hc)<|sv Z<|A1<|cc Z hz2 (fun c4 hz2=> ?_)<|fun c4 hz2=> ?_
 refine A2<|A5 (s0:=⟨T [],G []⟩) (D2 Z Z) ?_
 refine B0<|sv Z<|A1<|B1 ?_
 cases hz2
 obtain rfl:=ez2 _ rfl
 refine ⟨nofun,E4 ?_⟩
 rw [bJ]at h
 cases h
 exact A8 (.inr Z) (B4 (B2 Z) C2) (.refl _)
 refine A9<|D9<|A2<|A5 (s0:=⟨T [(1,(.ptr _ _)),(4,(.ptr _ _)),(13,(.d _)),(14,(.d _)),(15,(.d _))],G [((1,u1),some<|.box 105 _),((4,u4),some<|.box 45 _)]⟩) (D2 Z Z) ?_
 refine B0<|sv Z<|A1<|A2<|B5<|sq Z<|sl Z (gq Z) Z (sd Z (C1 Z)<|sv Z<|A1<|bs hz2 fun y2 hy2 hz2=>D5 (fun s=> ∃g3:Nat,Sb ⟨T [(1,(.ptr (1,u1) 0)),(4,(.ptr (4,u4) 0)),(6,(oS y2 (52,g3))),(13,(dl N8 p1.Map_.Zones)),(14,(di (p1.Map_.Zones.length:Int))),(15,(di x1))],G [((1,u1),some<|.box 105 (I4 p1.Map_)),((4,u4),some<|.box 45 [(dl G1 v1.Parts),(di v1.Signal_)]),((52,g3),oB 3 1 A7 y2)]⟩ s) ?_ ?_)
 refine A6<|E0 (Bc v1) (fun (x2:((List Int)×Int)) (g4:Nat)=>⟨T [(1,(.ptr (1,u1) 0)),(4,(.ptr (4,u4) 0)),(6,(oS x2.1 (52,g4))),(13,(dl N8 p1.Map_.Zones)),(14,(di (p1.Map_.Zones.length:Int))),(15,(di x1)),(42,(dl G1 v1.Parts)),(43,(di (v1.Parts.length:Int))),(44,(di x2.2))],G [((1,u1),some<|.box 105 (I4 p1.Map_)),((4,u4),some<|.box 45 [(dl G1 v1.Parts),(di v1.Signal_)]),((52,g4),oB 3 1 A7 x2.1)]⟩) ([],0) 0 _ hy2 (C3 (U2 Z)<|B7 G_hit (.of Z)<|sg Z<|Y1 trivial) ?_
 intro x2 g4 z3 hz3 ez3
 unfold Bc at hz3
 refine B5<|sv Z<|A1<|A2<|cc Z hz3 (fun c5 hz3=> ?_)<|fun c5 hz3=> ?_
 refine A9<|A2<|A6<|B5<|bs hz3 fun v2 hv2 hz3=>sd Z (C9 Z Z hv2 Z)<|sd Z (B9 Z hv2 Z Z)<|sm Z<|Aj Z G_hit (Nh v2) Z (A1<|O9 fun u16 _=>B6 (oS x2.1 (52,g4)) Z Z (sq Z<|sl Z G_hit Z<|B6 (dl A7 [v2.Lane_]) Z Z (bs hz3 fun _ hv3 hz3=>J2 A7 (52,g4) x2.1 v2.Lane_ [] _ (F4<|fun _=>Z) Z (gq Z) hv3 (ss Z<|A1<|D9<|A5 (s0:=⟨T [(1,(.ptr _ _)),(4,(.ptr _ _)),(6,(.sl _)),(13,(.d _)),(14,(.d _)),(15,(.d _)),(42,(.d _)),(43,(.d _)),(44,(.d _))],G [((1,u1),some<|.box 105 _),((4,u4),some<|.box 45 _),((52,u16),some _)]⟩) (D2 Z Z) ?_))))
 refine B0<|sv Z<|sv Z<|A1<|E7 ?_
 cases hz3
 exact ⟨Z,u16,(C3 ⟨.of Z, .of Z,(.of (Ai<|O0 hv3).symm), .of Z, .of Z, .of Z, .of Z, .of Z, .of Z,trivial⟩<|B7 G_hit (.of Z)<|sg Z<|P5 (gq Z) trivial)⟩
 refine C5 Z ?_
 cases hz3
 obtain rfl:=ez3 _ rfl
 refine ⟨nofun,C4 Z<|Y5 ?_⟩
 exact ⟨g4,(C3 (U2 Z)<|B7 G_hit (.of Z)<|sg Z<|D3 (gq Z) trivial)⟩
 rintro _ ⟨g3,q1⟩
 refine A5 q1<|A2<|B5<|B6 (oS y2 (52,g3)) Z Z (sq Z<|sp Z Z<|sl Z G_hit Z<|sd Z (C1 Z)<|bs hz2 fun v4 hv4 hz2=>B8 Z (O4 (Ed<|gq Z)<|rD<|rD K9) (.cons Ec (.cons (.refl _) A3)) (Hr _ _ _ _ hv4) (.inr Z) (B6 (.d (bo (!v4))) Z Z (A1<|cc Z hz2 (fun c6 hz2=> ?_)<|fun c6 hz2=> ?_)))
 refine B5<|sv Z<|A1<|B1 ?_
 cases hz2
 obtain rfl:=ez2 _ rfl
 refine ⟨nofun,E4 ?_⟩
 rw [bJ]at h
 cases h
 exact A8 (.inr Z) (B4 (B2 Z) C2) (.refl _)
 refine A9<|B5<|sq Z<|sl Z (gq Z) Z (sd Z (C1 Z)<|sv Z<|A1<|js hz2 fun z4 hz4 hz2=>D5 (fun s=> ∃(y3:Unit) (g5:Unit),z4= .inl y3∧Sb ⟨T [(1,(.ptr (1,u1) 0)),(13,(dl N8 p1.Map_.Zones)),(14,(di (p1.Map_.Zones.length:Int))),(15,(di x1))],G [((1,u1),some<|.box 105 (I4 p1.Map_))]⟩ s) ?_ ?_)
 refine A6<|E0 (M3 p1 v1) (fun (x3:Int) (g6:Unit)=>⟨T [(1,(.ptr (1,u1) 0)),(13,(dl N8 p1.Map_.Zones)),(14,(di (p1.Map_.Zones.length:Int))),(15,(di x1)),(62,(dl G1 v1.Parts)),(63,(di (v1.Parts.length:Int))),(64,(di x3))],G [((1,u1),some<|.box 105 (I4 p1.Map_))]⟩) 0 () _ hz4 (D2 Z Z) ?_
 intro x3 g6 z5 hz5 ez5
 unfold M3 at hz5
 refine B5<|sv Z<|A1<|A2<|cc Z hz5 (fun c7 hz5=> ?_)<|fun c7 hz5=> ?_
 refine A9<|A2<|A6<|B5<|bs hz5 fun v5 hv5 hz5=>sd Z (C9 Z Z hv5 Z)<|sd Z (B9 Z hv5 Z Z)<|sm Z<|Aj Z G_hit (Nh v5) Z (A1<|A2<|J6 Z<|sq Z<|sl Z G_hit Z<|sv Z<|sv Z<|gp Z (I9 Z) (fun _=>Z) (gf Z (vl Z G_hit Z)<|gp Z (I9 Z) (fun _=>Z) (gf Z (vl Z G_hit Z)<|gf Z (fun w12=>(T1 (A4 w12) (A4 w12) Z))<|sd Z (S9 Z Z<|fun hc=>A4<|L3 hc)<|sv Z<|gp Z (I9 Z) (fun _=>Z) (gf Z (vl Z G_hit Z)<|gp Z (I9 Z) (fun _=>Z) (gf Z (fun w16=>(B3 (A4 w16) (gq Z) Z Z))<|gp Z (I9 Z) (fun _=>Z) (gf Z (vl Z G_hit Z)<|bs hz5 fun v6 hv6 hz5=> ?_))))))
 refine L4 _ (i64 v6) (I9 Z) (fun w19=>⟨_,[(.d (.agg (O1 p1.Map_))),(di v5.Lane_)],_,_,(by simp only [A4 w19];rfl),Z,A3,Dp _ _ _<|G0 w19 hv6,(.inl Z)⟩) ?_
 refine gf Z (fun w20=>(T1 (A4 w20) (A4 w20) Z))<|sd Z (S9 Z Z<|fun hc=>A4<|L3 hc)<|sv Z<|gp Z (I9 Z) (fun _=>Z) (gf Z (vl Z G_hit Z)<|gf Z (vb Z Z Z)<|sd Z (S9 Z Z<|fun hc=>A4<|L3 hc)<|sv Z<|gp Z (I9 Z) (fun _=>Z) (gf Z (vl Z G_hit Z)<|gf Z (vb Z Z Z)<|sd Z (S9 Z Z<|fun hc=>A4<|L3 hc)<|A1<|cc Z hz5 (fun c8 hz5=> ?_)<|fun c8 hz5=> ?_))
 refine A2<|A5 (s0:=⟨T [],G []⟩) (D2 Z Z) ?_
 refine B0<|sv Z<|A1<|B1 ?_
 cases hz5
 obtain rfl:=ez5 _ rfl
 refine ⟨nofun,E4 ?_⟩
 rw [bJ]at hz2
 cases hz2
 obtain rfl:=ez2 _ rfl
 refine ⟨nofun,E4 ?_⟩
 rw [bJ]at h
 cases h
 exact A8 (.inr Z) (B4 (B2 Z) C2) (.refl _)
 refine A9<|D9<|A5 (s0:=⟨T [(1,(.ptr _ _)),(13,(.d _)),(14,(.d _)),(15,(.d _)),(62,(.d _)),(63,(.d _)),(64,(.d _))],G [((1,u1),some<|.box 105 _)]⟩) (D2 Z Z) ?_
 refine B0<|sv Z<|sv Z<|A1<|E7 ?_
 cases hz5
 exact ⟨Z,(),(D2 Z Z)⟩
 refine C5 Z ?_
 cases hz5
 obtain rfl:=ez5 _ rfl
 refine ⟨nofun,C4 Z<|Y5 ?_⟩
 exact ⟨_,(),Z,(D2 Z Z)⟩
 rintro _ ⟨y3,g5,rfl,q2⟩
 rw [bI]at hz2
 refine D9<|A5 q2<|B0<|sv Z<|sv Z<|A1<|E7 ?_
 cases hz2
 exact ⟨Z,(),(D2 Z Z)⟩
 refine C5 Z ?_
 cases hz2
 obtain rfl:=ez2 _ rfl
 refine ⟨nofun,C4 Z<|Y5 ?_⟩
 exact ⟨_,(),Z,(D2 Z Z)⟩
 rintro _ ⟨y1,g1,rfl,q3⟩
 rw [bI]at h
 refine A5 q3<|B5<|sv Z<|A1<|B1 ?_
 cases h
 exact A8 (.inr Z) (B4 (B2 Z) C2) (.refl _)
def M5 [Lp](p1:RoadsCheck)(x1:Int):Option (Stp Int (Sum Unit Int)):=
  cond (decide (x1< (p1.Map_.Works.length:Int))) ((D6 p1.Map_.Works x1).bind fun v1=>cond ((decide (v1.Lane_<0))||(decide (v1.Lane_≥(p1.Map_.Lanes.length:Int)))) (some (.out (.inr 7))) ((D6 p1.Map_.Lanes v1.Lane_).bind fun v2=>(En v2.Kind).bind fun v3=>((cond (!((decide (v1.From<0))||(decide (v1.From>v1.To)))) (T5 p1.Map_ v1.Lane_) (some default))).bind fun v4=>((cond (!((((((decide (v1.From<0))||(decide (v1.From>v1.To)))||(decide (v1.To>v4)))||(decide (v1.Begin<0)))||(decide (v1.Begin≥v1.End)))||(decide (v1.End>1099511627776)))) (Q7 v1.Limit 0 v3.1) (some default))).bind fun v5=>cond (((((((decide (v1.From<0))||(decide (v1.From>v1.To)))||(decide (v1.To>v4)))||(decide (v1.Begin<0)))||(decide (v1.Begin≥v1.End)))||(decide (v1.End>1099511627776)))||(!v5)) (some (.out (.inr 2))) (some (.go (I8 (x1+1)))))) (some (.out (.inl ())))
def Q0 [Lp](p1:RoadsCheck):Option Int:=
  thenS (loop (M5 p1) 0) (fun _=>some 0) (fun r=>some r)
theorem Nm(p1 r)(h:Q0 p1=some r):PCall prog 70 [(.agg (O1 p1.Map_))] (i64 r):=by
 refine C0 (fk func70 ntmps70 m0 (by with_unfolding_all rfl)) (nl Z) ?_
 unfold Q0 at h
 refine A5 (s0:=⟨T [(0,(.d _))],G []⟩) (D2 Z Z) ?_
 refine lr<|fun u1 _=>sm Z<|sv Z<|A1<|A2<|B5<|sq Z<|sp Z Z<|sl Z G_hit Z<|sd Z (C1 Z)<|sv Z<|A1<|js h fun z1 hz1 h=>D5 (fun s=> ∃(y1:Unit) (g1:Unit),z1= .inl y1∧Sb ⟨T [],G []⟩ s) ?_ ?_
 refine A6<|E0 (M5 p1) (fun (x1:Int) (g2:Unit)=>⟨T [(1,(.ptr (1,u1) 0)),(10,(dl By p1.Map_.Works)),(11,(di (p1.Map_.Works.length:Int))),(12,(di x1))],G [((1,u1),some<|.box 105 (I4 p1.Map_))]⟩) 0 () _ hz1 (D2 Z Z) ?_
 intro x1 g2 z2 hz2 ez2
 unfold M5 at hz2
 refine B5<|sv Z<|A1<|A2<|cc Z hz2 (fun c1 hz2=> ?_)<|fun c1 hz2=> ?_
 refine A9<|A2<|A6<|lr<|fun u4 _=>bs hz2 fun v1 hv1 hz2=>sd Z (C9 Z Z hv1 Z)<|sd Z (B9 Z hv1 Z Z)<|sm Z<|Aj Z G_hit (GX v1) Z (A1<|A2<|B5<|sq Z<|sl Z G_hit Z<|sv Z<|sv Z<|gp Z (I9 Z) (fun _=>Z) (gf Z (vl Z G_hit Z)<|gp Z (I9 Z) (fun _=>Z) ?_))
 refine Ck _ (.ptr _ _) Z (I9 Z) (fun w4=>(by simp only [A4 w4];rfl)) ?_
 refine gf Z (vl Z (gq Z) Z)<|gf Z (fun w6=>(C1<|A4 w6))<|gf Z (fun w7=>(T1 (A4 w7) (A4 w7) Z))<|sd Z (S9 Z Z<|fun hc=>A4<|L3 hc)<|A1<|cc Z hz2 (fun c2 hz2=> ?_)<|fun c2 hz2=> ?_
 refine A2<|A5 (s0:=⟨T [],G []⟩) (D2 Z Z) ?_
 refine B0<|sv Z<|A1<|B1 ?_
 cases hz2
 obtain rfl:=ez2 _ rfl
 refine ⟨nofun,E4 ?_⟩
 rw [bJ]at h
 cases h
 exact A8 (.inr Z) (B4 (B2 Z) C2) (.refl _)
 refine A9<|A2<|A5 (s0:=⟨T [(1,(.ptr _ _)),(4,(.ptr _ _)),(10,(.d _)),(11,(.d _)),(12,(.d _))],G [((1,u1),some<|.box 105 _),((4,u4),some<|.box 50 _)]⟩) (D2 Z Z) ?_
 refine B0<|sq Z<|sq Z<|sl Z G_hit Z<|sq Z<|sl Z (gq Z) Z (bs hz2 fun _ hv2 hz2=>sd Z (C9 Z Z hv2 Z)<|sv Z<|sd Z (F5 Z hv2 Z)<|bs hz2 fun v3 hv3 hz2=>B8 Z Z A3 (Mb _ _ hv3) (.inl Z) (sv Z<|sv Z<|sv Z<|sv Z<|sv Z<|sv Z<|sv Z<|A1<|A2<|A5 (s0:=⟨T [(1,(.ptr _ _)),(4,(.ptr _ _)),(5,(.d _)),(10,(.d _)),(11,(.d _)),(12,(.d _))],G [((1,u1),some<|.box 105 _),((4,u4),some<|.box 50 _)]⟩) (D2 Z Z) ?_))
 refine J6 Z<|sq Z<|sl Z (gq Z) Z (sv Z<|sv Z<|gp Z (I9 Z) (fun _=>Z) (gf Z (vl Z (gq Z) Z)<|gp Z (I9 Z) (fun _=>Z) (gf Z (vl Z (gq Z) Z)<|gf Z (fun w12=>(T1 (A4 w12) (A4 w12) Z))<|sd Z (S9 Z Z<|fun hc=>A4<|L3 hc)<|sv Z<|gp Z (I9 Z) (fun _=>Z) (gf Z (vl Z (gq Z) Z)<|gp Z (I9 Z) (fun _=>Z) (gf Z (fun w16=>(B3 (A4 w16) G_hit Z Z))<|gp Z (I9 Z) (fun _=>Z) (gf Z (vl Z (gq Z) Z)<|bs hz2 fun v4 hv4 hz2=> ?_))))))
 refine L4 _ (i64 v4) (I9 Z) (fun w19=>⟨_,[(.d (.agg (O1 p1.Map_))),(di v1.Lane_)],_,_,(by simp only [A4 w19];rfl),Z,A3,Dp _ _ _<|G0 w19 hv4,(.inl Z)⟩) ?_
 refine gf Z (fun w20=>(T1 (A4 w20) (A4 w20) Z))<|sd Z (S9 Z Z<|fun hc=>A4<|L3 hc)<|sv Z<|gp Z (I9 Z) (fun _=>Z) (gf Z (vl Z (gq Z) Z)<|gf Z (vb Z Z Z)<|sd Z (S9 Z Z<|fun hc=>A4<|L3 hc)<|sv Z<|gp Z (I9 Z) (fun _=>Z) (gf Z (vl Z (gq Z) Z)<|gp Z (I9 Z) (fun _=>Z) (gf Z (vl Z (gq Z) Z)<|gf Z (fun w28=>(T1 (A4 w28) (A4 w28) Z))<|sd Z (S9 Z Z<|fun hc=>A4<|L3 hc)<|sv Z<|gp Z (I9 Z) (fun _=>Z) (gf Z (vl Z (gq Z) Z)<|gf Z (vb Z Z Z)<|sd Z (S9 Z Z<|fun hc=>A4<|L3 hc)<|sv Z<|gp Z (I9 Z) (fun _=>Z) (gf Z (vl Z (gq Z) Z)<|gf Z (fun _=>Z)<|bs hz2 fun v5 hv5 hz2=> ?_)))))
 refine L4 _ (bo v5) (I9 Z) (fun w35=>⟨_,[(di v1.Limit),(di 0),(di v3.1)],_,_,(by simp only [A4 w35];rfl),Z,A3,Q5 _ _ _ _<|G0 w35 hv5,(.inl Z)⟩) ?_
 refine Ck _ (.d (bo (!v5))) Z (I9 Z) (fun w36=>(by simp only [A4 w36];rfl)) ?_
 refine sd Z (S9 Z Z<|fun hc=>A4<|L3 hc)<|A1<|cc Z hz2 (fun c3 hz2=> ?_)<|fun c3 hz2=> ?_
 refine A2<|A5 (s0:=⟨T [],G []⟩) (D2 Z Z) ?_
 refine B0<|sv Z<|A1<|B1 ?_
 cases hz2
 obtain rfl:=ez2 _ rfl
 refine ⟨nofun,E4 ?_⟩
 rw [bJ]at h
 cases h
 exact A8 (.inr Z) (B4 (B2 Z) C2) (.refl _)
 refine A9<|D9<|A5 (s0:=⟨T [(1,(.ptr _ _)),(10,(.d _)),(11,(.d _)),(12,(.d _))],G [((1,u1),some<|.box 105 _)]⟩) (D2 Z Z) ?_
 refine B0<|sv Z<|sv Z<|A1<|E7 ?_
 cases hz2
 exact ⟨Z,(),(D2 Z Z)⟩
 refine C5 Z ?_
 cases hz2
 obtain rfl:=ez2 _ rfl
 refine ⟨nofun,C4 Z<|Y5 ?_⟩
 exact ⟨_,(),Z,(D2 Z Z)⟩
 rintro _ ⟨y1,g1,rfl,q1⟩
 rw [bI]at h
 refine A5 q1<|B5<|sv Z<|A1<|B1 ?_
 cases h
 exact A8 (.inr Z) (B4 (B2 Z) C2) (.refl _)
def O6 [Lp](v:Nat)(p1:RoadsCheck):Option Int:=
  cond (Nat.beq v 65) (T9 p1) (cond (Nat.beq v 66) (P8 p1) (cond (Nat.beq v 67) (P3 p1) (cond (Nat.beq v 68) (O2 p1) (cond (Nat.beq v 69) (P9 p1) (cond (Nat.beq v 70) (Q0 p1) (none))))))
theorem Hm(v p1 r)(h:O6 v p1=some r):PCall prog v [(.agg [(i64 p1.Map_.Version),(.list (List.map R8 p1.Map_.Lanes)),(.list (List.map N8 p1.Map_.Zones)),(.list (List.map U8 p1.Map_.Signals)),(.list (List.map By p1.Map_.Works))])] (i64 r):=by
  unfold O6 at h
  rcases Sf h with ⟨rfl,h⟩|⟨_,h⟩
  ·exact Lm _ r h
  rcases Sf h with ⟨rfl,h⟩|⟨_,h⟩
  ·exact Nk _ r h
  rcases Sf h with ⟨rfl,h⟩|⟨_,h⟩
  ·exact Ml _ r h
  rcases Sf h with ⟨rfl,h⟩|⟨_,h⟩
  ·exact Ln _ r h
  rcases Sf h with ⟨rfl,h⟩|⟨_,h⟩
  ·exact Nl _ r h
  rcases Sf h with ⟨rfl,h⟩|⟨_,h⟩
  ·exact Nm _ r h
  cases h
def J7 [Lp](p1:Map)(x1:Int):Option (Stp Int (Sum Unit Int)):=
  cond (decide (x1< ([65,66,67,68,69,70].length:Int))) ((D6 [65,66,67,68,69,70] x1).bind fun v1=>(O6 v1 (RoadsCheck.mk p1)).bind fun v2=>cond (v2 !=0) (some (.out (.inr v2))) (some (.go (I8 (x1+1))))) (some (.out (.inl ())))
def R9 [Lp](p1:Map):Option Int:=
  thenS (loop (J7 p1) 0) (fun _=>some 0) (fun r=>some r)
theorem Bz(p1 r)(h:R9 p1=some r):PCall prog 16 [(.agg (O1 p1))] (i64 r):=by
 refine C0 (fk func16 ntmps16 (fun r=>if r==1 then [1000]else []) (by with_unfolding_all rfl)) (nl Z) ?_
 unfold R9 at h
 refine A5 (s0:=⟨T [(0,(.d _))],G []⟩) (D2 Z Z) ?_
 refine lr<|fun u1 _=>sm Z<|sv Z<|A1<|A2<|B5<|B6 (dl UY [65,66,67,68,69,70]) Z Z (sd Z (C1 Z)<|sv Z<|A1<|js h fun z1 hz1 h=>D5 (fun s=> ∃(y1:Unit) (g1:Unit),z1= .inl y1∧Sb ⟨T [],G []⟩ s) ?_ ?_)
 refine A6<|E0 (J7 p1) (fun (x1:Int) (g2:Unit)=>⟨T [(1,(.ptr (1,u1) 0)),(6,(dl UY [65,66,67,68,69,70])),(7,(di ([65,66,67,68,69,70].length:Int))),(8,(di x1))],G [((1,u1),some<|.box 27 (I4 p1))]⟩) 0 () _ hz1 (D2 Z Z) ?_
 intro x1 g2 z2 hz2 ez2
 unfold J7 at hz2
 refine B5<|sv Z<|A1<|A2<|cc Z hz2 (fun c1 hz2=> ?_)<|fun c1 hz2=> ?_
 refine A9<|A2<|A6<|B5<|bs hz2 fun _ hv1 hz2=>sd Z (C9 Z Z hv1 Z)<|sd Z (F5 Z hv1 Z)<|sv Z<|A1<|B5<|sv Z<|sd Z (B3 Z G_hit Z Z)<|sv Z<|bs hz2 fun _ hv2 hz2=>B8 Z Z A3 (Hm _ _ _ hv2) (.inl Z) (sv Z<|A1<|B5<|sv Z<|sv Z<|A1<|cc Z hz2 (fun c2 hz2=> ?_)<|fun c2 hz2=> ?_)
 refine B5<|sv Z<|sv Z<|A1<|B1 ?_
 cases hz2
 obtain rfl:=ez2 _ rfl
 refine ⟨nofun,E4 ?_⟩
 rw [bJ]at h
 cases h
 exact A8 (.inr Z) (B4 (B2 Z) C2) (.refl _)
 refine A9<|D9<|B0<|sv Z<|sv Z<|A1<|E7 ?_
 cases hz2
 exact ⟨Z,(),(D2 Z Z)⟩
 refine C5 Z ?_
 cases hz2
 obtain rfl:=ez2 _ rfl
 refine ⟨nofun,C4 Z<|Y5 ?_⟩
 exact ⟨_,(),Z,(D2 Z Z)⟩
 rintro _ ⟨y1,g1,rfl,q1⟩
 rw [bI]at h
 refine A5 q1<|B5<|sv Z<|A1<|B1 ?_
 cases h
 exact A8 (.inr Z) (B4 (B2 Z) C2) (.refl _)
def Ca (p1:(List Int))(p2:Int)(x1:Int):Option (Stp Int (Sum Unit Int)):=
  cond (decide (x1< (p1.length:Int))) ((D6 p1 x1).bind fun v1=>cond (p2==v1) (some (.out (.inr x1))) (some (.go (I8 (x1+1))))) (some (.out (.inl ())))
def S3 [Lp](p1:(List Int))(p2:Int):Option Int:=
  thenS (loop (Ca p1 p2) 0) (fun _=>some (-1)) (fun r=>some r)
theorem Ks(p1 p2 r)(h:S3 p1 p2=some r):PCall prog 224 [(.list (List.map A7 p1)),(i64 p2)] (i64 r):=by
 refine C0 (fk func224 ntmps224 m0 (by with_unfolding_all rfl)) (nl Z) ?_
 unfold S3 at h
 refine A5 (s0:=⟨T [(0,(.d _)),(1,(.d _))],G []⟩) (D2 Z Z) ?_
 refine B5<|sv Z<|A1<|A2<|B5<|sv Z<|sd Z (C1 Z)<|sv Z<|A1<|js h fun z1 hz1 h=>D5 (fun s=> ∃(y1:Unit) (g1:Unit),z1= .inl y1∧Sb ⟨T [],G []⟩ s) ?_ ?_
 refine A6<|E0 (Ca p1 p2) (fun (x1:Int) (g2:Unit)=>⟨T [(0,(dl A7 p1)),(1,(di p2)),(7,(di (p1.length:Int))),(8,(di x1))],G []⟩) 0 () _ hz1 (D2 Z Z) ?_
 intro x1 g2 z2 hz2 ez2
 unfold Ca at hz2
 refine B5<|sv Z<|A1<|A2<|cc Z hz2 (fun c1 hz2=> ?_)<|fun c1 hz2=> ?_
 refine A9<|A2<|A6<|B5<|sv Z<|sv Z<|A1<|B5<|sv Z<|sv Z<|sv Z<|bs hz2 fun _ hv1 hz2=>sd Z (C9 Z Z hv1 Z)<|sd Z (F5 Z hv1 Z)<|sv Z<|A1<|cc Z hz2 (fun c2 hz2=> ?_)<|fun c2 hz2=> ?_
 refine B5<|sv Z<|sv Z<|A1<|B1 ?_
 cases hz2
 obtain rfl:=ez2 _ rfl
 refine ⟨nofun,E4 ?_⟩
 rw [bJ]at h
 cases h
 exact A8 (.inr Z) (B4 (B2 Z) C2) (.refl _)
 refine A9<|D9<|B0<|sv Z<|sv Z<|A1<|E7 ?_
 cases hz2
 exact ⟨Z,(),(D2 Z Z)⟩
 refine C5 Z ?_
 cases hz2
 obtain rfl:=ez2 _ rfl
 refine ⟨nofun,C4 Z<|Y5 ?_⟩
 exact ⟨_,(),Z,(D2 Z Z)⟩
 rintro _ ⟨y1,g1,rfl,q1⟩
 rw [bI]at h
 refine A5 q1<|B5<|sv Z<|A1<|B1 ?_
 cases h
 exact A8 (.inr Z) (B4 (B2 Z) C2) (.refl _)
def J3 [Lp](p1:(List Int))(p2:Int):Option Bool:=
  (S3 p1 p2).bind fun v1=>some (decide (v1≥0))
theorem T6(p1 p2 r)(h:J3 p1 p2=some r):PCall prog 136 [(.list (List.map A7 p1)),(i64 p2)] (bo r):=by
 refine C0 (fk func136 ntmps136 m0 (by with_unfolding_all rfl)) (nl Z) ?_
 unfold J3 at h
 refine A5 (s0:=⟨T [(0,(.d _)),(1,(.d _))],G []⟩) (D2 Z Z) ?_
 refine B5<|sv Z<|A1<|B5<|sv Z<|sv Z<|bs h fun _ hv1 h=>B8 Z Z A3 (Ks _ _ _ hv1) (.inl Z) (sv Z<|sv Z<|A1<|B1 ?_)
 cases h
 exact A8 (.inr Z) (B4 (B2 Z) C2) (.refl _)
def Ao [Lp](p1:Map)(p2:Int)(x1:((List Int)×Int)):Option (Stp ((List Int)×Int) (List Int)):=
  cond (decide (x1.2< (p1.Lanes.length:Int))) ((D6 p1.Lanes x1.2).bind fun v1=>(J3 v1.Next p2).bind fun v2=>cond v2 ((U5 x1.1 [x1.2]).bind fun v3=>some (.go (v3,(I8 (x1.2+1))))) (some (.go (x1.1,(I8 (x1.2+1)))))) (some (.out x1.1))
def Bd [Lp](p1:Map)(p2:Int):Option (List Int):=
  (loop (Ao p1 p2) ([],0)).bind fun y1=>some y1
theorem Ht(p1 p2 r)(h:Bd p1 p2=some r):PCall prog 135 [(.agg (O1 p1)),(i64 p2)] (.list (List.map A7 r)):=by
 refine C0 (fk func135 ntmps135 (fun r=>if r==6 then [1002]else []) (by with_unfolding_all rfl)) (nl Z) ?_
 unfold Bd at h
 refine A5 (s0:=⟨T [(0,(.d _)),(1,(.d _))],G []⟩) (D2 Z Z) ?_
 refine B5<|sm Z<|sv Z<|A1<|B5<|sv Z<|A1<|A2<|B5<|sq Z<|sl Z G_hit Z<|sd Z (C1 Z)<|sv Z<|A1<|bs h fun y1 hy1 h=>D5 (fun s=> ∃g1:Nat,Sb ⟨T [(5,(oS y1 (23,g1)))],G [((23,g1),oB 3 1 A7 y1)]⟩ s) ?_ ?_
 refine A6<|E0 (Ao p1 p2) (fun (x1:((List Int)×Int)) (g2:Nat)=>⟨T [(1,(di p2)),(5,(oS x1.1 (23,g2))),(9,(dl R8 p1.Lanes)),(10,(di (p1.Lanes.length:Int))),(11,(di x1.2))],G [((23,g2),oB 3 1 A7 x1.1)]⟩) ([],0) 0 _ hy1 (C3 (U2 Z)<|Y1 trivial) ?_
 intro x1 g2 z1 hz1 ez1
 unfold Ao at hz1
 refine B5<|sv Z<|A1<|A2<|cc Z hz1 (fun c1 hz1=> ?_)<|fun c1 hz1=> ?_
 refine A9<|A2<|A6<|B5<|sv Z<|bs hz1 fun v1 hv1 hz1=>sd Z (C9 Z Z hv1 Z)<|sd Z (B9 Z hv1 Z Z)<|sm Z<|sv Z<|Aj Z G_hit (De v1) Z (A1<|B5<|sq Z<|sl Z G_hit Z<|sv Z<|bs hz1 fun _ hv2 hz1=>B8 Z Z A3 (T6 _ _ _ hv2) (.inl Z) (A1<|cc Z hz1 (fun c2 hz1=> ?_)<|fun c2 hz1=> ?_))
 refine O9 fun u7 _=>B6 (oS x1.1 (23,g2)) Z Z (sv Z<|B6 (dl A7 [x1.2]) Z Z (bs hz1 fun _ hv3 hz1=>J2 A7 (23,g2) x1.1 x1.2 [] _ (F4<|fun _=>Z) Z (gq Z) hv3 (ss Z<|A1<|D9<|A5 (s0:=⟨T [(1,(.d _)),(5,(.sl _)),(9,(.d _)),(10,(.d _)),(11,(.d _))],G [((23,u7),some _)]⟩) (D2 Z Z) ?_)))
 refine B0<|sv Z<|sv Z<|A1<|E7 ?_
 cases hz1
 exact ⟨Z,u7,(C3 ⟨.of Z,(.of (Ai<|O0 hv3).symm), .of Z, .of Z, .of Z,trivial⟩<|P5 G_hit trivial)⟩
 refine A9<|D9<|B0<|sv Z<|sv Z<|A1<|E7 ?_
 cases hz1
 exact ⟨Z,g2,(C3 (U2 Z)<|D3 (gq Z) trivial)⟩
 refine C5 Z ?_
 cases hz1
 obtain rfl:=ez1 _ rfl
 refine ⟨nofun,C4 Z<|Y5 ?_⟩
 exact ⟨g2,(C3 ⟨.of Z,trivial⟩<|D3 G_hit trivial)⟩
 rintro _ ⟨g1,q1⟩
 refine A5 q1<|B5<|B6 (oS y1 (23,g1)) Z Z (B6 (oS y1 (23,g1)) Z Z (A1<|B1 ?_))
 cases h
 exact A8 (.inr Z) (B4 (B2 Z)<|Ed G_hit) Ec
def U0 [Lp](p1:Map)(v7:List Int)(x1:(Int×Int)):Option (Stp (Int×Int) (Sum Unit Int)):=
  cond (decide (x1.2< (v7.length:Int))) ((D6 v7 x1.2).bind fun v8=>(D6 p1.Lanes x1.1).bind fun v9=>(J3 v9.Next v8).bind fun v10=>cond (!v10) (some (.out (.inr 13))) (some (.go (v8,(I8 (x1.2+1)))))) (some (.out (.inl ())))
def Y8 [Lp](p1:Map)(p2:(List Int)):Option Int:=
  (R9 p1).bind fun v1=>cond (v1 !=0) (some v1) (((cond (!(((p2.length:Int)==0)||(decide ((p2.length:Int)>8)))) (D6 p2 0) (some default))).bind fun v2=>((cond (!((((p2.length:Int)==0)||(decide ((p2.length:Int)>8)))||(decide (v2<0)))) (D6 p2 0) (some default))).bind fun v3=>((cond (!(((((p2.length:Int)==0)||(decide ((p2.length:Int)>8)))||(decide (v2<0)))||(decide (v3≥(p1.Lanes.length:Int))))) (D6 p2 0) (some default))).bind fun v4=>((cond (!(((((p2.length:Int)==0)||(decide ((p2.length:Int)>8)))||(decide (v2<0)))||(decide (v3≥(p1.Lanes.length:Int))))) (Bd p1 v4) (some default))).bind fun v5=>cond ((((((p2.length:Int)==0)||(decide ((p2.length:Int)>8)))||(decide (v2<0)))||(decide (v3≥(p1.Lanes.length:Int))))||(decide ((v5.length:Int)>0))) (some 13) ((D6 p2 0).bind fun v6=>(CD p2 1 (p2.length:Int)).bind fun v7=>thenS (loop (U0 p1 v7) (v6,0)) (fun _=>some 0) (fun r=>some r)))
theorem Oi(p1 p2 r)(h:Y8 p1 p2=some r):PCall prog 36 [(.agg (O1 p1)),(.list (List.map A7 p2))] (i64 r):=by
 refine C0 (fk func36 ntmps36 m0 (by with_unfolding_all rfl)) (nl Z) ?_
 unfold Y8 at h
 refine A5 (s0:=⟨T [(0,(.d _)),(1,(.d _))],G []⟩) (D2 Z Z) ?_
 refine lr<|fun u1 _=>sm Z<|sv Z<|A1<|A2<|B5<|sd Z (B3 Z G_hit Z Z)<|bs h fun _ hv1 h=>B8 Z Z A3 (Bz _ _ hv1) (.inl Z) (sv Z<|A1<|B5<|sv Z<|sv Z<|A1<|cc Z h (fun c1 h=> ?_)<|fun c1 h=> ?_)
 refine B5<|sv Z<|sv Z<|A1<|B1 ?_
 cases h
 exact A8 (.inr Z) (B4 (B2 Z) C2) (.refl _)
 refine A9<|A2<|A2<|J6 Z<|sv Z<|sd Z (C1 Z)<|sv Z<|sv Z<|gf Z (fun _=>Z)<|gf Z (fun w2=>(C1<|A4 w2))<|gf Z (vb Z Z Z)<|sd Z (S9 Z Z<|fun hc=>A4<|L3 hc)<|sv Z<|gf Z (fun _=>Z)<|bs h fun _ hv2 h=>gf Z (fun w5=>(C9 (A4 w5) Z (G0 w5 hv2) Z))<|gf Z (fun w6=>(F5 (A4 w6) (G0 w6 hv2) Z))<|gf Z (vb Z Z Z)<|sd Z (S9 Z Z<|fun hc=>A4<|L3 hc)<|sv Z<|gf Z (fun _=>Z)<|bs h fun _ hv3 h=>gf Z (fun w9=>(C9 (A4 w9) Z (G0 w9 hv3) Z))<|gf Z (fun w10=>(F5 (A4 w10) (G0 w10 hv3) Z))<|gp Z (I9 Z) (fun _=>Z) (gf Z (vl Z G_hit Z)<|gf Z (fun w13=>(C1<|A4 w13))<|gf Z (fun w14=>(T1 (A4 w14) (A4 w14) Z))<|sd Z (S9 Z Z<|fun hc=>A4<|L3 hc)<|sv Z<|gf Z (fun _=>(B3 Z G_hit Z Z))<|gf Z (fun _=>Z)<|bs h fun v4 hv4 h=>gf Z (fun w17=>(C9 (A4 w17) Z (G0 w17 hv4) Z))<|gf Z (fun w18=>(F5 (A4 w18) (G0 w18 hv4) Z))<|bs h fun v5 hv5 h=> ?_)
 refine L4 _ (.list (List.map A7 v5)) (I9 Z) (fun w19=>⟨_,[(.d (.agg (O1 p1))),(di v4)],_,_,(by simp only [A4 w19];rfl),Z,A3,Ht _ _ _<|G0 w19 hv5,(.inl Z)⟩) ?_
 refine gf Z (fun w20=>(C1<|A4 w20))<|gf Z (vb Z Z Z)<|sd Z (S9 Z Z<|fun hc=>A4<|L3 hc)<|A1<|cc Z h (fun c2 h=> ?_)<|fun c2 h=> ?_
 refine A2<|A5 (s0:=⟨T [],G []⟩) (D2 Z Z) ?_
 refine B0<|sv Z<|A1<|B1 ?_
 cases h
 exact A8 (.inr Z) (B4 (B2 Z) C2) (.refl _)
 refine A9<|A2<|A5 (s0:=⟨T [(1,(.d _)),(2,(.ptr _ _))],G [((2,u1),some<|.box 27 _)]⟩) (D2 Z Z) ?_
 refine B0<|sv Z<|bs h fun v6 hv6 h=>sd Z (C9 Z Z hv6 Z)<|sd Z (F5 Z hv6 Z)<|sv Z<|A1<|A2<|B5<|sv Z<|bs h fun v7 hv7 h=>sd Z (GM Z (fun _=>Z) (OS Z) Zz hv7)<|sd Z (C1 Z)<|sv Z<|A1<|js h fun z1 hz1 h=>D5 (fun s=> ∃(y1:Unit) (g1:Unit),z1= .inl y1∧Sb ⟨T [],G []⟩ s) ?_ ?_
 refine A6<|E0 (U0 p1 v7) (fun (x1:(Int×Int)) (g2:Unit)=>⟨T [(2,(.ptr (2,u1) 0)),(6,(di x1.1)),(50,(dl A7 v7)),(51,(di (v7.length:Int))),(52,(di x1.2))],G [((2,u1),some<|.box 27 (I4 p1))]⟩) (v6,0) () _ hz1 (D2 Z Z) ?_
 intro x1 g2 z2 hz2 ez2
 unfold U0 at hz2
 refine B5<|sv Z<|A1<|A2<|cc Z hz2 (fun c3 hz2=> ?_)<|fun c3 hz2=> ?_
 refine A9<|A2<|A6<|B5<|bs hz2 fun _ hv8 hz2=>sd Z (C9 Z Z hv8 Z)<|sd Z (F5 Z hv8 Z)<|sv Z<|A1<|A2<|B5<|sq Z<|sl Z G_hit Z<|sv Z<|bs hz2 fun _ hv9 hz2=>sd Z (C9 Z Z hv9 Z)<|sv Z<|sd Z (F5 Z hv9 Z)<|sv Z<|bs hz2 fun v10 hv10 hz2=>B8 Z Z A3 (T6 _ _ _ hv10) (.inl Z) (B6 (.d (bo (!v10))) Z Z (A1<|cc Z hz2 (fun c4 hz2=> ?_)<|fun c4 hz2=> ?_))
 refine B5<|sv Z<|A1<|B1 ?_
 cases hz2
 obtain rfl:=ez2 _ rfl
 refine ⟨nofun,E4 ?_⟩
 rw [bJ]at h
 cases h
 exact A8 (.inr Z) (B4 (B2 Z) C2) (.refl _)
 refine A9<|B0<|sv Z<|sv Z<|A1<|D9<|B0<|sv Z<|sv Z<|A1<|E7 ?_
 cases hz2
 exact ⟨Z,(),(D2 Z Z)⟩
 refine C5 Z ?_
 cases hz2
 obtain rfl:=ez2 _ rfl
 refine ⟨nofun,C4 Z<|Y5 ?_⟩
 exact ⟨_,(),Z,(D2 Z Z)⟩
 rintro _ ⟨y1,g1,rfl,q1⟩
 rw [bI]at h
 refine A5 q1<|B5<|sv Z<|A1<|B1 ?_
 cases h
 exact A8 (.inr Z) (B4 (B2 Z) C2) (.refl _)
def Ap [Lp](p1:Map)(p2:(List Int))(x1:(Int×RoadsWay)):Option (Stp (Int×RoadsWay) RoadsWay):=
  cond (decide (x1.1< (p2.length:Int))) ((D6 p2 x1.1).bind fun v2=>(U5 x1.2.starts [x1.2.length]).bind fun v3=>(T5 p1 v2).bind fun v4=>some (.go ((I8 (x1.1+1)),(RoadsWay.mk x1.2.Map_ x1.2.lanes v3 (I8 (x1.2.length+v4)))))) (some (.out x1.2))
def Eo [Lp](p1:Map)(p2:(List Int)):Option RoadsWay:=
  (Y8 p1 p2).bind fun v1=>cond (v1 !=0) (some (RoadsWay.mk (Map.mk 0 [] [] [] []) [] [] 0)) ((loop (Ap p1 p2) (0,(RoadsWay.mk p1 p2 [] 0))).bind fun y1=>some y1)
theorem Tw(p1 p2 r)(h:Eo p1 p2=some r):PCall prog 133 [(.agg (O1 p1)),(.list (List.map A7 p2))] (.agg (II r)):=by
 refine C0 (fk func133 ntmps133 (fun r=>if r==7 then [1004]else []) (by with_unfolding_all rfl)) (nl Z) ?_
 unfold Eo at h
 refine A5 (s0:=⟨T [(0,(.d _)),(1,(.d _))],G []⟩) (D2 Z Z) ?_
 refine lr<|fun u1 _=>sm Z<|sm Z<|A1<|A2<|B5<|sd Z (B3 Z (gq Z) Z Z)<|sv Z<|bs h fun _ hv1 h=>B8 Z Z A3 (Oi _ _ _ hv1) (.inl Z) (sv Z<|A1<|cc Z h (fun c1 h=> ?_)<|fun c1 h=> ?_)
 refine B5<|sv Z<|Aj Z G_hit [(di 0),(.d .nilS),(.d .nilS),(.d .nilS),(.d .nilS),(.d .nilS),(.d .nilS),(di 0)] Z (A1<|B1 ?_)
 cases h
 exact A8 (.inr Z) (B4 (H8 Z G_hit (nl Z) Z) C2) (.agg (ca Z<|.cons ⟨DLe.nil,Z⟩ (.cons ⟨DLe.nil,Z⟩ (.cons ⟨DLe.nil,Z⟩ (.cons ⟨DLe.nil,Z⟩ (.cons ⟨DLe.nil,Z⟩ (.cons ⟨DLe.nil,Z⟩ (cz Z))))))))
 refine A9<|lr<|fun u4 _=>sd Z (B3 Z (gq Z) Z Z)<|sv Z<|sv Z<|sm Z<|Aj Z G_hit ((I4 p1)++ [(dl A7 p2),(.d .nilS),(di 0)]) Z (A1<|A2<|B5<|sv Z<|sd Z (C1 Z)<|sv Z<|A1<|bs h fun y1 hy1 h=>D5 (fun s=> ∃g1:Nat,Sb ⟨T [(4,(.ptr (4,u1) 0)),(5,(.ptr (5,u4) 0))],G [((4,u1),some<|.box 169 [(di 0),(.d .nilS),(.d .nilS),(.d .nilS),(.d .nilS),(.d .nilS),(.d .nilS),(di 0)]),((5,u4),some<|.box 169 ((Em y1).set 6 (oS y1.starts (27,g1)))),((27,g1),oB 2 1 A7 y1.starts)]⟩ s) ?_ ?_)
 refine A6<|E0 (Ap p1 p2) (fun (x1:(Int×RoadsWay)) (g2:Nat)=>⟨T [(2,(.ptr (2,u1) 0)),(4,(.ptr (4,u1) 0)),(5,(.ptr (5,u4) 0)),(16,(dl A7 p2)),(17,(di (p2.length:Int))),(18,(di x1.1))],G [((2,u1),some<|.box 27 (I4 p1)),((4,u1),some<|.box 169 [(di 0),(.d .nilS),(.d .nilS),(.d .nilS),(.d .nilS),(.d .nilS),(.d .nilS),(di 0)]),((5,u4),some<|.box 169 ((Em x1.2).set 6 (oS x1.2.starts (27,g2)))),((27,g2),oB 2 1 A7 x1.2.starts)]⟩) (0,(RoadsWay.mk p1 p2 [] 0)) 0 _ hy1 (C3 (U2 Z)<|sg Z<|sg Z<|B7 G_hit (.of Z)<|Y1 trivial) ?_
 intro x1 g2 z1 hz1 ez1
 unfold Ap at hz1
 refine B5<|sv Z<|A1<|A2<|cc Z hz1 (fun c2 hz1=> ?_)<|fun c2 hz1=> ?_
 refine A9<|A2<|A6<|B5<|bs hz1 fun _ hv2 hz1=>sd Z (C9 Z Z hv2 Z)<|sd Z (F5 Z hv2 Z)<|sv Z<|A1<|lr<|fun u8 _=>sq Z<|B6 (oS x1.2.starts (27,g2)) Z (Gf Z (gq Z) Z) (sq Z<|sl Z (gq Z) Z (B6 (dl A7 [x1.2.length]) Z Z (bs hz1 fun _ hv3 hz1=>J2 A7 (27,g2) x1.2.starts x1.2.length [] _ (F4<|fun _=>Z) Z (gq Z) hv3 (sq Z<|Aj Z (gq Z) ((Em x1.2).set 6 (.sl (27,u8))) Z (A1<|A5 (s0:=⟨T [(2,(.ptr _ _)),(4,(.ptr _ _)),(5,(.ptr _ _)),(7,(.d _)),(16,(.d _)),(17,(.d _)),(18,(.d _))],G [((2,u1),some<|.box 27 _),((4,u1),some<|.box 169 _),((5,u4),some<|.box 169 _),((27,u8),some _)]⟩) (D2 Z Z) ?_)))))
 refine J6 Z<|sq Z<|sl Z (gq Z) Z (sd Z (B3 Z G_hit Z Z)<|sv Z<|bs hz1 fun v4 hv4 hz1=>B8 Z Z A3 (Dp _ _ _ hv4) (.inl Z) (sv Z<|sq Z<|Aj Z (gq Z) (((Em x1.2).set 6 (.sl (27,u8))).set 7 (di<|I8 (x1.2.length+v4))) Z (A1<|D9<|B0<|sv Z<|sv Z<|A1<|E7 ?_)))
 cases hz1
 exact ⟨Z,u8,(C3 (U2 Z)<|sg Z<|sg Z<|B7 G_hit (.box (cv<|cv<|cv<|cv<|cv<|cv<|.cons (.of (Ai<|O0 hv3).symm) cw))<|P5 (gq Z) trivial)⟩
 refine C5 Z ?_
 cases hz1
 obtain rfl:=ez1 _ rfl
 refine ⟨nofun,C4 Z<|Y5 ?_⟩
 exact ⟨g2,(C3 (U2 Z)<|sg Z<|sg Z<|D3 (gq Z) trivial)⟩
 rintro _ ⟨g1,q1⟩
 refine A5 q1<|B5<|B6 (Bv ((Em y1).set 6 (oS y1.starts (27,g1)))) Z (B3 Z (gq Z) Z Z) (Cq _ _ _ _ _ (Cr _) Z Z G_hit (nl Z) ((Em y1).set 6 (oS y1.starts (27,g1))) Z (A1<|B1 ?_))
 cases h
 exact A8 (.inr Z) (B4 (H8 Z G_hit (nl Z) Z)<|Iz<|rD<|rD<|rD<|rD<|rD<|rD<|O4 (Ed<|gq Z)<|rD K9) (.agg (ca Z<|ca Z<|ca Z<|ca Z<|ca Z<|ca Z<|.cons ⟨Ec,Z⟩ (cz Z)))
def Jf (p3:Int)(v1:RoadsWay)(x1:Int):Option (Stp Int Int):=
  (D6 v1.starts x1).bind fun v3=>cond (decide (v3>p3)) (some (.go (I8 (x1 - 1)))) (some (.out x1))
def Fr [Lp](p1:Map)(p2:(List Int))(p3:Int):Option (Int×Int×Bool):=
  (Eo p1 p2).bind fun v1=>((cond (!((v1.lanes.length:Int)==0)) (Q7 p3 0 v1.length) (some default))).bind fun v2=>cond (((v1.lanes.length:Int)==0)||(!v2)) (some (0,0,false)) ((loop (Jf p3 v1) (I8 ((v1.lanes.length:Int) - 1))).bind fun y1=>(D6 v1.lanes y1).bind fun v4=>(D6 v1.starts y1).bind fun v5=>some (v4,(I8 (p3 - v5)),true))
theorem Wd(p1 p2 p3 r)(h:Fr p1 p2 p3=some r):PCall prog 34 [(.agg (O1 p1)),(.list (List.map A7 p2)),(i64 p3)] (.tup [(i64 r.1),(i64 r.2.1),(bo r.2.2)]):=by
 refine C0 (fk func34 ntmps34 m0 (by with_unfolding_all rfl)) (nl Z) ?_
 unfold Fr at h
 refine A5 (s0:=⟨T [(0,(.d _)),(1,(.d _)),(2,(.d _))],G []⟩) (D2 Z Z) ?_
 refine B5<|sm Z<|sv Z<|sv Z<|sv Z<|A1<|lr<|fun u2 _=>sd Z (B3 Z G_hit Z Z)<|sv Z<|bs h fun v1 hv1 h=>B8 Z Z A3 (Tw _ _ _ hv1) (.inl Z) (sm Z<|Aj Z G_hit (Em v1) Z (A1<|A2<|B5<|sq Z<|sl Z G_hit Z<|sd Z (C1 Z)<|sv Z<|sv Z<|gf Z (fun _=>Z)<|gp Z (I9 Z) (fun _=>Z) (gf Z (vl Z G_hit Z)<|bs h fun v2 hv2 h=> ?_)))
 refine L4 _ (bo v2) (I9 Z) (fun w4=>⟨_,[(di p3),(di 0),(di v1.length)],_,_,(by simp only [A4 w4];rfl),Z,A3,Q5 _ _ _ _<|G0 w4 hv2,(.inl Z)⟩) ?_
 refine Ck _ (.d (bo (!v2))) Z (I9 Z) (fun w5=>(by simp only [A4 w5];rfl)) ?_
 refine sd Z (S9 Z Z<|fun hc=>A4<|L3 hc)<|A1<|cc Z h (fun c1 h=> ?_)<|fun c1 h=> ?_
 refine A2<|A5 (s0:=⟨T [],G []⟩) (D2 Z Z) ?_
 refine B0<|sv Z<|sv Z<|sv Z<|A1<|B1 ?_
 cases h
 exact A8 (.inr Z) (Tf (B2 Z) (B2 Z) (B2 Z) C2 C2 C2) (.refl _)
 refine A9<|A2<|A5 (s0:=⟨T [(2,(.d _)),(9,(.ptr _ _))],G [((9,u2),some<|.box 169 _)]⟩) (D2 Z Z) ?_
 refine B0<|sq Z<|sl Z G_hit Z<|sd Z (C1 Z)<|sv Z<|sv Z<|A1<|A2<|bs h fun y1 hy1 h=>D5 (fun s=> ∃g1:Unit,Sb ⟨T [(2,(di p3)),(9,(.ptr (9,u2) 0)),(10,(di y1))],G [((9,u2),some<|.box 169 (Em v1))]⟩ s) ?_ ?_
 refine A6<|E0 (Jf p3 v1) (fun (x1:Int) (g2:Unit)=>⟨T [(2,(di p3)),(9,(.ptr (9,u2) 0)),(10,(di x1))],G [((9,u2),some<|.box 169 (Em v1))]⟩) (I8 ((v1.lanes.length:Int) - 1)) () _ hy1 (D2 Z Z) ?_
 intro x1 g2 z1 hz1 ez1
 unfold Jf at hz1
 refine A2<|B5<|sq Z<|sl Z G_hit Z<|sv Z<|bs hz1 fun _ hv3 hz1=>sd Z (C9 Z Z hv3 Z)<|sd Z (F5 Z hv3 Z)<|sv Z<|sv Z<|A1<|cc Z hz1 (fun c2 hz1=> ?_)<|fun c2 hz1=> ?_
 refine A9<|A6<|B0<|sv Z<|sv Z<|sv Z<|A1<|D9<|E7 ?_
 cases hz1
 exact ⟨Z,(),(D2 Z Z)⟩
 refine C5 Z ?_
 cases hz1
 obtain rfl:=ez1 _ rfl
 refine ⟨nofun,C4 Z<|Y5 ?_⟩
 exact ⟨(),(D2 Z Z)⟩
 rintro _ ⟨g1,q1⟩
 refine A5 q1<|A2<|J6 Z<|sq Z<|sl Z G_hit Z<|sv Z<|bs h fun _ hv4 h=>sd Z (C9 Z Z hv4 Z)<|sd Z (F5 Z hv4 Z)<|sv Z<|sq Z<|sl Z G_hit Z<|sv Z<|bs h fun _ hv5 h=>sd Z (C9 Z Z hv5 Z)<|sd Z (F5 Z hv5 Z)<|sv Z<|sv Z<|sv Z<|sv Z<|A1<|B1 ?_
 cases h
 exact A8 (.inr Z) (Tf (B2 Z) (B2 Z) (B2 Z) C2 C2 C2) (.refl _)
def Jg (p1:Part)(p2:Int):Option Bool:=
  some (p1.Lane_==p2)
theorem Ra(p1 p2 r)(h:Jg p1 p2=some r):PCall prog 229 [(.agg (G1 p1)),(.bp [(i64 p2)] 0)] (bo r):=by
 refine C0 (fk func229 ntmps229 m0 (by with_unfolding_all rfl)) (nl Z) ?_
 unfold Jg at h
 refine A5 (s0:=⟨T [(0,(.d _)),(1,(.d _))],G []⟩) (D2 Z Z) ?_
 refine B5<|sm Z<|sv Z<|A1<|B5<|sq Z<|sl Z G_hit Z<|sv Z<|sv Z<|sv Z<|A1<|B1 ?_
 cases h
 exact A8 (.inr Z) (B4 (B2 Z) C2) (.refl _)
def P1 (p1:(List Part))(p2:Int)(x1:Int):Option (Stp Int (Sum Unit Int)):=
  cond (decide (x1< (p1.length:Int))) ((D6 p1 x1).bind fun v1=>(Jg v1 p2).bind fun v2=>cond v2 (some (.out (.inr x1))) (some (.go (I8 (x1+1))))) (some (.out (.inl ())))
def G9 [Lp](p1:(List Part))(p2:Int):Option Int:=
  thenS (loop (P1 p1 p2) 0) (fun _=>some (-1)) (fun r=>some r)
theorem Cj(p1 p2 r)(h:G9 p1 p2=some r):PCall prog 228 [(.list (List.map G1 p1)),(.fn (.func 229) [] [(.bp [(i64 p2)] 0)])] (i64 r):=by
 refine C0 (fk func228 ntmps228 m0 (by with_unfolding_all rfl)) (nl Z) ?_
 unfold G9 at h
 refine A5 (s0:=⟨T [(0,(.d _)),(1,(.d _))],G []⟩) (D2 Z Z) ?_
 refine B5<|sv Z<|A1<|A2<|B5<|sv Z<|sd Z (C1 Z)<|sv Z<|A1<|js h fun z1 hz1 h=>D5 (fun s=> ∃(y1:Unit) (g1:Unit),z1= .inl y1∧Sb ⟨T [],G []⟩ s) ?_ ?_
 refine A6<|E0 (P1 p1 p2) (fun (x1:Int) (g2:Unit)=>⟨T [(0,(dl G1 p1)),(1,(.d (.fn (.func 229) [] [(.bp [(i64 p2)] 0)]))),(7,(di (p1.length:Int))),(8,(di x1))],G []⟩) 0 () _ hz1 (D2 Z Z) ?_
 intro x1 g2 z2 hz2 ez2
 unfold P1 at hz2
 refine B5<|sv Z<|A1<|A2<|cc Z hz2 (fun c1 hz2=> ?_)<|fun c1 hz2=> ?_
 refine A9<|A2<|A6<|B5<|sv Z<|sv Z<|A1<|B5<|sv Z<|sv Z<|sv Z<|bs hz2 fun _ hv1 hz2=>sd Z (C9 Z Z hv1 Z)<|sd Z (B9 Z hv1 Z Z)<|bs hz2 fun _ hv2 hz2=>B8 Z Z A3 (Ra _ _ _ hv2) (.inl Z) (A1<|cc Z hz2 (fun c2 hz2=> ?_)<|fun c2 hz2=> ?_)
 refine B5<|sv Z<|sv Z<|A1<|B1 ?_
 cases hz2
 obtain rfl:=ez2 _ rfl
 refine ⟨nofun,E4 ?_⟩
 rw [bJ]at h
 cases h
 exact A8 (.inr Z) (B4 (B2 Z) C2) (.refl _)
 refine A9<|D9<|B0<|sv Z<|sv Z<|A1<|E7 ?_
 cases hz2
 exact ⟨Z,(),(D2 Z Z)⟩
 refine C5 Z ?_
 cases hz2
 obtain rfl:=ez2 _ rfl
 refine ⟨nofun,C4 Z<|Y5 ?_⟩
 exact ⟨_,(),Z,(D2 Z Z)⟩
 rintro _ ⟨y1,g1,rfl,q1⟩
 rw [bI]at h
 refine A5 q1<|B5<|sv Z<|A1<|B1 ?_
 cases h
 exact A8 (.inr Z) (B4 (B2 Z) C2) (.refl _)
def Ct [Lp](p1:Zone)(p2:Int):Option (Part×Bool):=
  (G9 p1.Parts p2).bind fun v1=>cond (decide (v1<0)) (some ((Part.mk 0 0 0 0),false)) ((D6 p1.Parts v1).bind fun v2=>some (v2,true))
theorem Hf(p1 p2 r)(h:Ct p1 p2=some r):PCall prog 147 [(.agg [(.list (List.map G1 p1.Parts)),(i64 p1.Signal_)]),(i64 p2)] (.tup [(.agg (G1 r.1)),(bo r.2)]):=by
 refine C0 (fk func147 ntmps147 m0 (by with_unfolding_all rfl)) (nl Z) ?_
 unfold Ct at h
 refine A5 (s0:=⟨T [(0,(.d _)),(1,(.d _))],G []⟩) (D2 Z Z) ?_
 refine B5<|sm Z<|sn Z Z<|sm Z<|sv Z<|A1<|B5<|sq Z<|sl Z (gq Z) Z (B6 (.fn _ _ _) Z Z (bs h fun _ hv1 h=>B8 Z (rD<|O4 (Yj K9<|O4 (Ki (gq Z)<|rD K9) K9) K9) A3 (Cj _ _ _ hv1) (.inr Z) (sv Z<|A1<|A2<|B5<|sv Z<|sv Z<|A1<|cc Z h (fun c1 h=> ?_)<|fun c1 h=> ?_)))
 refine B5<|sv Z<|Aj Z G_hit (zs 4) Z (sv Z<|A1<|B1 ?_)
 cases h
 exact A8 (.inr Z) (Te (H8 Z G_hit (nl Z) Z) (B2 Z) C2 C2) (.refl _)
 refine A9<|B5<|sq Z<|sl Z (gq Z) Z (sv Z<|bs h fun v2 hv2 h=>sd Z (C9 Z Z hv2 Z)<|sd Z (B9 Z hv2 Z Z)<|Aj Z G_hit (Nh v2) Z (sv Z<|A1<|B1 ?_))
 cases h
 exact A8 (.inr Z) (Te (H8 Z G_hit (nl Z) Z) (B2 Z) C2 C2) (.refl _)
def Aq [Lp](p1:Map)(p2:Zone)(v2:(List Int))(x1:Int):Option (Stp Int (Sum Unit Bool)):=
  cond (decide (x1< (v2.length:Int))) ((D6 v2 x1).bind fun v3=>(Ct p2 v3).bind fun v4=>((cond (!(!v4.2)) (T5 p1 v3) (some default))).bind fun v5=>cond ((!v4.2)||(v4.1.To !=v5)) (some (.out (.inr false))) (some (.go (I8 (x1+1))))) (some (.out (.inl ())))
def Cu [Lp](p1:Map)(p2:Zone)(p3:Int):Option Bool:=
  (Ct p2 p3).bind fun v1=>cond ((!v1.2)||(v1.1.From !=0)) (some false) ((Bd p1 p3).bind fun v2=>thenS (loop (Aq p1 p2 v2) 0) (fun _=>some true) (fun r=>some r))
theorem Md(p1 p2 p3 r)(h:Cu p1 p2 p3=some r):PCall prog 181 [(.agg (O1 p1)),(.agg [(.list (List.map G1 p2.Parts)),(i64 p2.Signal_)]),(i64 p3)] (bo r):=by
 refine C0 (fk func181 ntmps181 m0 (by with_unfolding_all rfl)) (nl Z) ?_
 unfold Cu at h
 refine A5 (s0:=⟨T [(0,(.d _)),(1,(.d _)),(2,(.d _))],G []⟩) (D2 Z Z) ?_
 refine lr<|fun u1 _=>sm Z<|sm Z<|sv Z<|A1<|B5<|sd Z (B3 Z G_hit Z Z)<|sv Z<|bs h fun v1 hv1 h=>B8 Z Z A3 (Hf _ _ _ hv1) (.inl Z) (sv Z<|sv Z<|sv Z<|sm Z<|Aj Z G_hit (Nh v1.1) Z (sv Z<|A1<|A2<|B5<|sv Z<|B6 (.d (bo (!v1.2))) Z Z (sv Z<|gp Z (I9 Z) (fun _=>Z) (gf Z (vl Z G_hit Z)<|gf Z (vb Z Z Z)<|sd Z (S9 Z Z<|fun hc=>A4<|L3 hc)<|A1<|cc Z h (fun c1 h=> ?_)<|fun c1 h=> ?_))))
 refine A2<|A5 (s0:=⟨T [],G []⟩) (D2 Z Z) ?_
 refine B0<|sv Z<|A1<|B1 ?_
 cases h
 exact A8 (.inr Z) (B4 (B2 Z) C2) (.refl _)
 refine A9<|A2<|A2<|A5 (s0:=⟨T [(2,(.d _)),(3,(.ptr _ _)),(4,(.ptr _ _))],G [((3,u1),some<|.box 27 _),((4,u1),some<|.box 45 _)]⟩) (D2 Z Z) ?_
 refine B0<|sd Z (B3 Z G_hit Z Z)<|sv Z<|bs h fun v2 hv2 h=>B8 Z Z A3 (Ht _ _ _ hv2) (.inl Z) (sd Z (C1 Z)<|sv Z<|A1<|js h fun z1 hz1 h=>D5 (fun s=> ∃(y1:Unit) (g1:Unit),z1= .inl y1∧Sb ⟨T [],G []⟩ s) ?_ ?_)
 refine A6<|E0 (Aq p1 p2 v2) (fun (x1:Int) (g2:Unit)=>⟨T [(3,(.ptr (3,u1) 0)),(4,(.ptr (4,u1) 0)),(28,(dl A7 v2)),(29,(di (v2.length:Int))),(30,(di x1))],G [((3,u1),some<|.box 27 (I4 p1)),((4,u1),some<|.box 45 [(dl G1 p2.Parts),(di p2.Signal_)])]⟩) 0 () _ hz1 (D2 Z Z) ?_
 intro x1 g2 z2 hz2 ez2
 unfold Aq at hz2
 refine B5<|sv Z<|A1<|A2<|cc Z hz2 (fun c2 hz2=> ?_)<|fun c2 hz2=> ?_
 refine A9<|A2<|A6<|B5<|bs hz2 fun v3 hv3 hz2=>sd Z (C9 Z Z hv3 Z)<|sd Z (F5 Z hv3 Z)<|sv Z<|A1<|B5<|sd Z (B3 Z (gq Z) Z Z)<|sv Z<|bs hz2 fun v4 hv4 hz2=>B8 Z Z A3 (Hf _ _ _ hv4) (.inl Z) (sv Z<|sv Z<|sv Z<|sm Z<|Aj Z G_hit (Nh v4.1) Z (sv Z<|A1<|A2<|J6 Z<|sv Z<|B6 (.d (bo (!v4.2))) Z Z (sv Z<|gp Z (I9 Z) (fun _=>Z) (gf Z (vl Z G_hit Z)<|gf Z (fun _=>(B3 Z (gq Z) Z Z))<|gf Z (fun _=>Z)<|bs hz2 fun v5 hv5 hz2=> ?_))))
 refine L4 _ (i64 v5) (I9 Z) (fun w8=>⟨_,[(.d (.agg (O1 p1))),(di v3)],_,_,(by simp only [A4 w8];rfl),Z,A3,Dp _ _ _<|G0 w8 hv5,(.inl Z)⟩) ?_
 refine gf Z (fun w9=>(T1 (A4 w9) (A4 w9) Z))<|sd Z (S9 Z Z<|fun hc=>A4<|L3 hc)<|A1<|cc Z hz2 (fun c3 hz2=> ?_)<|fun c3 hz2=> ?_
 refine A2<|A5 (s0:=⟨T [],G []⟩) (D2 Z Z) ?_
 refine B0<|sv Z<|A1<|B1 ?_
 cases hz2
 obtain rfl:=ez2 _ rfl
 refine ⟨nofun,E4 ?_⟩
 rw [bJ]at h
 cases h
 exact A8 (.inr Z) (B4 (B2 Z) C2) (.refl _)
 refine A9<|D9<|A5 (s0:=⟨T [(3,(.ptr _ _)),(4,(.ptr _ _)),(28,(.d _)),(29,(.d _)),(30,(.d _))],G [((3,u1),some<|.box 27 _),((4,u1),some<|.box 45 _)]⟩) (D2 Z Z) ?_
 refine B0<|sv Z<|sv Z<|A1<|E7 ?_
 cases hz2
 exact ⟨Z,(),(D2 Z Z)⟩
 refine C5 Z ?_
 cases hz2
 obtain rfl:=ez2 _ rfl
 refine ⟨nofun,C4 Z<|Y5 ?_⟩
 exact ⟨_,(),Z,(D2 Z Z)⟩
 rintro _ ⟨y1,g1,rfl,q1⟩
 rw [bI]at h
 refine A5 q1<|B5<|sv Z<|A1<|B1 ?_
 cases h
 exact A8 (.inr Z) (B4 (B2 Z) C2) (.refl _)
def Jh (x1:(Int× (Int×Int×Int×Int×Int×Int×Int×Int×Int×Int×Int×Int)))(v1:Lane)(x2:(Int× (Int×Int×Int×Int×Int×Int×Int×Int×Int×Int×Int×Int))):Option (Stp (Int× (Int×Int×Int×Int×Int×Int×Int×Int×Int×Int×Int×Int)) (Int×Int×Int×Int×Int×Int×Int×Int×Int×Int×Int×Int)):=
  cond (decide (x2.1< (v1.Next.length:Int))) ((D6 v1.Next x2.1).bind fun v2=>(D6 ([x2.2.1,x2.2.2.1,x2.2.2.2.1,x2.2.2.2.2.1,x2.2.2.2.2.2.1,x2.2.2.2.2.2.2.1,x2.2.2.2.2.2.2.2.1,x2.2.2.2.2.2.2.2.2.1,x2.2.2.2.2.2.2.2.2.2.1,x2.2.2.2.2.2.2.2.2.2.2.1,x2.2.2.2.2.2.2.2.2.2.2.2.1,x2.2.2.2.2.2.2.2.2.2.2.2.2]:List Int) x1.1).bind fun v3=>(D6 ([x2.2.1,x2.2.2.1,x2.2.2.2.1,x2.2.2.2.2.1,x2.2.2.2.2.2.1,x2.2.2.2.2.2.2.1,x2.2.2.2.2.2.2.2.1,x2.2.2.2.2.2.2.2.2.1,x2.2.2.2.2.2.2.2.2.2.1,x2.2.2.2.2.2.2.2.2.2.2.1,x2.2.2.2.2.2.2.2.2.2.2.2.1,x2.2.2.2.2.2.2.2.2.2.2.2.2]:List Int) v2).bind fun v4=>(RW .u32 1 (IntKind.wrap .u64 v2)).bind fun v5=>(D6 ([x2.2.1,x2.2.2.1,x2.2.2.2.1,x2.2.2.2.2.1,x2.2.2.2.2.2.1,x2.2.2.2.2.2.2.1,x2.2.2.2.2.2.2.2.1,x2.2.2.2.2.2.2.2.2.1,x2.2.2.2.2.2.2.2.2.2.1,x2.2.2.2.2.2.2.2.2.2.2.1,x2.2.2.2.2.2.2.2.2.2.2.2.1,x2.2.2.2.2.2.2.2.2.2.2.2.2]:List Int) x1.1).bind fun v6=>(LU ([x2.2.1,x2.2.2.1,x2.2.2.2.1,x2.2.2.2.2.1,x2.2.2.2.2.2.1,x2.2.2.2.2.2.2.1,x2.2.2.2.2.2.2.2.1,x2.2.2.2.2.2.2.2.2.1,x2.2.2.2.2.2.2.2.2.2.1,x2.2.2.2.2.2.2.2.2.2.2.1,x2.2.2.2.2.2.2.2.2.2.2.2.1,x2.2.2.2.2.2.2.2.2.2.2.2.2]:List Int) x1.1 (IntKind.wrap .u32 (((BitVec.ofInt (IntKind.bits .u32) v3|||(BitVec.ofInt (IntKind.bits .u32) (IntKind.wrap .u32 (((BitVec.ofInt (IntKind.bits .u32) v4|||(BitVec.ofInt (IntKind.bits .u32) v5)).toNat:Nat))))).toNat:Nat)))).bind fun v7=>some (.go ((I8 (x2.1+1)),((v7.getD 0 0),(v7.getD 1 0),(v7.getD 2 0),(v7.getD 3 0),(v7.getD 4 0),(v7.getD 5 0),(v7.getD 6 0),(v7.getD 7 0),(v7.getD 8 0),(v7.getD 9 0),(v7.getD 10 0),(v7.getD 11 0))))) (some (.out x2.2))
def Cb [Lp](p1:Map)(x1:(Int× (Int×Int×Int×Int×Int×Int×Int×Int×Int×Int×Int×Int))):Option (Stp (Int× (Int×Int×Int×Int×Int×Int×Int×Int×Int×Int×Int×Int)) (Int×Int×Int×Int×Int×Int×Int×Int×Int×Int×Int×Int)):=
  cond (decide (x1.1≥0)) ((D6 p1.Lanes x1.1).bind fun v1=>(loop (Jh x1 v1) (0,x1.2)).bind fun y2=>some (.go ((I8 (x1.1 - 1)),y2))) (some (.out x1.2))
def Fs [Lp](p1:Map):Option (Int×Int×Int×Int×Int×Int×Int×Int×Int×Int×Int×Int):=
  (loop (Cb p1) ((I8 ((p1.Lanes.length:Int) - 1)),(0,0,0,0,0,0,0,0,0,0,0,0))).bind fun y1=>some y1
theorem We(p1 r)(h:Fs p1=some r):PCall prog 244 [(.agg (O1 p1))] (.agg [(.v (.int .u32 r.1)),(.v (.int .u32 r.2.1)),(.v (.int .u32 r.2.2.1)),(.v (.int .u32 r.2.2.2.1)),(.v (.int .u32 r.2.2.2.2.1)),(.v (.int .u32 r.2.2.2.2.2.1)),(.v (.int .u32 r.2.2.2.2.2.2.1)),(.v (.int .u32 r.2.2.2.2.2.2.2.1)),(.v (.int .u32 r.2.2.2.2.2.2.2.2.1)),(.v (.int .u32 r.2.2.2.2.2.2.2.2.2.1)),(.v (.int .u32 r.2.2.2.2.2.2.2.2.2.2.1)),(.v (.int .u32 r.2.2.2.2.2.2.2.2.2.2.2))]):=by
 refine C0 (fk func244 ntmps244 m0 (by with_unfolding_all rfl)) (nl Z) ?_
 unfold Fs at h
 refine A5 (s0:=⟨T [(0,(.d _))],G []⟩) (D2 Z Z) ?_
 refine lr<|fun u1 _=>sm Z<|sm Z<|A1<|lr<|fun u2 _=>sm Z<|A1<|A2<|B5<|sq Z<|sl Z (gq Z) Z (sd Z (C1 Z)<|sv Z<|sv Z<|A1<|bs h fun y1 hy1 h=>D5 (fun s=> ∃g1:Unit,Sb ⟨T [(2,(.ptr (2,u1) 0)),(3,(.ptr (3,u2) 0))],G [((2,u1),some<|.box 267 [(.d (.v (.int .u32 0))),(.d (.v (.int .u32 0))),(.d (.v (.int .u32 0))),(.d (.v (.int .u32 0))),(.d (.v (.int .u32 0))),(.d (.v (.int .u32 0))),(.d (.v (.int .u32 0))),(.d (.v (.int .u32 0))),(.d (.v (.int .u32 0))),(.d (.v (.int .u32 0))),(.d (.v (.int .u32 0))),(.d (.v (.int .u32 0)))]),((3,u2),some<|.box 267 [(.d (.v (.int .u32 y1.1))),(.d (.v (.int .u32 y1.2.1))),(.d (.v (.int .u32 y1.2.2.1))),(.d (.v (.int .u32 y1.2.2.2.1))),(.d (.v (.int .u32 y1.2.2.2.2.1))),(.d (.v (.int .u32 y1.2.2.2.2.2.1))),(.d (.v (.int .u32 y1.2.2.2.2.2.2.1))),(.d (.v (.int .u32 y1.2.2.2.2.2.2.2.1))),(.d (.v (.int .u32 y1.2.2.2.2.2.2.2.2.1))),(.d (.v (.int .u32 y1.2.2.2.2.2.2.2.2.2.1))),(.d (.v (.int .u32 y1.2.2.2.2.2.2.2.2.2.2.1))),(.d (.v (.int .u32 y1.2.2.2.2.2.2.2.2.2.2.2)))])]⟩ s) ?_ ?_)
 refine A6<|E0 (Cb p1) (fun (x1:(Int× (Int×Int×Int×Int×Int×Int×Int×Int×Int×Int×Int×Int))) (g2:Unit)=>⟨T [(1,(.ptr (1,u1) 0)),(2,(.ptr (2,u1) 0)),(3,(.ptr (3,u2) 0)),(4,(di x1.1))],G [((1,u1),some<|.box 27 (I4 p1)),((2,u1),some<|.box 267 [(.d (.v (.int .u32 0))),(.d (.v (.int .u32 0))),(.d (.v (.int .u32 0))),(.d (.v (.int .u32 0))),(.d (.v (.int .u32 0))),(.d (.v (.int .u32 0))),(.d (.v (.int .u32 0))),(.d (.v (.int .u32 0))),(.d (.v (.int .u32 0))),(.d (.v (.int .u32 0))),(.d (.v (.int .u32 0))),(.d (.v (.int .u32 0)))]),((3,u2),some<|.box 267 [(.d (.v (.int .u32 x1.2.1))),(.d (.v (.int .u32 x1.2.2.1))),(.d (.v (.int .u32 x1.2.2.2.1))),(.d (.v (.int .u32 x1.2.2.2.2.1))),(.d (.v (.int .u32 x1.2.2.2.2.2.1))),(.d (.v (.int .u32 x1.2.2.2.2.2.2.1))),(.d (.v (.int .u32 x1.2.2.2.2.2.2.2.1))),(.d (.v (.int .u32 x1.2.2.2.2.2.2.2.2.1))),(.d (.v (.int .u32 x1.2.2.2.2.2.2.2.2.2.1))),(.d (.v (.int .u32 x1.2.2.2.2.2.2.2.2.2.2.1))),(.d (.v (.int .u32 x1.2.2.2.2.2.2.2.2.2.2.2.1))),(.d (.v (.int .u32 x1.2.2.2.2.2.2.2.2.2.2.2.2)))])]⟩) ((I8 ((p1.Lanes.length:Int) - 1)),(0,0,0,0,0,0,0,0,0,0,0,0)) () _ hy1 (D2 Z Z) ?_
 intro x1 g2 z1 hz1 ez1
 unfold Cb at hz1
 refine A2<|B5<|sv Z<|sv Z<|A1<|cc Z hz1 (fun c1 hz1=> ?_)<|fun c1 hz1=> ?_
 refine A9<|A2<|A6<|B5<|sq Z<|sl Z G_hit Z<|sv Z<|bs hz1 fun v1 hv1 hz1=>sd Z (C9 Z Z hv1 Z)<|sv Z<|sd Z (F5 Z hv1 Z)<|sd Z (C1 Z)<|sv Z<|A1<|bs hz1 fun y2 hy2 hz1=>D5 (fun s=> ∃g3:Unit,Sb ⟨T [(1,(.ptr (1,u1) 0)),(2,(.ptr (2,u1) 0)),(3,(.ptr (3,u2) 0)),(4,(di x1.1))],G [((1,u1),some<|.box 27 (I4 p1)),((2,u1),some<|.box 267 [(.d (.v (.int .u32 0))),(.d (.v (.int .u32 0))),(.d (.v (.int .u32 0))),(.d (.v (.int .u32 0))),(.d (.v (.int .u32 0))),(.d (.v (.int .u32 0))),(.d (.v (.int .u32 0))),(.d (.v (.int .u32 0))),(.d (.v (.int .u32 0))),(.d (.v (.int .u32 0))),(.d (.v (.int .u32 0))),(.d (.v (.int .u32 0)))]),((3,u2),some<|.box 267 [(.d (.v (.int .u32 y2.1))),(.d (.v (.int .u32 y2.2.1))),(.d (.v (.int .u32 y2.2.2.1))),(.d (.v (.int .u32 y2.2.2.2.1))),(.d (.v (.int .u32 y2.2.2.2.2.1))),(.d (.v (.int .u32 y2.2.2.2.2.2.1))),(.d (.v (.int .u32 y2.2.2.2.2.2.2.1))),(.d (.v (.int .u32 y2.2.2.2.2.2.2.2.1))),(.d (.v (.int .u32 y2.2.2.2.2.2.2.2.2.1))),(.d (.v (.int .u32 y2.2.2.2.2.2.2.2.2.2.1))),(.d (.v (.int .u32 y2.2.2.2.2.2.2.2.2.2.2.1))),(.d (.v (.int .u32 y2.2.2.2.2.2.2.2.2.2.2.2)))])]⟩ s) ?_ ?_
 refine A6<|E0 (Jh x1 v1) (fun (x2:(Int× (Int×Int×Int×Int×Int×Int×Int×Int×Int×Int×Int×Int))) (g4:Unit)=>⟨T [(1,(.ptr (1,u1) 0)),(2,(.ptr (2,u1) 0)),(3,(.ptr (3,u2) 0)),(4,(di x1.1)),(20,(dl A7 v1.Next)),(21,(di (v1.Next.length:Int))),(22,(di x2.1))],G [((1,u1),some<|.box 27 (I4 p1)),((2,u1),some<|.box 267 [(.d (.v (.int .u32 0))),(.d (.v (.int .u32 0))),(.d (.v (.int .u32 0))),(.d (.v (.int .u32 0))),(.d (.v (.int .u32 0))),(.d (.v (.int .u32 0))),(.d (.v (.int .u32 0))),(.d (.v (.int .u32 0))),(.d (.v (.int .u32 0))),(.d (.v (.int .u32 0))),(.d (.v (.int .u32 0))),(.d (.v (.int .u32 0)))]),((3,u2),some<|.box 267 [(.d (.v (.int .u32 x2.2.1))),(.d (.v (.int .u32 x2.2.2.1))),(.d (.v (.int .u32 x2.2.2.2.1))),(.d (.v (.int .u32 x2.2.2.2.2.1))),(.d (.v (.int .u32 x2.2.2.2.2.2.1))),(.d (.v (.int .u32 x2.2.2.2.2.2.2.1))),(.d (.v (.int .u32 x2.2.2.2.2.2.2.2.1))),(.d (.v (.int .u32 x2.2.2.2.2.2.2.2.2.1))),(.d (.v (.int .u32 x2.2.2.2.2.2.2.2.2.2.1))),(.d (.v (.int .u32 x2.2.2.2.2.2.2.2.2.2.2.1))),(.d (.v (.int .u32 x2.2.2.2.2.2.2.2.2.2.2.2.1))),(.d (.v (.int .u32 x2.2.2.2.2.2.2.2.2.2.2.2.2)))])]⟩) (0,x1.2) () _ hy2 (D2 Z Z) ?_
 intro x2 g4 z2 hz2 ez2
 unfold Jh at hz2
 refine B5<|sv Z<|A1<|A2<|cc Z hz2 (fun c2 hz2=> ?_)<|fun c2 hz2=> ?_
 refine A9<|A2<|A6<|B5<|bs hz2 fun _ hv2 hz2=>sd Z (C9 Z Z hv2 Z)<|sd Z (F5 Z hv2 Z)<|sv Z<|A1<|J6 Z<|sv Z<|bs hz2 fun _ hv3 hz2=>sp Z (Qx Z Z hv3 Z)<|sd Z (Wc (f:=fun x=>(.v (.int .u32 x))) Z (gq Z) hv3 Z)<|sv Z<|bs hz2 fun _ hv4 hz2=>sp Z (Qx Z Z hv4 Z)<|sd Z (Wc (f:=fun x=>(.v (.int .u32 x))) Z (gq Z) hv4 Z)<|sv Z<|sv Z<|bs hz2 fun _ hv5 hz2=>sd Z (TG Z Z hv5)<|sv Z<|sv Z<|bs hz2 fun _ hv6 hz2=>sp Z (Qx Z Z hv6 Z)<|bs hz2 fun v7 hv7 hz2=>Cq _ _ _ _ _ Z Z Z (gq Z) (TF (xs:=([x2.2.1,x2.2.2.1,x2.2.2.2.1,x2.2.2.2.2.1,x2.2.2.2.2.2.1,x2.2.2.2.2.2.2.1,x2.2.2.2.2.2.2.2.1,x2.2.2.2.2.2.2.2.2.1,x2.2.2.2.2.2.2.2.2.2.1,x2.2.2.2.2.2.2.2.2.2.2.1,x2.2.2.2.2.2.2.2.2.2.2.2.1,x2.2.2.2.2.2.2.2.2.2.2.2.2]:List Int)) hv7 Z) [(.d (.v (.int .u32 (v7.getD 0 0)))),(.d (.v (.int .u32 (v7.getD 1 0)))),(.d (.v (.int .u32 (v7.getD 2 0)))),(.d (.v (.int .u32 (v7.getD 3 0)))),(.d (.v (.int .u32 (v7.getD 4 0)))),(.d (.v (.int .u32 (v7.getD 5 0)))),(.d (.v (.int .u32 (v7.getD 6 0)))),(.d (.v (.int .u32 (v7.getD 7 0)))),(.d (.v (.int .u32 (v7.getD 8 0)))),(.d (.v (.int .u32 (v7.getD 9 0)))),(.d (.v (.int .u32 (v7.getD 10 0)))),(.d (.v (.int .u32 (v7.getD 11 0))))] (RU (fun x=>(.v (.int .u32 x))) 0 hv7) (A1<|D9<|A5 (s0:=⟨T [(1,(.ptr _ _)),(2,(.ptr _ _)),(3,(.ptr _ _)),(4,(.d _)),(20,(.d _)),(21,(.d _)),(22,(.d _))],G [((1,u1),some<|.box 27 _),((2,u1),some<|.box 267 _),((3,u2),some<|.box 267 _)]⟩) (D2 Z Z) ?_)
 refine B0<|sv Z<|sv Z<|A1<|E7 ?_
 cases hz2
 exact ⟨Z,(),(D2 Z Z)⟩
 refine C5 Z ?_
 cases hz2
 obtain rfl:=ez2 _ rfl
 refine ⟨nofun,C4 Z<|Y5 ?_⟩
 exact ⟨(),(D2 Z Z)⟩
 rintro _ ⟨g3,q1⟩
 refine D9<|A5 q1<|B0<|sv Z<|sv Z<|sv Z<|A1<|E7 ?_
 cases hz1
 exact ⟨Z,(),(D2 Z Z)⟩
 refine C5 Z ?_
 cases hz1
 obtain rfl:=ez1 _ rfl
 refine ⟨nofun,C4 Z<|Y5 ?_⟩
 exact ⟨(),(D2 Z Z)⟩
 rintro _ ⟨g1,q2⟩
 refine A5 q2<|B5<|sd Z (B3 Z (gq Z) Z Z)<|Aj Z G_hit [(.d (.v (.int .u32 y1.1))),(.d (.v (.int .u32 y1.2.1))),(.d (.v (.int .u32 y1.2.2.1))),(.d (.v (.int .u32 y1.2.2.2.1))),(.d (.v (.int .u32 y1.2.2.2.2.1))),(.d (.v (.int .u32 y1.2.2.2.2.2.1))),(.d (.v (.int .u32 y1.2.2.2.2.2.2.1))),(.d (.v (.int .u32 y1.2.2.2.2.2.2.2.1))),(.d (.v (.int .u32 y1.2.2.2.2.2.2.2.2.1))),(.d (.v (.int .u32 y1.2.2.2.2.2.2.2.2.2.1))),(.d (.v (.int .u32 y1.2.2.2.2.2.2.2.2.2.2.1))),(.d (.v (.int .u32 y1.2.2.2.2.2.2.2.2.2.2.2)))] Z (A1<|B1 ?_)
 cases h
 exact A8 (.inr Z) (B4 (H8 Z G_hit (nl Z) Z) C2) (.refl _)
def Kl (p1:Int)(p2:Int):Option Bool:=
  (RX .u32 p1 (IntKind.wrap .u64 p2)).bind fun v1=>some ((IntKind.wrap .u32 (((BitVec.ofInt (IntKind.bits .u32) v1&&&(BitVec.ofInt (IntKind.bits .u32) 1)).toNat:Nat)))==1)
theorem Sg(p1 p2 r)(h:Kl p1 p2=some r):PCall prog 247 [(.v (.int .u32 p1)),(i64 p2)] (bo r):=by
 refine C0 (fk func247 ntmps247 m0 (by with_unfolding_all rfl)) (nl Z) ?_
 unfold Kl at h
 refine A5 (s0:=⟨T [(0,(.d _)),(1,(.d _))],G []⟩) (D2 Z Z) ?_
 refine B5<|sv Z<|A1<|B5<|sv Z<|sv Z<|sv Z<|bs h fun _ hv1 h=>sd Z (TH Z Z hv1)<|sv Z<|sv Z<|sv Z<|A1<|B1 ?_
 cases h
 exact A8 (.inr Z) (B4 (B2 Z) C2) (.refl _)
def Gl (p1:Part)(p2:(Int×Int×Int×Int×Int×Int×Int×Int×Int×Int×Int×Int))(p3:Int):Option Bool:=
  (D6 ([p2.1,p2.2.1,p2.2.2.1,p2.2.2.2.1,p2.2.2.2.2.1,p2.2.2.2.2.2.1,p2.2.2.2.2.2.2.1,p2.2.2.2.2.2.2.2.1,p2.2.2.2.2.2.2.2.2.1,p2.2.2.2.2.2.2.2.2.2.1,p2.2.2.2.2.2.2.2.2.2.2.1,p2.2.2.2.2.2.2.2.2.2.2.2]:List Int) p1.Lane_).bind fun v1=>(Kl v1 p3).bind fun v2=>some v2
theorem Nn(p1 p2 p3 r)(h:Gl p1 p2 p3=some r):MCall prog 246 [(.d (.agg (G1 p1))),(.ptr (900000,0) 0),(.ptr (900001,0) 0)] [(.box 267 [(.d (.v (.int .u32 p2.1))),(.d (.v (.int .u32 p2.2.1))),(.d (.v (.int .u32 p2.2.2.1))),(.d (.v (.int .u32 p2.2.2.2.1))),(.d (.v (.int .u32 p2.2.2.2.2.1))),(.d (.v (.int .u32 p2.2.2.2.2.2.1))),(.d (.v (.int .u32 p2.2.2.2.2.2.2.1))),(.d (.v (.int .u32 p2.2.2.2.2.2.2.2.1))),(.d (.v (.int .u32 p2.2.2.2.2.2.2.2.2.1))),(.d (.v (.int .u32 p2.2.2.2.2.2.2.2.2.2.1))),(.d (.v (.int .u32 p2.2.2.2.2.2.2.2.2.2.2.1))),(.d (.v (.int .u32 p2.2.2.2.2.2.2.2.2.2.2.2)))]),(.box 3 [(di p3)])] (.d (bo r)) [some (.box 267 [(.d (.v (.int .u32 p2.1))),(.d (.v (.int .u32 p2.2.1))),(.d (.v (.int .u32 p2.2.2.1))),(.d (.v (.int .u32 p2.2.2.2.1))),(.d (.v (.int .u32 p2.2.2.2.2.1))),(.d (.v (.int .u32 p2.2.2.2.2.2.1))),(.d (.v (.int .u32 p2.2.2.2.2.2.2.1))),(.d (.v (.int .u32 p2.2.2.2.2.2.2.2.1))),(.d (.v (.int .u32 p2.2.2.2.2.2.2.2.2.1))),(.d (.v (.int .u32 p2.2.2.2.2.2.2.2.2.2.1))),(.d (.v (.int .u32 p2.2.2.2.2.2.2.2.2.2.2.1))),(.d (.v (.int .u32 p2.2.2.2.2.2.2.2.2.2.2.2)))]),some (.box 3 [(di p3)])] []:=by
 refine Un (fk func246 ntmps246 m0 (by with_unfolding_all rfl)) Z (nl Z) ?_
 unfold Gl at h
 refine A5 (s0:=⟨T [(0,(.d _)),(1,(.ptr _ _)),(2,(.ptr _ _))],G [((900000,0),some<|.box 267 _),((900001,0),some<|.box 3 _)]⟩) (D2 Z Z) ?_
 refine B5<|sm Z<|sv Z<|A1<|A2<|J6 Z<|sq Z<|sl Z G_hit Z<|bs h fun _ hv1 h=>sp Z (Qx Z Z hv1 Z)<|sd Z (Wc (f:=fun x=>(.v (.int .u32 x))) Z (gq Z) hv1 Z)<|sl Z (gq Z) Z (bs h fun _ hv2 h=>B8 Z Z A3 (Sg _ _ _ hv2) (.inl Z) (sv Z<|A1<|B1 ?_))
 obtain rfl:=(lC h)
 exact Vy (.inr Z) [] (Vz (B2 Z) C2) (.refl _) ⟨⟨_,_,_,(gq Z),W1,Z,Ll,Z⟩,⟨_,_,_,(gq Z),W1,Z,Ll,Z⟩,trivial⟩
def N9 (p1:(List Part))(p2:(Int×Int×Int×Int×Int×Int×Int×Int×Int×Int×Int×Int))(p3:Int)(x1:Int):Option (Stp Int (Sum Unit Int)):=
  cond (decide (x1< (p1.length:Int))) ((D6 p1 x1).bind fun v1=>(Gl v1 p2 p3).bind fun v2=>cond v2 (some (.out (.inr x1))) (some (.go (I8 (x1+1))))) (some (.out (.inl ())))
def G6 [Lp](p1:(List Part))(p2:(Int×Int×Int×Int×Int×Int×Int×Int×Int×Int×Int×Int))(p3:Int):Option Int:=
  thenS (loop (N9 p1 p2 p3) 0) (fun _=>some (-1)) (fun r=>some r)
theorem Bt(p1 p2 p3 r)(h:G6 p1 p2 p3=some r):MCall prog 228 [(dl G1 p1),(.fn (.func 246) [] [(.ptr (900000,0) 0),(.ptr (900001,0) 0)])] [(.box 267 [(.d (.v (.int .u32 p2.1))),(.d (.v (.int .u32 p2.2.1))),(.d (.v (.int .u32 p2.2.2.1))),(.d (.v (.int .u32 p2.2.2.2.1))),(.d (.v (.int .u32 p2.2.2.2.2.1))),(.d (.v (.int .u32 p2.2.2.2.2.2.1))),(.d (.v (.int .u32 p2.2.2.2.2.2.2.1))),(.d (.v (.int .u32 p2.2.2.2.2.2.2.2.1))),(.d (.v (.int .u32 p2.2.2.2.2.2.2.2.2.1))),(.d (.v (.int .u32 p2.2.2.2.2.2.2.2.2.2.1))),(.d (.v (.int .u32 p2.2.2.2.2.2.2.2.2.2.2.1))),(.d (.v (.int .u32 p2.2.2.2.2.2.2.2.2.2.2.2)))]),(.box 3 [(di p3)])] (di r) [some (.box 267 [(.d (.v (.int .u32 p2.1))),(.d (.v (.int .u32 p2.2.1))),(.d (.v (.int .u32 p2.2.2.1))),(.d (.v (.int .u32 p2.2.2.2.1))),(.d (.v (.int .u32 p2.2.2.2.2.1))),(.d (.v (.int .u32 p2.2.2.2.2.2.1))),(.d (.v (.int .u32 p2.2.2.2.2.2.2.1))),(.d (.v (.int .u32 p2.2.2.2.2.2.2.2.1))),(.d (.v (.int .u32 p2.2.2.2.2.2.2.2.2.1))),(.d (.v (.int .u32 p2.2.2.2.2.2.2.2.2.2.1))),(.d (.v (.int .u32 p2.2.2.2.2.2.2.2.2.2.2.1))),(.d (.v (.int .u32 p2.2.2.2.2.2.2.2.2.2.2.2)))]),some (.box 3 [(di p3)])] []:=by
 refine Un (fk func228 ntmps228 (fun r=>if r==4 then [1004005]else []) (by with_unfolding_all rfl)) Z (nl Z) ?_
 unfold G6 at h
 refine A5 (s0:=⟨T [(0,(.d _)),(1,(.fn _ _ _))],G [((900000,0),some<|.box 267 _),((900001,0),some<|.box 3 _)]⟩) (D2 Z Z) ?_
 refine B5<|sv Z<|A1<|A2<|B5<|sv Z<|sd Z (C1 Z)<|sv Z<|A1<|js h fun z1 hz1 h=>D5 (fun s=> ∃(y1:Unit) (g1:Unit),z1= .inl y1∧Sb ⟨T [(1,(.fn (.func 246) [] [(.ptr (900000,0) 0),(.ptr (900001,0) 0)]))],G [((900000,0),some<|.box 267 [(.d (.v (.int .u32 p2.1))),(.d (.v (.int .u32 p2.2.1))),(.d (.v (.int .u32 p2.2.2.1))),(.d (.v (.int .u32 p2.2.2.2.1))),(.d (.v (.int .u32 p2.2.2.2.2.1))),(.d (.v (.int .u32 p2.2.2.2.2.2.1))),(.d (.v (.int .u32 p2.2.2.2.2.2.2.1))),(.d (.v (.int .u32 p2.2.2.2.2.2.2.2.1))),(.d (.v (.int .u32 p2.2.2.2.2.2.2.2.2.1))),(.d (.v (.int .u32 p2.2.2.2.2.2.2.2.2.2.1))),(.d (.v (.int .u32 p2.2.2.2.2.2.2.2.2.2.2.1))),(.d (.v (.int .u32 p2.2.2.2.2.2.2.2.2.2.2.2)))]),((900001,0),some<|.box 3 [(di p3)])]⟩ s) ?_ ?_
 refine A6<|E0 (N9 p1 p2 p3) (fun (x1:Int) (g2:Unit)=>⟨T [(0,(dl G1 p1)),(1,(.fn (.func 246) [] [(.ptr (900000,0) 0),(.ptr (900001,0) 0)])),(7,(di (p1.length:Int))),(8,(di x1))],G [((900000,0),some<|.box 267 [(.d (.v (.int .u32 p2.1))),(.d (.v (.int .u32 p2.2.1))),(.d (.v (.int .u32 p2.2.2.1))),(.d (.v (.int .u32 p2.2.2.2.1))),(.d (.v (.int .u32 p2.2.2.2.2.1))),(.d (.v (.int .u32 p2.2.2.2.2.2.1))),(.d (.v (.int .u32 p2.2.2.2.2.2.2.1))),(.d (.v (.int .u32 p2.2.2.2.2.2.2.2.1))),(.d (.v (.int .u32 p2.2.2.2.2.2.2.2.2.1))),(.d (.v (.int .u32 p2.2.2.2.2.2.2.2.2.2.1))),(.d (.v (.int .u32 p2.2.2.2.2.2.2.2.2.2.2.1))),(.d (.v (.int .u32 p2.2.2.2.2.2.2.2.2.2.2.2)))]),((900001,0),some<|.box 3 [(di p3)])]⟩) 0 () _ hz1 (D2 Z Z) ?_
 intro x1 g2 z2 hz2 ez2
 unfold N9 at hz2
 refine B5<|sv Z<|A1<|A2<|cc Z hz2 (fun c1 hz2=> ?_)<|fun c1 hz2=> ?_
 refine A9<|A2<|A6<|B5<|sv Z<|sv Z<|A1<|B5<|B6 (.fn _ _ _) Z Z (sv Z<|sv Z<|bs hz2 fun _ hv1 hz2=>sd Z (C9 Z Z hv1 Z)<|sd Z (B9 Z hv1 Z Z)<|bs hz2 fun v2 hv2 hz2=>IA (v:= .d (bo v2)) (us:= [(900000,0),(900001,0)]) (FF (Nn _ _ _ _ hv2) [(900000,0),(900001,0)] [(900000,0),(900001,0)] _ (((900001,0),some<|.box 3 [(di p3)])::(((900000,0),some<|.box 267 [(.d (.v (.int .u32 p2.1))),(.d (.v (.int .u32 p2.2.1))),(.d (.v (.int .u32 p2.2.2.1))),(.d (.v (.int .u32 p2.2.2.2.1))),(.d (.v (.int .u32 p2.2.2.2.2.1))),(.d (.v (.int .u32 p2.2.2.2.2.2.1))),(.d (.v (.int .u32 p2.2.2.2.2.2.2.1))),(.d (.v (.int .u32 p2.2.2.2.2.2.2.2.1))),(.d (.v (.int .u32 p2.2.2.2.2.2.2.2.2.1))),(.d (.v (.int .u32 p2.2.2.2.2.2.2.2.2.2.1))),(.d (.v (.int .u32 p2.2.2.2.2.2.2.2.2.2.2.1))),(.d (.v (.int .u32 p2.2.2.2.2.2.2.2.2.2.2.2)))])::_)) Z Lk (Cs LO<|Cs (Pp G_hit Z)<|Cs (Pp (N6 Z G_hit) Z) Pq) (Gv G_hit<|Gv (N6 Z G_hit) Jc) ⟨⟨_,G_hit, .of Z⟩,⟨_,(N6 Z G_hit), .of Z⟩,trivial⟩ (fun _ h=>h) (RO<|FG Z) Z Z Z) (A1<|cc Z hz2 (fun c2 hz2=> ?_)<|fun c2 hz2=> ?_))
 refine B5<|sv Z<|sv Z<|A1<|B1 ?_
 cases hz2
 obtain rfl:=ez2 _ rfl
 refine ⟨nofun,E4 ?_⟩
 rw [bJ]at h
 cases h
 exact Vy (.inr Z) [] (Vz (B2 Z) C2) (.refl _) ⟨⟨_,_,_,(gq Z),W1,Z,Ll,Z⟩,⟨_,_,_,G_hit,W1,Z,Ll,Z⟩,trivial⟩
 refine A9<|D9<|B0<|sv Z<|sv Z<|A1<|E7 ?_
 cases hz2
 exact ⟨Z,(),(D2 Z Z)⟩
 refine C5 Z ?_
 cases hz2
 obtain rfl:=ez2 _ rfl
 refine ⟨nofun,C4 Z<|Y5 ?_⟩
 exact ⟨_,(),Z,(D2 Z Z)⟩
 rintro _ ⟨y1,g1,rfl,q1⟩
 rw [bI]at h
 refine A5 q1<|B5<|sv Z<|A1<|B1 ?_
 cases h
 exact Vy (.inr Z) [] (Vz (B2 Z) C2) (.refl _) ⟨⟨_,_,_,G_hit,W1,Z,Ll,Z⟩,⟨_,_,_,(gq Z),W1,Z,Ll,Z⟩,trivial⟩
def F9 [Lp](p1:(List Part))(p2:(Int×Int×Int×Int×Int×Int×Int×Int×Int×Int×Int×Int))(p3:Int):Option Bool:=
  (G6 p1 p2 p3).bind fun v1=>some (decide (v1≥0))
theorem Al(p1 p2 p3 r)(h:F9 p1 p2 p3=some r):MCall prog 245 [(dl G1 p1),(.fn (.func 246) [] [(.ptr (900000,0) 0),(.ptr (900001,0) 0)])] [(.box 267 [(.d (.v (.int .u32 p2.1))),(.d (.v (.int .u32 p2.2.1))),(.d (.v (.int .u32 p2.2.2.1))),(.d (.v (.int .u32 p2.2.2.2.1))),(.d (.v (.int .u32 p2.2.2.2.2.1))),(.d (.v (.int .u32 p2.2.2.2.2.2.1))),(.d (.v (.int .u32 p2.2.2.2.2.2.2.1))),(.d (.v (.int .u32 p2.2.2.2.2.2.2.2.1))),(.d (.v (.int .u32 p2.2.2.2.2.2.2.2.2.1))),(.d (.v (.int .u32 p2.2.2.2.2.2.2.2.2.2.1))),(.d (.v (.int .u32 p2.2.2.2.2.2.2.2.2.2.2.1))),(.d (.v (.int .u32 p2.2.2.2.2.2.2.2.2.2.2.2)))]),(.box 3 [(di p3)])] (.d (bo r)) [some (.box 267 [(.d (.v (.int .u32 p2.1))),(.d (.v (.int .u32 p2.2.1))),(.d (.v (.int .u32 p2.2.2.1))),(.d (.v (.int .u32 p2.2.2.2.1))),(.d (.v (.int .u32 p2.2.2.2.2.1))),(.d (.v (.int .u32 p2.2.2.2.2.2.1))),(.d (.v (.int .u32 p2.2.2.2.2.2.2.1))),(.d (.v (.int .u32 p2.2.2.2.2.2.2.2.1))),(.d (.v (.int .u32 p2.2.2.2.2.2.2.2.2.1))),(.d (.v (.int .u32 p2.2.2.2.2.2.2.2.2.2.1))),(.d (.v (.int .u32 p2.2.2.2.2.2.2.2.2.2.2.1))),(.d (.v (.int .u32 p2.2.2.2.2.2.2.2.2.2.2.2)))]),some (.box 3 [(di p3)])] []:=by
 refine Un (fk func245 ntmps245 (fun r=>if r==1 then [1001002]else []) (by with_unfolding_all rfl)) Z (nl Z) ?_
 unfold F9 at h
 refine A5 (s0:=⟨T [(0,(.d _)),(1,(.fn _ _ _))],G [((900000,0),some<|.box 267 _),((900001,0),some<|.box 3 _)]⟩) (D2 Z Z) ?_
 refine B5<|sv Z<|A1<|B5<|sv Z<|B6 (.fn _ _ _) Z Z (bs h fun v1 hv1 h=>IA (v:= .d (i64 v1)) (us:= [(900000,0),(900001,0)]) (FF (Bt _ _ _ _ hv1) [(900000,0),(900001,0)] [(900000,0),(900001,0)] _ (((900001,0),some<|.box 3 [(di p3)])::(((900000,0),some<|.box 267 [(.d (.v (.int .u32 p2.1))),(.d (.v (.int .u32 p2.2.1))),(.d (.v (.int .u32 p2.2.2.1))),(.d (.v (.int .u32 p2.2.2.2.1))),(.d (.v (.int .u32 p2.2.2.2.2.1))),(.d (.v (.int .u32 p2.2.2.2.2.2.1))),(.d (.v (.int .u32 p2.2.2.2.2.2.2.1))),(.d (.v (.int .u32 p2.2.2.2.2.2.2.2.1))),(.d (.v (.int .u32 p2.2.2.2.2.2.2.2.2.1))),(.d (.v (.int .u32 p2.2.2.2.2.2.2.2.2.2.1))),(.d (.v (.int .u32 p2.2.2.2.2.2.2.2.2.2.2.1))),(.d (.v (.int .u32 p2.2.2.2.2.2.2.2.2.2.2.2)))])::_)) Z Lk (Cs LO<|Cs (LP Z<|Cs (Pp G_hit Z)<|Cs (Pp (N6 Z G_hit) Z) Pq) Pq) (Gv G_hit<|Gv (N6 Z G_hit) Jc) ⟨⟨_,G_hit, .of Z⟩,⟨_,(N6 Z G_hit), .of Z⟩,trivial⟩ (fun _ h=>h) (RO<|FG Z) Z Z Z) (sv Z<|sv Z<|A1<|B1 ?_))
 cases h
 exact Vy (.inr Z) [] (Vz (B2 Z) C2) (.refl _) ⟨⟨_,_,_,(gq Z),W1,Z,Ll,Z⟩,⟨_,_,_,G_hit,W1,Z,Ll,Z⟩,trivial⟩
def Cl [Lp](p1:Map)(p2:Zone)(p3:Int):Option Bool:=
  (Fs p1).bind fun v1=>(F9 p2.Parts v1 p3).bind fun v2=>some (!v2)
theorem Ji(p1 p2 p3 r)(h:Cl p1 p2 p3=some r):PCall prog 184 [(.agg (O1 p1)),(.agg [(.list (List.map G1 p2.Parts)),(i64 p2.Signal_)]),(i64 p3)] (bo r):=by
 refine C0 (fk func184 ntmps184 (fun r=>if r==2 then [1002003]else []) (by with_unfolding_all rfl)) (nl Z) ?_
 unfold Cl at h
 refine A5 (s0:=⟨T [(0,(.d _)),(1,(.d _)),(2,(.d _))],G []⟩) (D2 Z Z) ?_
 refine lr<|fun u1 _=>sm Z<|sm Z<|sn Z Z<|sv Z<|A1<|lr<|fun u2 _=>sd Z (B3 Z (gq Z) Z Z)<|bs h fun v1 hv1 h=>B8 Z Z A3 (We _ _ hv1) (.inl Z) (sm Z<|Aj Z G_hit [(.d (.v (.int .u32 v1.1))),(.d (.v (.int .u32 v1.2.1))),(.d (.v (.int .u32 v1.2.2.1))),(.d (.v (.int .u32 v1.2.2.2.1))),(.d (.v (.int .u32 v1.2.2.2.2.1))),(.d (.v (.int .u32 v1.2.2.2.2.2.1))),(.d (.v (.int .u32 v1.2.2.2.2.2.2.1))),(.d (.v (.int .u32 v1.2.2.2.2.2.2.2.1))),(.d (.v (.int .u32 v1.2.2.2.2.2.2.2.2.1))),(.d (.v (.int .u32 v1.2.2.2.2.2.2.2.2.2.1))),(.d (.v (.int .u32 v1.2.2.2.2.2.2.2.2.2.2.1))),(.d (.v (.int .u32 v1.2.2.2.2.2.2.2.2.2.2.2)))] Z (A1<|B5<|sq Z<|sl Z (gq Z) Z (B6 (.fn _ _ _) Z Z (bs h fun v2 hv2 h=>IA (v:= .d (bo v2)) (us:= [(7,u2),(5,u1)]) (FF (Al _ _ _ _ hv2) [(7,u2),(5,u1)] [(7,u2),(5,u1)] _ (((5,u1),some<|.box 3 [(di p3)])::(((7,u2),some<|.box 267 [(.d (.v (.int .u32 v1.1))),(.d (.v (.int .u32 v1.2.1))),(.d (.v (.int .u32 v1.2.2.1))),(.d (.v (.int .u32 v1.2.2.2.1))),(.d (.v (.int .u32 v1.2.2.2.2.1))),(.d (.v (.int .u32 v1.2.2.2.2.2.1))),(.d (.v (.int .u32 v1.2.2.2.2.2.2.1))),(.d (.v (.int .u32 v1.2.2.2.2.2.2.2.1))),(.d (.v (.int .u32 v1.2.2.2.2.2.2.2.2.1))),(.d (.v (.int .u32 v1.2.2.2.2.2.2.2.2.2.1))),(.d (.v (.int .u32 v1.2.2.2.2.2.2.2.2.2.2.1))),(.d (.v (.int .u32 v1.2.2.2.2.2.2.2.2.2.2.2)))])::_)) Z Lk (Cs LO<|Cs (LP Z<|Cs (Pp G_hit Z)<|Cs (Pp (N6 Z<|N6 Z G_hit) Z) Pq) Pq) (Gv G_hit<|Gv (N6 Z<|N6 Z G_hit) Jc) ⟨⟨_,G_hit, .of Z⟩,⟨_,(N6 Z<|N6 Z G_hit), .of Z⟩,trivial⟩ (fun _ h=>h) (RO<|FG Z) Z Z Z) (B6 (.d (bo (!v2))) Z Z (sv Z<|A1<|B1 ?_))))))
 cases h
 exact A8 (.inr Z) (B4 (B2 Z) C2) (.refl _)
def S4 [Lp](p1:Int)(p2:Map)(p3:Zone):Option Bool:=
  (Cl p2 p3 p1).bind fun v1=>some (!v1)
theorem Kt(p1 p2 p3 r)(h:S4 p1 p2 p3=some r):PCall prog 183 [(i64 p1),(.bp (O1 p2) 0),(.bp [(.list (List.map G1 p3.Parts)),(i64 p3.Signal_)] 0)] (bo r):=by
 refine C0 (fk func183 ntmps183 m0 (by with_unfolding_all rfl)) (nl Z) ?_
 unfold S4 at h
 refine A5 (s0:=⟨T [(0,(.d _)),(1,(.d _)),(2,(.d _))],G []⟩) (D2 Z Z) ?_
 refine B5<|sv Z<|A1<|B5<|sv Z<|sv Z<|sv Z<|bs h fun v1 hv1 h=>B8 Z Z A3 (Ji _ _ _ _ hv1) (.inl Z) (B6 (.d (bo (!v1))) Z Z (sv Z<|A1<|B1 ?_))
 cases h
 exact A8 (.inr Z) (B4 (B2 Z) C2) (.refl _)
def F6 [Lp](p1:(List Int))(p2:Map)(p3:Zone)(x1:Int):Option (Stp Int (Sum Unit Int)):=
  cond (decide (x1< (p1.length:Int))) ((D6 p1 x1).bind fun v1=>(S4 v1 p2 p3).bind fun v2=>cond v2 (some (.out (.inr x1))) (some (.go (I8 (x1+1))))) (some (.out (.inl ())))
def G4 [Lp](p1:(List Int))(p2:Map)(p3:Zone):Option Int:=
  thenS (loop (F6 p1 p2 p3) 0) (fun _=>some (-1)) (fun r=>some r)
theorem Bn(p1 p2 p3 r)(h:G4 p1 p2 p3=some r):PCall prog 145 [(.list (List.map A7 p1)),(.fn (.func 183) [] [(.bp (O1 p2) 0),(.bp [(.list (List.map G1 p3.Parts)),(i64 p3.Signal_)] 0)])] (i64 r):=by
 refine C0 (fk func145 ntmps145 m0 (by with_unfolding_all rfl)) (nl Z) ?_
 unfold G4 at h
 refine A5 (s0:=⟨T [(0,(.d _)),(1,(.d _))],G []⟩) (D2 Z Z) ?_
 refine B5<|sv Z<|A1<|A2<|B5<|sv Z<|sd Z (C1 Z)<|sv Z<|A1<|js h fun z1 hz1 h=>D5 (fun s=> ∃(y1:Unit) (g1:Unit),z1= .inl y1∧Sb ⟨T [],G []⟩ s) ?_ ?_
 refine A6<|E0 (F6 p1 p2 p3) (fun (x1:Int) (g2:Unit)=>⟨T [(0,(dl A7 p1)),(1,(.d (.fn (.func 183) [] [(.bp (O1 p2) 0),(.bp [(.list (List.map G1 p3.Parts)),(i64 p3.Signal_)] 0)]))),(7,(di (p1.length:Int))),(8,(di x1))],G []⟩) 0 () _ hz1 (D2 Z Z) ?_
 intro x1 g2 z2 hz2 ez2
 unfold F6 at hz2
 refine B5<|sv Z<|A1<|A2<|cc Z hz2 (fun c1 hz2=> ?_)<|fun c1 hz2=> ?_
 refine A9<|A2<|A6<|B5<|sv Z<|sv Z<|A1<|B5<|sv Z<|sv Z<|sv Z<|bs hz2 fun _ hv1 hz2=>sd Z (C9 Z Z hv1 Z)<|sd Z (F5 Z hv1 Z)<|bs hz2 fun _ hv2 hz2=>B8 Z Z A3 (Kt _ _ _ _ hv2) (.inl Z) (A1<|cc Z hz2 (fun c2 hz2=> ?_)<|fun c2 hz2=> ?_)
 refine B5<|sv Z<|sv Z<|A1<|B1 ?_
 cases hz2
 obtain rfl:=ez2 _ rfl
 refine ⟨nofun,E4 ?_⟩
 rw [bJ]at h
 cases h
 exact A8 (.inr Z) (B4 (B2 Z) C2) (.refl _)
 refine A9<|D9<|B0<|sv Z<|sv Z<|A1<|E7 ?_
 cases hz2
 exact ⟨Z,(),(D2 Z Z)⟩
 refine C5 Z ?_
 cases hz2
 obtain rfl:=ez2 _ rfl
 refine ⟨nofun,C4 Z<|Y5 ?_⟩
 exact ⟨_,(),Z,(D2 Z Z)⟩
 rintro _ ⟨y1,g1,rfl,q1⟩
 rw [bI]at h
 refine A5 q1<|B5<|sv Z<|A1<|B1 ?_
 cases h
 exact A8 (.inr Z) (B4 (B2 Z) C2) (.refl _)
def F7 [Lp](p1:(List Int))(p2:Map)(p3:Zone):Option Bool:=
  (G4 p1 p2 p3).bind fun v1=>some (decide (v1≥0))
theorem Ah(p1 p2 p3 r)(h:F7 p1 p2 p3=some r):PCall prog 182 [(.list (List.map A7 p1)),(.fn (.func 183) [] [(.bp (O1 p2) 0),(.bp [(.list (List.map G1 p3.Parts)),(i64 p3.Signal_)] 0)])] (bo r):=by
 refine C0 (fk func182 ntmps182 m0 (by with_unfolding_all rfl)) (nl Z) ?_
 unfold F7 at h
 refine A5 (s0:=⟨T [(0,(.d _)),(1,(.d _))],G []⟩) (D2 Z Z) ?_
 refine B5<|sv Z<|A1<|B5<|sv Z<|sv Z<|bs h fun _ hv1 h=>B8 Z Z A3 (Bn _ _ _ _ hv1) (.inl Z) (sv Z<|sv Z<|A1<|B1 ?_)
 cases h
 exact A8 (.inr Z) (B4 (B2 Z) C2) (.refl _)
end
end Go.Abs.Roadsz
