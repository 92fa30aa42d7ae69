/-
  The Go functions that RoadsClashes reaches, as plain Lean functions, and the proofs that the program computes them.
-/
import Derived.Test.YtimbepcdlehjjaaGreatCoreD
import Derived.Test.YtimbepcdlehjjaaGreatProg
import Derived.KernelRfl
import Derived.IntWalk
import Derived.Shelf.Spec.SlicesGrow
set_option maxRecDepth 20000
set_option maxHeartbeats 4000000
set_option linter.unusedVariables false
namespace Go.Abs.Roadsz
noncomputable section
open Go Go.Abs Go.Proofs Tryz
attribute [local irreducible] K3 Cw Dw
structure Spot where
  X:Int
  Y:Int
  deriving Inhabited
structure CurveVector where
  x:Int
  y:Int
  deriving Inhabited
structure CurvePiece where
  p:Spot
  v:CurveVector
  l:Int
  start:Int
  deriving Inhabited
abbrev M0:Spot→List D:=fun x=> [(i64 x.X),(i64 x.Y)]
structure Curve where
  Pts:(List Spot)
  deriving Inhabited
abbrev QQ:Curve→List D:=fun x=> [(.list (List.map M0 x.Pts))]
abbrev A8:Int→List D:=fun x=> [.v (.int .i64 x)]
structure Part where
  Lane_:Int
  From:Int
  To:Int
  Rank:Int
  deriving Inhabited
abbrev H9:Part→List D:=fun x=> [(i64 x.Lane_),(i64 x.From),(i64 x.To),(i64 x.Rank)]
structure Phase where
  Ticks:Int
  Green:(List Int)
  deriving Inhabited
abbrev By:Phase→List D:=fun x=> [(i64 x.Ticks),(.list (List.map A8 x.Green))]
structure Lane where
  Kind:Int
  Curve_:Curve
  Half:Int
  Limit:Int
  Next:(List Int)
  deriving Inhabited
structure Zone where
  Parts:(List Part)
  Signal_:Int
  deriving Inhabited
structure Signal where
  Offset:Int
  Phases:(List Phase)
  deriving Inhabited
structure Work where
  Lane_:Int
  From:Int
  To:Int
  Begin:Int
  End:Int
  Limit:Int
  deriving Inhabited
structure Map where
  Version:Int
  Lanes:(List Lane)
  Zones:(List Zone)
  Signals:(List Signal)
  Works:(List Work)
  deriving Inhabited
abbrev Dg:Lane→List D:=fun x=> [(i64 x.Kind),(.list (List.map M0 x.Curve_.Pts)),(i64 x.Half),(i64 x.Limit),(.list (List.map A8 x.Next))]
abbrev Q9:Zone→List D:=fun x=> [(.list (List.map H9 x.Parts)),(i64 x.Signal_)]
abbrev La:Signal→List D:=fun x=> [(i64 x.Offset),(.list (List.map By x.Phases))]
abbrev Qs:Work→List D:=fun x=> [(i64 x.Lane_),(i64 x.From),(i64 x.To),(i64 x.Begin),(i64 x.End),(i64 x.Limit)]
abbrev L8:Map→List D:=fun x=> [(i64 x.Version),(.list (List.map Dg x.Lanes)),(.list (List.map Q9 x.Zones)),(.list (List.map La x.Signals)),(.list (List.map Qs x.Works))]
abbrev UG:(List Lane)→List D:=fun x=> [.list (List.map Dg x)]
abbrev UH:(List Spot)→List D:=fun x=> [.list (List.map M0 x)]
abbrev JX:(List Int)→List D:=fun x=> [.list (List.map A8 x)]
abbrev UI:(List Zone)→List D:=fun x=> [.list (List.map Q9 x)]
abbrev UJ:(List Part)→List D:=fun x=> [.list (List.map H9 x)]
abbrev MW:(List Signal)→List D:=fun x=> [.list (List.map La x)]
abbrev QR:(List Phase)→List D:=fun x=> [.list (List.map By x)]
abbrev UK:(List Work)→List D:=fun x=> [.list (List.map Qs x)]
structure RoadsWay where
  Map_:Map
  lanes:(List Int)
  starts:(List Int)
  length:Int
  deriving Inhabited
abbrev aA:Nat→List D:=fun x=> [.fn (.func x) [] []]
structure RoadsCheck where
  Map_:Map
  deriving Inhabited
abbrev YM:(Int×Int×Int)→List D:=fun x=> [(i64 x.1),(i64 x.2.1),(i64 x.2.2)]
structure Clash where
  Kind:Int
  Zone_:Int
  A:Int
  B:Int
  deriving Inhabited
abbrev B8:Clash→List D:=fun x=> [(i64 x.Kind),(i64 x.Zone_),(i64 x.A),(i64 x.B)]
structure Cross where
  FromA:Int
  ToA:Int
  FromB:Int
  ToB:Int
  deriving Inhabited
structure CurveCorridor where
  piece:CurvePiece
  half:Int
  ends:(Int×Int)
  deriving Inhabited
abbrev Q6:Cross→List D:=fun x=> [(i64 x.FromA),(i64 x.ToA),(i64 x.FromB),(i64 x.ToB)]
abbrev Nv:(List Clash)→List D:=fun x=> [.list (List.map B8 x)]
structure Ref01Stripe where
  p:Spot
  v:Spot
  l:Int
  h:Int
  s:Int
  t:Int
  deriving Inhabited
abbrev I3:Ref01Stripe→List D:=fun x=> [(i64 x.p.X),(i64 x.p.Y),(i64 x.v.X),(i64 x.v.Y),(i64 x.l),(i64 x.h),(i64 x.s),(i64 x.t)]
structure Anon7 where
  x:Int
  y:Int
  signed:Bool
  code:Int
  deriving Inhabited
structure RuntimeBoundsError where
  x:Int
  y:Int
  signed:Bool
  code:Int
  deriving Inhabited
structure Anon13 where
  msg:ByteArray
  addr:Int
  deriving Inhabited
structure RuntimeErrorAddressString where
  msg:ByteArray
  addr:Int
  deriving Inhabited
structure Anon26 where
  Version:Int
  Lanes:(List Lane)
  Zones:(List Zone)
  Signals:(List Signal)
  Works:(List Work)
  deriving Inhabited
structure Edit where
  Kind:Int
  Table:Int
  At:Int
  Lane_:Lane
  Zone_:Zone
  Signal_:Signal
  Work_:Work
  deriving Inhabited
structure Anon35 where
  Base:Int
  Edits:(List Edit)
  deriving Inhabited
structure Patch where
  Base:Int
  Edits:(List Edit)
  deriving Inhabited
structure Anon38 where
  Pts:(List Spot)
  deriving Inhabited
structure Anon41 where
  Kind:Int
  Curve_:Curve
  Half:Int
  Limit:Int
  Next:(List Int)
  deriving Inhabited
structure Anon44 where
  Parts:(List Part)
  Signal_:Int
  deriving Inhabited
structure Anon47 where
  Offset:Int
  Phases:(List Phase)
  deriving Inhabited
structure Anon49 where
  Lane_:Int
  From:Int
  To:Int
  Begin:Int
  End:Int
  Limit:Int
  deriving Inhabited
structure Anon51 where
  Kind:Int
  Table:Int
  At:Int
  Lane_:Lane
  Zone_:Zone
  Signal_:Signal
  Work_:Work
  deriving Inhabited
structure Anon90 where
  Lane_:Int
  From:Int
  To:Int
  Rank:Int
  deriving Inhabited
structure Anon92 where
  Kind:Int
  Zone_:Int
  A:Int
  B:Int
  deriving Inhabited
structure Anon94 where
  Zone_:Int
  Part_:Int
  From:Int
  To:Int
  deriving Inhabited
structure Pass where
  Zone_:Int
  Part_:Int
  From:Int
  To:Int
  deriving Inhabited
structure Anon96 where
  Ticks:Int
  Green:(List Int)
  deriving Inhabited
structure Anon104 where
  Map_:Map
  deriving Inhabited
structure Anon144 where
  b:(List Int)
  deriving Inhabited
structure RoadsWriter where
  b:(List Int)
  deriving Inhabited
structure Anon147 where
  X:Int
  Y:Int
  deriving Inhabited
structure Anon153 where
  s:ByteArray
  short:Bool
  deriving Inhabited
structure RoadsReader where
  s:ByteArray
  short:Bool
  deriving Inhabited
structure Anon168 where
  Map_:Map
  lanes:(List Int)
  starts:(List Int)
  length:Int
  deriving Inhabited
structure Anon186 where
  s:ByteArray
  bad:Bool
  deriving Inhabited
structure Ref03Reader where
  s:ByteArray
  bad:Bool
  deriving Inhabited
structure Anon225 where
  FromA:Int
  ToA:Int
  FromB:Int
  ToB:Int
  deriving Inhabited
structure Anon252 where
  x:Int
  y:Int
  deriving Inhabited
structure Anon279 where
  p:Spot
  v:CurveVector
  l:Int
  start:Int
  deriving Inhabited
structure Anon282 where
  piece:CurvePiece
  half:Int
  ends:(Int×Int)
  deriving Inhabited
structure Anon290 where
  p:Spot
  v:Spot
  l:Int
  h:Int
  s:Int
  t:Int
  deriving Inhabited
abbrev Z9:CurveCorridor→List D:=fun x=> [(i64 x.piece.p.X),(i64 x.piece.p.Y),(i64 x.piece.v.x),(i64 x.piece.v.y),(i64 x.piece.l),(i64 x.piece.start),(i64 x.half),(i64 x.ends.1),(i64 x.ends.2)]
abbrev N5:CurveCorridor→List AV:=fun x=> [(.d (i64 x.piece.p.X)),(.d (i64 x.piece.p.Y)),(.d (i64 x.piece.v.x)),(.d (i64 x.piece.v.y)),(.d (i64 x.piece.l)),(.d (i64 x.piece.start)),(.d (i64 x.half)),(.d (i64 x.ends.1)),(.d (i64 x.ends.2))]
abbrev MX:RoadsWay→List D:=fun x=> [(i64 x.Map_.Version),(.list (List.map Dg x.Map_.Lanes)),(.list (List.map Q9 x.Map_.Zones)),(.list (List.map La x.Map_.Signals)),(.list (List.map Qs x.Map_.Works)),(.list (List.map A8 x.lanes)),(.list (List.map A8 x.starts)),(i64 x.length)]
abbrev Gy:RoadsWay→List AV:=fun x=> [(.d (i64 x.Map_.Version)),(.d (.list (List.map Dg x.Map_.Lanes))),(.d (.list (List.map Q9 x.Map_.Zones))),(.d (.list (List.map La x.Map_.Signals))),(.d (.list (List.map Qs x.Map_.Works))),(.d (.list (List.map A8 x.lanes))),(.d (.list (List.map A8 x.starts))),(.d (i64 x.length))]
abbrev J8:Ref01Stripe→List AV:=fun x=> [(.d (i64 x.p.X)),(.d (i64 x.p.Y)),(.d (i64 x.v.X)),(.d (i64 x.v.Y)),(.d (i64 x.l)),(.d (i64 x.h)),(.d (i64 x.s)),(.d (i64 x.t))]
abbrev VL:Work→List AV:=fun x=> [(.d (i64 x.Lane_)),(.d (i64 x.From)),(.d (i64 x.To)),(.d (i64 x.Begin)),(.d (i64 x.End)),(.d (i64 x.Limit))]
abbrev Qt:CurvePiece→List D:=fun x=> [(i64 x.p.X),(i64 x.p.Y),(i64 x.v.x),(i64 x.v.y),(i64 x.l),(i64 x.start)]
abbrev R3:CurvePiece→List AV:=fun x=> [(.d (i64 x.p.X)),(.d (i64 x.p.Y)),(.d (i64 x.v.x)),(.d (i64 x.v.y)),(.d (i64 x.l)),(.d (i64 x.start))]
abbrev I7:Map→List AV:=fun x=> [(.d (i64 x.Version)),(.d (.list (List.map Dg x.Lanes))),(.d (.list (List.map Q9 x.Zones))),(.d (.list (List.map La x.Signals))),(.d (.list (List.map Qs x.Works)))]
abbrev Ft:Lane→List AV:=fun x=> [(.d (i64 x.Kind)),(.d (.list (List.map M0 x.Curve_.Pts))),(.d (i64 x.Half)),(.d (i64 x.Limit)),(.d (.list (List.map A8 x.Next)))]
abbrev Fz:Part→List AV:=fun x=> [(.d (i64 x.Lane_)),(.d (i64 x.From)),(.d (i64 x.To)),(.d (i64 x.Rank))]
abbrev XA:Cross→List AV:=fun x=> [(.d (i64 x.FromA)),(.d (i64 x.ToA)),(.d (i64 x.FromB)),(.d (i64 x.ToB))]
def Ja (p1:Map)(x3:Int)(x4:Int):Option (Stp Int (Sum Unit Bool)):=
  (E5 p1.Signals x3).bind fun v5=>cond (decide (x4< (v5.Phases.length:Int))) ((E5 p1.Signals x3).bind fun v6=>(E5 v6.Phases x4).bind fun v7=>cond (decide ((v7.Green.length:Int)>14)) (some (.out (.inr false))) (some (.go (C8 (x4+1))))) (some (.out (.inl ())))
def Jb [Lp](p1:Map)(x3:Int):Option (Stp Int (Sum Unit Bool)):=
  cond (decide (x3< (p1.Signals.length:Int))) ((E5 p1.Signals x3).bind fun v4=>cond (decide ((v4.Phases.length:Int)>8)) (some (.out (.inr false))) (thenS (loop (Ja p1 x3) 0) (fun _=>some (.go (C8 (x3+1)))) (fun r=>some (.out (.inr r))))) (some (.out (.inl ())))
def Jc (p1:Map)(x2:Int):Option (Stp Int (Sum Unit Bool)):=
  cond (decide (x2< (p1.Zones.length:Int))) ((E5 p1.Zones x2).bind fun v3=>cond (decide ((v3.Parts.length:Int)>8)) (some (.out (.inr false))) (some (.go (C8 (x2+1))))) (some (.out (.inl ())))
def Jd (p1:Map)(x1:Int):Option (Stp Int (Sum Unit Bool)):=
  cond (decide (x1< (p1.Lanes.length:Int))) ((E5 p1.Lanes x1).bind fun v1=>((cond (!(decide ((v1.Curve_.Pts.length:Int)>18))) (E5 p1.Lanes x1) (some default))).bind fun v2=>cond ((decide ((v1.Curve_.Pts.length:Int)>18))||(decide ((v2.Next.length:Int)>5))) (some (.out (.inr false))) (some (.go (C8 (x1+1))))) (some (.out (.inl ())))
def Nw [Lp](p1:Map):Option Bool:=
  cond ((((decide ((p1.Lanes.length:Int)>14))||(decide ((p1.Zones.length:Int)>14)))||(decide ((p1.Signals.length:Int)>6)))||(decide ((p1.Works.length:Int)>10))) (some false) (thenS (loop (Jd p1) 0) (fun _=>thenS (loop (Jc p1) 0) (fun _=>thenS (loop (Jb p1) 0) (fun _=>some true) (fun r=>some r)) (fun r=>some r)) (fun r=>some r))
theorem FA(p1 r)(h:Nw p1=some r):PCall prog 13 [(.agg (L8 p1))] (bo r):=by
 refine C5 (fk func13 ntmps13 m0 (by with_unfolding_all rfl)) (nl Z) ?_
 unfold Nw at h
 refine A5 (s0:=⟨T [(0,(.d _))],G []⟩) (C9 Z Z) ?_
 refine lr<|fun u1 _=>sm Z<|sv Z<|A1<|A4<|B7<|sq Z<|sl Z G_hit Z<|sd Z (D0 Z)<|sv Z<|sv Z<|gp Z (L5 Z) (fun _=>Z) (gf Z (vl Z G_hit Z)<|gf Z (fun w3=>(D0<|A3 w3))<|gf Z (vb Z Z Z)<|sd Z (Q5 Z Z<|fun hc=>A3<|L6 hc)<|sv Z<|gp Z (L5 Z) (fun _=>Z) (gf Z (vl Z G_hit Z)<|gf Z (fun w7=>(D0<|A3 w7))<|gf Z (vb Z Z Z)<|sd Z (Q5 Z Z<|fun hc=>A3<|L6 hc)<|sv Z<|gp Z (L5 Z) (fun _=>Z) (gf Z (vl Z G_hit Z)<|gf Z (fun w11=>(D0<|A3 w11))<|gf Z (vb Z Z Z)<|sd Z (Q5 Z Z<|fun hc=>A3<|L6 hc)<|A1<|cc Z h (fun c1 h=> ?_)<|fun c1 h=> ?_)))
 refine A4<|A5 (s0:=⟨T [],G []⟩) (C9 Z Z) ?_
 refine B0<|sv Z<|A1<|B5 ?_
 cases h
 exact A9 (.inr Z) (B6 (B4 Z) C6) (.refl _)
 refine B1<|A4<|A4<|A5 (s0:=⟨T [(1,(.ptr _ _))],G [((1,u1),some<|.box 27 _)]⟩) (C9 Z Z) ?_
 refine B0<|sv Z<|A1<|js h fun z1 hz1 h=>D2 (fun s=> ∃(y1:Unit) (g1:Unit),z1= .inl y1∧Sb ⟨T [(1,(.ptr (1,u1) 0))],G [((1,u1),some<|.box 27 (I7 p1))]⟩ s) ?_ ?_
 refine A6<|E7 (Jd p1) (fun (x1:Int) (g2:Unit)=>⟨T [(1,(.ptr (1,u1) 0)),(3,(di x1))],G [((1,u1),some<|.box 27 (I7 p1))]⟩) 0 () _ hz1 (C9 Z Z) ?_
 intro x1 g2 z2 hz2 ez2
 unfold Jd at hz2
 refine A4<|B7<|sv Z<|sq Z<|sl Z G_hit Z<|sd Z (D0 Z)<|sv Z<|A1<|cc Z hz2 (fun c2 hz2=> ?_)<|fun c2 hz2=> ?_
 refine B1<|A4<|A6<|B7<|sq Z<|sl Z G_hit Z<|sv Z<|bs hz2 fun _ hv1 hz2=>sd Z (C7 Z Z hv1 Z)<|sv Z<|sv Z<|sd Z (D9 Z hv1 Z)<|sd Z (D0 Z)<|sv Z<|sv Z<|gp Z (L5 Z) (fun _=>Z) (gf Z (vl Z G_hit Z)<|gf Z (fun _=>Z)<|bs hz2 fun _ hv2 hz2=>gf Z (fun w16=>(C7 (A3 w16) (A3 w16) (D7 w16 hv2) Z)) ?_)
 refine gf Z (fun w17=>(by simp only [A3 w17];rfl)) ?_
 refine gf Z (fun w18=>(D9 (A3 w18) (D7 w18 hv2) Z))<|gf Z (fun w19=>(D0<|A3 w19))<|gf Z (vb Z Z Z)<|sd Z (Q5 Z Z<|fun hc=>A3<|L6 hc)<|A1<|cc Z hz2 (fun c3 hz2=> ?_)<|fun c3 hz2=> ?_
 refine A4<|A5 (s0:=⟨T [],G []⟩) (C9 Z Z) ?_
 refine B0<|sv Z<|A1<|B5 ?_
 cases hz2
 obtain rfl:=ez2 _ rfl
 refine ⟨nofun,F6 ?_⟩
 rw [bL]at h
 cases h
 exact A9 (.inr Z) (B6 (B4 Z) C6) (.refl _)
 refine B1<|E6<|A5 (s0:=⟨T [(1,(.ptr _ _)),(3,(.d _))],G [((1,u1),some<|.box 27 _)]⟩) (C9 Z Z) ?_
 refine B0<|sv Z<|sv Z<|sv Z<|A1<|F2 ?_
 cases hz2
 exact ⟨Z,(),(C9 Z Z)⟩
 refine C3 Z ?_
 cases hz2
 obtain rfl:=ez2 _ rfl
 refine ⟨nofun,B9 Z<|U0 ?_⟩
 exact ⟨_,(),Z,(C9 Z Z)⟩
 rintro _ ⟨y1,g1,rfl,q1⟩
 rw [bK]at h
 refine A5 q1<|A4<|B7<|sv Z<|A1<|js h fun z3 hz3 h=>D2 (fun s=> ∃(y2:Unit) (g3:Unit),z3= .inl y2∧Sb ⟨T [(1,(.ptr (1,u1) 0))],G [((1,u1),some<|.box 27 (I7 p1))]⟩ s) ?_ ?_
 refine A6<|E7 (Jc p1) (fun (x2:Int) (g4:Unit)=>⟨T [(1,(.ptr (1,u1) 0)),(4,(di x2))],G [((1,u1),some<|.box 27 (I7 p1))]⟩) 0 () _ hz3 (C9 Z Z) ?_
 intro x2 g4 z4 hz4 ez4
 unfold Jc at hz4
 refine A4<|B7<|sv Z<|sq Z<|sl Z G_hit Z<|sd Z (D0 Z)<|sv Z<|A1<|cc Z hz4 (fun c4 hz4=> ?_)<|fun c4 hz4=> ?_
 refine B1<|A4<|A6<|B7<|sq Z<|sl Z G_hit Z<|sv Z<|bs hz4 fun _ hv3 hz4=>sd Z (C7 Z Z hv3 Z)<|sv Z<|sd Z (D9 Z hv3 Z)<|sd Z (D0 Z)<|sv Z<|A1<|cc Z hz4 (fun c5 hz4=> ?_)<|fun c5 hz4=> ?_
 refine B7<|sv Z<|A1<|B5 ?_
 cases hz4
 obtain rfl:=ez4 _ rfl
 refine ⟨nofun,F6 ?_⟩
 rw [bL]at h
 cases h
 exact A9 (.inr Z) (B6 (B4 Z) C6) (.refl _)
 refine B1<|E6<|B0<|sv Z<|sv Z<|sv Z<|A1<|F2 ?_
 cases hz4
 exact ⟨Z,(),(C9 Z Z)⟩
 refine C3 Z ?_
 cases hz4
 obtain rfl:=ez4 _ rfl
 refine ⟨nofun,B9 Z<|U0 ?_⟩
 exact ⟨_,(),Z,(C9 Z Z)⟩
 rintro _ ⟨y2,g3,rfl,q2⟩
 rw [bK]at h
 refine A5 q2<|A4<|B7<|sv Z<|A1<|js h fun z5 hz5 h=>D2 (fun s=> ∃(y3:Unit) (g5:Unit),z5= .inl y3∧Sb ⟨T [],G []⟩ s) ?_ ?_
 refine A6<|E7 (Jb p1) (fun (x3:Int) (g6:Unit)=>⟨T [(1,(.ptr (1,u1) 0)),(5,(di x3))],G [((1,u1),some<|.box 27 (I7 p1))]⟩) 0 () _ hz5 (C9 Z Z) ?_
 intro x3 g6 z6 hz6 ez6
 unfold Jb at hz6
 refine A4<|B7<|sv Z<|sq Z<|sl Z G_hit Z<|sd Z (D0 Z)<|sv Z<|A1<|cc Z hz6 (fun c6 hz6=> ?_)<|fun c6 hz6=> ?_
 refine B1<|A4<|A6<|A4<|B7<|sq Z<|sl Z G_hit Z<|sv Z<|bs hz6 fun _ hv4 hz6=>sd Z (C7 Z Z hv4 Z)<|sv Z<|sd Z (D9 Z hv4 Z)<|sd Z (D0 Z)<|sv Z<|A1<|cc Z hz6 (fun c7 hz6=> ?_)<|fun c7 hz6=> ?_
 refine B7<|sv Z<|A1<|B5 ?_
 cases hz6
 obtain rfl:=ez6 _ rfl
 refine ⟨nofun,F6 ?_⟩
 rw [bL]at h
 cases h
 exact A9 (.inr Z) (B6 (B4 Z) C6) (.refl _)
 refine B1<|B7<|sv Z<|A1<|js hz6 fun z7 hz7 hz6=>D2 (fun s=> ∃(y4:Unit) (g7:Unit),z7= .inl y4∧Sb ⟨T [(1,(.ptr (1,u1) 0)),(5,(di x3))],G [((1,u1),some<|.box 27 (I7 p1))]⟩ s) ?_ ?_
 refine A6<|E7 (Ja p1 x3) (fun (x4:Int) (g8:Unit)=>⟨T [(1,(.ptr (1,u1) 0)),(5,(di x3)),(6,(di x4))],G [((1,u1),some<|.box 27 (I7 p1))]⟩) 0 () _ hz7 (C9 Z Z) ?_
 intro x4 g8 z8 hz8 ez8
 unfold Ja at hz8
 refine A4<|B7<|sv Z<|sq Z<|sl Z G_hit Z<|sv Z<|bs hz8 fun _ hv5 hz8=>sd Z (C7 Z Z hv5 Z)<|sv Z<|sd Z (D9 Z hv5 Z)<|sd Z (D0 Z)<|sv Z<|A1<|cc Z hz8 (fun c8 hz8=> ?_)<|fun c8 hz8=> ?_
 refine B1<|A4<|A6<|B7<|sq Z<|sl Z G_hit Z<|sv Z<|bs hz8 fun _ hv6 hz8=>sd Z (C7 Z Z hv6 Z)<|sv Z<|sd Z (D9 Z hv6 Z)<|sv Z<|bs hz8 fun _ hv7 hz8=>sd Z (C7 Z Z hv7 Z)<|sv Z<|sd Z (D9 Z hv7 Z)<|sd Z (D0 Z)<|sv Z<|A1<|cc Z hz8 (fun c9 hz8=> ?_)<|fun c9 hz8=> ?_
 refine A4<|A5 (s0:=⟨T [],G []⟩) (C9 Z Z) ?_
 refine B0<|sv Z<|A1<|B5 ?_
 cases hz8
 obtain rfl:=ez8 _ rfl
 refine ⟨nofun,F6 ?_⟩
 rw [bL]at hz6
 cases hz6
 obtain rfl:=ez6 _ rfl
 refine ⟨nofun,F6 ?_⟩
 rw [bL]at h
 cases h
 exact A9 (.inr Z) (B6 (B4 Z) C6) (.refl _)
 refine B1<|E6<|A5 (s0:=⟨T [(1,(.ptr _ _)),(5,(.d _)),(6,(.d _))],G [((1,u1),some<|.box 27 _)]⟩) (C9 Z Z) ?_
 refine B0<|sv Z<|sv Z<|sv Z<|A1<|F2 ?_
 cases hz8
 exact ⟨Z,(),(C9 Z Z)⟩
 refine C3 Z ?_
 cases hz8
 obtain rfl:=ez8 _ rfl
 refine ⟨nofun,B9 Z<|U0 ?_⟩
 exact ⟨_,(),Z,(C9 Z Z)⟩
 rintro _ ⟨y4,g7,rfl,q3⟩
 rw [bK]at hz6
 refine E6<|A5 q3<|B0<|sv Z<|sv Z<|sv Z<|A1<|F2 ?_
 cases hz6
 exact ⟨Z,(),(C9 Z Z)⟩
 refine C3 Z ?_
 cases hz6
 obtain rfl:=ez6 _ rfl
 refine ⟨nofun,B9 Z<|U0 ?_⟩
 exact ⟨_,(),Z,(C9 Z Z)⟩
 rintro _ ⟨y3,g5,rfl,q4⟩
 rw [bK]at h
 refine A5 q4<|B7<|sv Z<|A1<|B5 ?_
 cases h
 exact A9 (.inr Z) (B6 (B4 Z) C6) (.refl _)
def Qu (p4:(List Int))(x1:(Int×Lane)):Option (Stp (Int×Lane) Lane):=
  cond (decide ((C8 (x1.1+1))< (p4.length:Int))) ((E5 p4 x1.1).bind fun v1=>(E5 p4 (C8 (x1.1+1))).bind fun v2=>(Cj x1.2.Curve_.Pts [(Spot.mk v1 v2)]).bind fun v3=>some (.go ((C8 (x1.1+2)),(Lane.mk x1.2.Kind (Curve.mk v3) x1.2.Half x1.2.Limit x1.2.Next)))) (some (.out x1.2))
def Mb [Lp](p1:Int)(p2:Int)(p3:(List Int))(p4:(List Int)):Option Lane:=
  (loop (Qu p4) (0,(Lane.mk p1 (Curve.mk []) 1500 p2 p3))).bind fun y1=>cond (p1==3) (some (Lane.mk y1.Kind y1.Curve_ 500 y1.Limit y1.Next)) (some y1)
theorem Xm(p1 p2 p3 p4 r)(h:Mb p1 p2 p3 p4=some r):PCall prog 115 [(i64 p1),(i64 p2),(.list (List.map A8 p3)),(.list (List.map A8 p4))] (.agg (Dg r)):=by
 refine C5 (fk func115 ntmps115 (fun r=>if r==5 then [1013]else []) (by with_unfolding_all rfl)) (nl Z) ?_
 unfold Mb at h
 refine A5 (s0:=⟨T [(0,(.d _)),(1,(.d _)),(2,(.d _)),(3,(.d _))],G []⟩) (C9 Z Z) ?_
 refine lr<|fun u1 _=>sm Z<|A1<|lr<|fun u2 _=>sv Z<|sv Z<|sv Z<|sv Z<|sm Z<|Bb Z G_hit [(di p1),(.d .nilS),(di 1500),(di p2),(dl A8 p3)] Z (A1<|A4<|B7<|sv Z<|A1<|bs h fun y1 hy1 h=>D2 (fun s=> ∃g1:Nat,Sb ⟨T [(0,(di p1)),(8,(.ptr (8,u1) 0)),(9,(.ptr (9,u2) 0))],G [((8,u1),some<|.box 42 (((zs 4).set 1 (.d .nilS))++ [(.d .nilS)])),((9,u2),some<|.box 42 ((Ft y1).set 1 (oS y1.Curve_.Pts (36,g1)))),((36,g1),oB 148 2 M0 y1.Curve_.Pts)]⟩ s) ?_ ?_)
 refine A6<|E7 (Qu p4) (fun (x1:(Int×Lane)) (g2:Nat)=>⟨T [(0,(di p1)),(3,(dl A8 p4)),(8,(.ptr (8,u1) 0)),(9,(.ptr (9,u2) 0)),(10,(di x1.1))],G [((8,u1),some<|.box 42 (((zs 4).set 1 (.d .nilS))++ [(.d .nilS)])),((9,u2),some<|.box 42 ((Ft x1.2).set 1 (oS x1.2.Curve_.Pts (36,g2)))),((36,g2),oB 148 2 M0 x1.2.Curve_.Pts)]⟩) (0,(Lane.mk p1 (Curve.mk []) 1500 p2 p3)) 0 _ hy1 (C0 (T3 Z)<|sg Z<|B2 G_hit (.of Z)<|U9 trivial) ?_
 intro x1 g2 z1 hz1 ez1
 unfold Qu at hz1
 refine A4<|B7<|sv Z<|sv Z<|sv Z<|sd Z (D0 Z)<|sv Z<|A1<|cc Z hz1 (fun c1 hz1=> ?_)<|fun c1 hz1=> ?_
 refine B1<|A4<|A6<|Ic Z fun u5 _=>sq Z<|sq Z<|C1 (oS x1.2.Curve_.Pts (36,g2)) Z (Fr Z (gq Z) Z) (sv Z<|sv Z<|bs hz1 fun v1 hv1 hz1=>sd Z (C7 Z Z hv1 Z)<|sd Z (D9 Z hv1 Z)<|sv Z<|sv Z<|sv Z<|bs hz1 fun v2 hv2 hz1=>sd Z (C7 Z Z hv2 Z)<|sd Z (D9 Z hv2 Z)<|sv Z<|C1 (dl M0 [(Spot.mk v1 v2)]) Z Z (bs hz1 fun _ hv3 hz1=>N9 M0 (36,g2) x1.2.Curve_.Pts (Spot.mk v1 v2) [] _ (J7<|fun _=>Z) Z (gq Z) hv3 (sq Z<|sp Z Z<|Bb Z (gq Z) ((Ft x1.2).set 1 (.sl (36,u5))) Z (A1<|E6<|A5 (s0:=⟨T [(0,(.d _)),(3,(.d _)),(8,(.ptr _ _)),(9,(.ptr _ _)),(10,(.d _))],G [((8,u1),some<|.box 42 _),((9,u2),some<|.box 42 _),((36,u5),some _)]⟩) (C9 Z Z) ?_))))
 refine B0<|sv Z<|sv Z<|sv Z<|A1<|F2 ?_
 cases hz1
 exact ⟨Z,u5,(C0 (T3 Z)<|B2 G_hit (.of Z)<|B2 (gq Z) (.box (cv<|.cons (.of (Dy<|T1 hv3).symm) cw)) (U8 (gq Z) trivial))⟩
 refine C3 Z ?_
 cases hz1
 obtain rfl:=ez1 _ rfl
 refine ⟨nofun,B9 Z<|U0 ?_⟩
 exact ⟨g2,(C0 (T3 Z)<|B2 G_hit (.of Z)<|sg Z<|C2 (gq Z) trivial)⟩
 rintro _ ⟨g1,q1⟩
 refine A5 q1<|A4<|B7<|sv Z<|sv Z<|A1<|cc Z h (fun c2 h=> ?_)<|fun c2 h=> ?_
 refine B0<|sq Z<|Bb Z (gq Z) (((Ft y1).set 1 (oS y1.Curve_.Pts (36,g1))).set 2 (di 500)) Z (A1<|B7<|C1 (Fx (((Ft y1).set 1 (oS y1.Curve_.Pts (36,g1))).set 2 (di 500))) Z (A7 Z G_hit Z Z) (Uw _ _ _ _ _ (Ow _) Z Z (gq Z) (nl Z) (((Ft y1).set 1 (oS y1.Curve_.Pts (36,g1))).set 2 (di 500)) Z (A1<|B5 ?_)))
 cases h
 exact A9 (.inr Z) (B6 (Bf Z G_hit (nl Z) Z)<|AG<|rD<|L9 (Ea<|gq Z)<|rD<|rD<|rD I0) (.agg (ca Z<|.cons ⟨Dz,Z⟩ (cz Z)))
 refine B1<|B7<|C1 (Fx ((Ft y1).set 1 (oS y1.Curve_.Pts (36,g1)))) Z (A7 Z (gq Z) Z Z) (Uw _ _ _ _ _ (Ow _) Z Z G_hit (nl Z) ((Ft y1).set 1 (oS y1.Curve_.Pts (36,g1))) Z (A1<|B5 ?_))
 cases h
 exact A9 (.inr Z) (B6 (Bf Z G_hit (nl Z) Z)<|AG<|rD<|L9 (Ea<|gq Z)<|rD<|rD<|rD I0) (.agg (ca Z<|.cons ⟨Dz,Z⟩ (cz Z)))
def Li [Lp]:Option Map:=
  (Mb 1 1500 [] [0,0,100000,0]).bind fun v1=>(Mb 1 1500 [] [50000,(-50000),50000,50000]).bind fun v2=>some (Map.mk 0 [v1,v2] [(Zone.mk [(Part.mk 0 48000 52000 1),(Part.mk 1 48000 52000 0)] 0)] [] [])
theorem FB(r)(h:Li=some r):PCall prog 58 [] (.agg (L8 r)):=by
 refine C5 (fk func58 ntmps58 (fun r=>if r==1 then [1000,1002,1004,1007,1009]else []) (by with_unfolding_all rfl)) (nl Z) ?_
 unfold Li at h
 refine A5 (s0:=⟨T [],G []⟩) (C9 Z Z) ?_
 refine B7<|sm Z<|A1<|B7<|C1 (dl A8 [0,0,100000,0]) Z Z (bs h fun v1 hv1 h=>B3 Z Z (.cons (.refl _) (.cons (.refl _) (.cons DLe.nil A2))) (Xm _ _ _ _ _ hv1) (.inl Z) (C1 (dl A8 [50000,(-50000),50000,50000]) Z Z (bs h fun v2 hv2 h=>B3 Z Z (.cons (.refl _) (.cons (.refl _) (.cons DLe.nil A2))) (Xm _ _ _ _ _ hv2) (.inl Z) (C1 (dl Dg [v1,v2]) Z (MR Dg ([v1,v2]:List Lane) (fun _=>Z) Z Z ⟨Z,Z,Z,Z,Z,Z,trivial⟩ (fun _=>Z)) (sv Z<|sv Z<|C1 (dl H9 [(Part.mk 0 48000 52000 1),(Part.mk 1 48000 52000 0)]) Z Z (sv Z<|C1 (dl Q9 [(Zone.mk [(Part.mk 0 48000 52000 1),(Part.mk 1 48000 52000 0)] 0)]) Z Z (sv Z<|Bb Z G_hit [(di 0),(dl Dg [v1,v2]),(dl Q9 [(Zone.mk [(Part.mk 0 48000 52000 1),(Part.mk 1 48000 52000 0)] 0)]),(.d .nilS),(.d .nilS)] Z (A1<|B5 ?_))))))))
 cases h
 exact A9 (.inr Z) (B6 (Bf Z G_hit (nl Z) Z) C6) (.agg (ca Z<|ca Z<|ca Z<|.cons ⟨DLe.nil,Z⟩ (.cons ⟨DLe.nil,Z⟩ .nil)))
def S6 (p1:Int)(p2:Int)(p3:Int):Option Bool:=
  some ((decide (p2≤p1))&& (decide (p1≤p3)))
theorem S4(p1 p2 p3 r)(h:S6 p1 p2 p3=some r):PCall prog 134 [(i64 p1),(i64 p2),(i64 p3)] (bo r):=by
 refine C5 (fk func134 ntmps134 m0 (by with_unfolding_all rfl)) (nl Z) ?_
 unfold S6 at h
 refine A5 (s0:=⟨T [(0,(.d _)),(1,(.d _)),(2,(.d _))],G []⟩) (C9 Z Z) ?_
 refine B7<|sv Z<|A1<|B7<|sv Z<|sv Z<|sv Z<|sv Z<|gt Z (fun _=>Z)<|gt Z (fun _=>Z)<|gt Z (fun w3=>(Q1 (A3 w3) (A3 w3) Z))<|sa Z Z Z<|sv Z<|A1<|B5 ?_
 cases h
 exact A9 (.inr Z) (B6 (B4 Z) C6) (.refl _)
def V8 (p1:RoadsCheck):Option Int:=
  (S6 p1.Map_.Version 0 1099511627776).bind fun v1=>cond (!v1) (some 2) (cond ((p1.Map_.Lanes.length:Int)==0) (some 6) (cond ((((decide ((p1.Map_.Lanes.length:Int)>12))||(decide ((p1.Map_.Zones.length:Int)>12)))||(decide ((p1.Map_.Signals.length:Int)>4)))||(decide ((p1.Map_.Works.length:Int)>8))) (some 8) (some 0)))
theorem Pa(p1 r)(h:V8 p1=some r):PCall prog 65 [(.agg (L8 p1.Map_))] (i64 r):=by
 refine C5 (fk func65 ntmps65 m0 (by with_unfolding_all rfl)) (nl Z) ?_
 unfold V8 at h
 refine A5 (s0:=⟨T [(0,(.d _))],G []⟩) (C9 Z Z) ?_
 refine B7<|sm Z<|sv Z<|A1<|A4<|A6<|B7<|sq Z<|sp Z Z<|sl Z G_hit Z<|bs h fun v1 hv1 h=>B3 Z Z A2 (S4 _ _ _ _ hv1) (.inl Z) (C1 (.d (bo (!v1))) Z Z (sv Z<|A1<|cc Z h (fun c1 h=> ?_)<|fun c1 h=> ?_))
 refine B7<|sv Z<|A1<|B5 ?_
 cases h
 exact A9 (.inr Z) (B6 (B4 Z) C6) (.refl _)
 refine B7<|sq Z<|sp Z Z<|sl Z G_hit Z<|sd Z (D0 Z)<|sv Z<|sv Z<|A1<|cc Z h (fun c2 h=> ?_)<|fun c2 h=> ?_
 refine B7<|sv Z<|A1<|B5 ?_
 cases h
 exact A9 (.inr Z) (B6 (B4 Z) C6) (.refl _)
 refine B7<|sq Z<|sp Z Z<|sl Z G_hit Z<|sd Z (D0 Z)<|sv Z<|sv Z<|gp Z (L5 Z) (fun _=>Z) ?_
 refine Ba _ (.ptr _ _) Z (L5 Z) (fun w2=>(by simp only [A3 w2];rfl)) ?_
 refine gf Z (vl Z G_hit Z)<|gf Z (fun w4=>(D0<|A3 w4))<|gf Z (vb Z Z Z)<|sd Z (Q5 Z Z<|fun hc=>A3<|L6 hc)<|sv Z<|gp Z (L5 Z) (fun _=>Z) ?_
 refine Ba _ (.ptr _ _) Z (L5 Z) (fun w7=>(by simp only [A3 w7];rfl)) ?_
 refine gf Z (vl Z G_hit Z)<|gf Z (fun w9=>(D0<|A3 w9))<|gf Z (vb Z Z Z)<|sd Z (Q5 Z Z<|fun hc=>A3<|L6 hc)<|sv Z<|gp Z (L5 Z) (fun _=>Z) ?_
 refine Ba _ (.ptr _ _) Z (L5 Z) (fun w12=>(by simp only [A3 w12];rfl)) ?_
 refine gf Z (vl Z G_hit Z)<|gf Z (fun w14=>(D0<|A3 w14))<|gf Z (vb Z Z Z)<|sd Z (Q5 Z Z<|fun hc=>A3<|L6 hc)<|sv Z<|A1<|cc Z h (fun c3 h=> ?_)<|fun c3 h=> ?_
 refine A4<|A5 (s0:=⟨T [],G []⟩) (C9 Z Z) ?_
 refine B0<|sv Z<|A1<|B5 ?_
 cases h
 exact A9 (.inr Z) (B6 (B4 Z) C6) (.refl _)
 refine B1<|E6<|A4<|A5 (s0:=⟨T [],G []⟩) (C9 Z Z) ?_
 refine B0<|sv Z<|A1<|B5 ?_
 cases h
 exact A9 (.inr Z) (B6 (B4 Z) C6) (.refl _)
def Gz (p1:Int):Option (Int×Int×Int):=
  cond ((decide (p1<0))||(decide (p1≥4))) (some (0,0,0)) ((E5 ([(0,0,0),(2000,30,90),(1000,20,60),(300,100,300)]:List (Int×Int×Int)) p1).bind fun v1=>some (v1.1,v1.2.1,v1.2.2))
theorem Pk(p1 r)(h:Gz p1=some r):PCall prog 169 [(i64 p1)] (.tup [(i64 r.1),(i64 r.2.1),(i64 r.2.2)]):=by
 refine C5 (fk func169 ntmps169 m0 (by with_unfolding_all rfl)) (nl Z) ?_
 unfold Gz at h
 refine A5 (s0:=⟨T [(0,(.d _))],G []⟩) (C9 Z Z) ?_
 refine B7<|sv Z<|sv Z<|sv Z<|A1<|B7<|sv Z<|sv Z<|sv Z<|sv Z<|sm Z<|Bb Z G_hit [(di 0),(di 0),(di 0),(di 2000),(di 30),(di 90),(di 1000),(di 20),(di 60),(di 300),(di 100),(di 300)] Z (A1<|A4<|B7<|sv Z<|sv Z<|sv Z<|gf Z (fun _=>Z)<|gf Z (vb Z Z Z)<|sd Z (Q5 Z Z<|fun hc=>A3<|L6 hc)<|A1<|cc Z h (fun c1 h=> ?_)<|fun c1 h=> ?_)
 refine B7<|sv Z<|sv Z<|sv Z<|A1<|B5 ?_
 cases h
 exact A9 (.inr Z) (Xk (B4 Z) (B4 Z) (B4 Z) C6 C6 C6) (.refl _)
 refine B1<|lr<|fun u5 _=>sv Z<|bs h fun v1 hv1 h=>sp Z (Va Z Z hv1 Z)<|sd Z (QM (f:=YM) Z G_hit hv1 (fun _=>Z) Z Z)<|sm Z<|Bb Z G_hit [(di v1.1),(di v1.2.1),(di v1.2.2)] Z (A1<|A4<|A5 (s0:=⟨T [(6,(.ptr _ _))],G [((6,u5),some<|.box 249 _)]⟩) (C9 Z Z) ?_)
 refine J2 Z<|sq Z<|sl Z G_hit Z<|sq Z<|sl Z G_hit Z<|sq Z<|sl Z G_hit Z<|sv Z<|sv Z<|sv Z<|A1<|B5 ?_
 cases h
 exact A9 (.inr Z) (Xk (B4 Z) (B4 Z) (B4 Z) C6 C6 C6) (.refl _)
def Cy (p1:(List Spot))(x1:Int):Option (Stp Int (Sum Unit Bool)):=
  cond (decide (x1< (p1.length:Int))) ((E5 p1 x1).bind fun v1=>cond ((decide ((Sj false v1.X v1.Y)< (-16777216)))||(decide ((Sj true v1.X v1.Y)>16777216))) (some (.out (.inr false))) (some (.go (C8 (x1+1))))) (some (.out (.inl ())))
def Ga [Lp](p1:(List Spot)):Option Bool:=
  thenS (loop (Cy p1) 0) (fun _=>some true) (fun r=>some r)
theorem CG(p1 r)(h:Ga p1=some r):PCall prog 233 [(.list (List.map M0 p1))] (bo r):=by
 refine C5 (fk func233 ntmps233 m0 (by with_unfolding_all rfl)) (nl Z) ?_
 unfold Ga at h
 refine A5 (s0:=⟨T [(0,(.d _))],G []⟩) (C9 Z Z) ?_
 refine B7<|sv Z<|A1<|A4<|B7<|sv Z<|sd Z (D0 Z)<|sv Z<|A1<|js h fun z1 hz1 h=>D2 (fun s=> ∃(y1:Unit) (g1:Unit),z1= .inl y1∧Sb ⟨T [],G []⟩ s) ?_ ?_
 refine A6<|E7 (Cy p1) (fun (x1:Int) (g2:Unit)=>⟨T [(5,(dl M0 p1)),(6,(di (p1.length:Int))),(7,(di x1))],G []⟩) 0 () _ hz1 (C9 Z Z) ?_
 intro x1 g2 z2 hz2 ez2
 unfold Cy at hz2
 refine B7<|sv Z<|A1<|A4<|cc Z hz2 (fun c1 hz2=> ?_)<|fun c1 hz2=> ?_
 refine B1<|A4<|A6<|B7<|bs hz2 fun v1 hv1 hz2=>sd Z (C7 Z Z hv1 Z)<|sd Z (D5 Z hv1 Z Z)<|sm Z<|Bb Z G_hit [(di v1.X),(di v1.Y)] Z (A1<|B7<|sq Z<|sl Z G_hit Z<|sq Z<|sl Z G_hit Z<|sv Z<|sv Z<|sv Z<|gp Z (L5 Z) (fun _=>Z) (gf Z (vl Z G_hit Z)<|gp Z (L5 Z) (fun _=>Z) (gf Z (vl Z G_hit Z) ?_)))
 refine gf Z (fun w5=>(by simp only [A3 w5];rfl)) ?_
 refine gf Z (vb Z Z Z)<|sd Z (Q5 Z Z<|fun hc=>A3<|L6 hc)<|A1<|cc Z hz2 (fun c2 hz2=> ?_)<|fun c2 hz2=> ?_
 refine A4<|A5 (s0:=⟨T [],G []⟩) (C9 Z Z) ?_
 refine B0<|sv Z<|A1<|B5 ?_
 cases hz2
 obtain rfl:=ez2 _ rfl
 refine ⟨nofun,F6 ?_⟩
 rw [bL]at h
 cases h
 exact A9 (.inr Z) (B6 (B4 Z) C6) (.refl _)
 refine B1<|E6<|A5 (s0:=⟨T [(5,(.d _)),(6,(.d _)),(7,(.d _))],G []⟩) (C9 Z Z) ?_
 refine B0<|sv Z<|sv Z<|A1<|F2 ?_
 cases hz2
 exact ⟨Z,(),(C9 Z Z)⟩
 refine C3 Z ?_
 cases hz2
 obtain rfl:=ez2 _ rfl
 refine ⟨nofun,B9 Z<|U0 ?_⟩
 exact ⟨_,(),Z,(C9 Z Z)⟩
 rintro _ ⟨y1,g1,rfl,q1⟩
 rw [bK]at h
 refine A5 q1<|B7<|sv Z<|A1<|B5 ?_
 cases h
 exact A9 (.inr Z) (B6 (B4 Z) C6) (.refl _)
def Ie (p1:Spot)(p2:Spot):Option CurveVector:=
  some (CurveVector.mk (C8 (p2.X - p1.X)) (C8 (p2.Y - p1.Y)))
theorem Nj(p1 p2 r)(h:Ie p1 p2=some r):PCall prog 234 [(.agg [(i64 p1.X),(i64 p1.Y)]),(.agg [(i64 p2.X),(i64 p2.Y)])] (.agg [(i64 r.x),(i64 r.y)]):=by
 refine C5 (fk func234 ntmps234 m0 (by with_unfolding_all rfl)) (nl Z) ?_
 unfold Ie at h
 refine A5 (s0:=⟨T [(0,(.d _)),(1,(.d _))],G []⟩) (C9 Z Z) ?_
 refine B7<|sm Z<|sn Z Z<|sm Z<|A1<|B7<|sq Z<|sl Z (gq Z) Z (sq Z<|sl Z (gq Z) Z (sv Z<|sq Z<|sl Z (gq Z) Z (sq Z<|sl Z (gq Z) Z (sv Z<|sv Z<|Bb Z G_hit [(di<|C8 (p2.X - p1.X)),(di<|C8 (p2.Y - p1.Y))] Z (A1<|B5 ?_)))))
 cases h
 exact A9 (.inr Z) (B6 (Bf Z G_hit (nl Z) Z) C6) (.refl _)
def K8 (p1:CurveVector)(p2:CurveVector):Option Int:=
  some (C8 ((C8 (p1.x*p2.x))+ (C8 (p1.y*p2.y))))
theorem M6(p1 p2 r)(h:K8 p1 p2=some r):PCall prog 236 [(.agg [(i64 p1.x),(i64 p1.y)]),(.agg [(i64 p2.x),(i64 p2.y)])] (i64 r):=by
 refine C5 (fk func236 ntmps236 m0 (by with_unfolding_all rfl)) (nl Z) ?_
 unfold K8 at h
 refine A5 (s0:=⟨T [(0,(.d _)),(1,(.d _))],G []⟩) (C9 Z Z) ?_
 refine B7<|sm Z<|sn Z Z<|sv Z<|A1<|B7<|sq Z<|sl Z (gq Z) Z (sq Z<|sl Z G_hit Z<|sv Z<|sq Z<|sl Z (gq Z) Z (sq Z<|sl Z G_hit Z<|sv Z<|sv Z<|sv Z<|A1<|B5 ?_))
 cases h
 exact A9 (.inr Z) (B6 (B4 Z) C6) (.refl _)
def Ho (p1:Int)(x1:(Int×Int)):Option (Stp (Int×Int) Int):=
  cond (decide (x1.1<x1.2)) (cond (decide ((C8 ((C8 ((C8 (x1.1+x1.2)).tdiv 2))* (C8 ((C8 (x1.1+x1.2)).tdiv 2))))<p1)) (some (.go ((C8 ((C8 ((C8 (x1.1+x1.2)).tdiv 2))+1)),x1.2))) (some (.go (x1.1,(C8 ((C8 (x1.1+x1.2)).tdiv 2)))))) (some (.out x1.1))
def Cz [Lp](p1:Int):Option (Int×Bool):=
  (loop (Ho p1) (0,67108864)).bind fun y1=>some (y1,((C8 (y1*y1))==p1))
theorem Sn(p1 r)(h:Cz p1=some r):PCall prog 235 [(i64 p1)] (.tup [(i64 r.1),(bo r.2)]):=by
 refine C5 (fk func235 ntmps235 m0 (by with_unfolding_all rfl)) (nl Z) ?_
 unfold Cz at h
 refine A5 (s0:=⟨T [(0,(.d _))],G []⟩) (C9 Z Z) ?_
 refine B7<|sv Z<|sv Z<|A1<|B7<|sv Z<|sv Z<|A1<|A4<|bs h fun y1 hy1 h=>D2 (fun s=> ∃g1:Unit,Sb ⟨T [(0,(di p1)),(4,(di y1))],G []⟩ s) ?_ ?_
 refine A6<|E7 (Ho p1) (fun (x1:(Int×Int)) (g2:Unit)=>⟨T [(0,(di p1)),(4,(di x1.1)),(5,(di x1.2))],G []⟩) (0,67108864) () _ hy1 (C9 Z Z) ?_
 intro x1 g2 z1 hz1 ez1
 unfold Ho at hz1
 refine A4<|B7<|sv Z<|sv Z<|sv Z<|A1<|cc Z hz1 (fun c1 hz1=> ?_)<|fun c1 hz1=> ?_
 refine B1<|A6<|B7<|sv Z<|sv Z<|sv Z<|sv Z<|sv Z<|A1<|B7<|sv Z<|sv Z<|sv Z<|sv Z<|sv Z<|A1<|cc Z hz1 (fun c2 hz1=> ?_)<|fun c2 hz1=> ?_
 refine B0<|sv Z<|sv Z<|sv Z<|A1<|E6<|F2 ?_
 cases hz1
 exact ⟨Z,(),(C9 Z Z)⟩
 refine B0<|sv Z<|sv Z<|A1<|E6<|F2 ?_
 cases hz1
 exact ⟨Z,(),(C9 Z Z)⟩
 refine C3 Z ?_
 cases hz1
 obtain rfl:=ez1 _ rfl
 refine ⟨nofun,B9 Z<|U0 ?_⟩
 exact ⟨(),(C9 Z Z)⟩
 rintro _ ⟨g1,q1⟩
 refine A5 q1<|B7<|sv Z<|sv Z<|sv Z<|sv Z<|sv Z<|sv Z<|sv Z<|sv Z<|A1<|B5 ?_
 cases h
 exact A9 (.inr Z) (Zy (B4 Z) (B4 Z) C6 C6) (.refl _)
def T7 [Lp](p1:Curve)(x1:(Int×CurveVector)):Option (Stp (Int×CurveVector) (Sum Unit Int)):=
  cond (decide (x1.1< (C8 ((p1.Pts.length:Int) - 1)))) ((E5 p1.Pts x1.1).bind fun v2=>(E5 p1.Pts (C8 (x1.1+1))).bind fun v3=>(Ie v2 v3).bind fun v4=>(K8 v4 v4).bind fun v5=>(Cz v5).bind fun v6=>cond (!v6.2) (some (.out (.inr 3))) (cond ((decide (v6.1<1000))||(decide (v6.1>1048576))) (some (.out (.inr 2))) (((cond (decide (x1.1>0)) (K8 x1.2 v4) (some default))).bind fun v7=>cond ((decide (x1.1>0))&& (decide (v7≤0))) (some (.out (.inr 12))) (some (.go ((C8 (x1.1+1)),v4)))))) (some (.out (.inl ())))
def Aa [Lp](p1:Curve):Option Int:=
  cond (decide ((p1.Pts.length:Int)<2)) (some 6) (cond (decide ((p1.Pts.length:Int)>16)) (some 5) ((Ga p1.Pts).bind fun v1=>cond (!v1) (some 2) (thenS (loop (T7 p1) (0,(CurveVector.mk 0 0))) (fun _=>some 0) (fun r=>some r))))
theorem Je(p1 r)(h:Aa p1=some r):PCall prog 170 [(.agg [(.list (List.map M0 p1.Pts))])] (i64 r):=by
 refine C5 (fk func170 ntmps170 m0 (by with_unfolding_all rfl)) (nl Z) ?_
 unfold Aa at h
 refine A5 (s0:=⟨T [(0,(.d _))],G []⟩) (C9 Z Z) ?_
 refine lr<|fun u1 _=>sm Z<|sv Z<|A1<|A4<|A6<|B7<|sq Z<|sl Z G_hit Z<|sd Z (D0 Z)<|sv Z<|sv Z<|A1<|cc Z h (fun c1 h=> ?_)<|fun c1 h=> ?_
 refine B7<|sv Z<|A1<|B5 ?_
 cases h
 exact A9 (.inr Z) (B6 (B4 Z) C6) (.refl _)
 refine B7<|sq Z<|sl Z G_hit Z<|sd Z (D0 Z)<|sv Z<|sv Z<|A1<|cc Z h (fun c2 h=> ?_)<|fun c2 h=> ?_
 refine B7<|sv Z<|A1<|B5 ?_
 cases h
 exact A9 (.inr Z) (B6 (B4 Z) C6) (.refl _)
 refine B7<|sq Z<|sl Z G_hit Z<|bs h fun v1 hv1 h=>B3 Z Z A2 (CG _ _ hv1) (.inl Z) (C1 (.d (bo (!v1))) Z Z (sv Z<|A1<|cc Z h (fun c3 h=> ?_)<|fun c3 h=> ?_))
 refine B7<|sv Z<|A1<|B5 ?_
 cases h
 exact A9 (.inr Z) (B6 (B4 Z) C6) (.refl _)
 refine B1<|E6<|lr<|fun u8 _=>sm Z<|A1<|A4<|B7<|sq Z<|sl Z (gq Z) Z (sd Z (D0 Z)<|sv Z<|sv Z<|A1<|js h fun z1 hz1 h=>D2 (fun s=> ∃(y1:Unit) (g1:Unit),z1= .inl y1∧Sb ⟨T [],G []⟩ s) ?_ ?_)
 refine A6<|E7 (T7 p1) (fun (x1:(Int×CurveVector)) (g2:Unit)=>⟨T [(1,(.ptr (1,u1) 0)),(3,(.ptr (3,u8) 0)),(26,(di<|C8 ((p1.Pts.length:Int) - 1))),(27,(di x1.1))],G [((1,u1),some<|.box 39 [(dl M0 p1.Pts)]),((3,u8),some<|.box 253 [(di x1.2.x),(di x1.2.y)])]⟩) (0,(CurveVector.mk 0 0)) () _ hz1 (C9 Z Z) ?_
 intro x1 g2 z2 hz2 ez2
 unfold T7 at hz2
 refine B7<|sv Z<|A1<|A4<|cc Z hz2 (fun c4 hz2=> ?_)<|fun c4 hz2=> ?_
 refine B1<|A4<|A6<|B7<|sv Z<|sv Z<|A1<|A4<|Ic Z fun u12 _=>sq Z<|sl Z G_hit Z<|sv Z<|bs hz2 fun _ hv2 hz2=>sd Z (C7 Z Z hv2 Z)<|sd Z (D5 Z hv2 Z Z)<|sq Z<|sl Z G_hit Z<|sv Z<|sv Z<|bs hz2 fun _ hv3 hz2=>sd Z (C7 Z Z hv3 Z)<|sd Z (D5 Z hv3 Z Z)<|bs hz2 fun v4 hv4 hz2=>B3 Z Z A2 (Nj _ _ _ hv4) (.inl Z) (sm Z<|Bb Z G_hit [(di v4.x),(di v4.y)] Z (A1<|A4<|A5 (s0:=⟨T [(1,(.ptr _ _)),(3,(.ptr _ _)),(4,(.d _)),(5,(.ptr _ _)),(26,(.d _)),(27,(.d _))],G [((1,u1),some<|.box 39 _),((3,u8),some<|.box 253 _),((5,u12),some<|.box 253 _)]⟩) (C9 Z Z) ?_))
 refine B0<|sd Z (A7 Z (gq Z) Z Z)<|sd Z (A7 Z (gq Z) Z Z)<|bs hz2 fun _ hv5 hz2=>B3 Z Z A2 (M6 _ _ _ hv5) (.inl Z) (bs hz2 fun v6 hv6 hz2=>B3 Z Z A2 (Sn _ _ hv6) (.inl Z) (sv Z<|sv Z<|sv Z<|sv Z<|sv Z<|A1<|A4<|A6<|B7<|sv Z<|C1 (.d (bo (!v6.2))) Z Z (sv Z<|A1<|cc Z hz2 (fun c5 hz2=> ?_)<|fun c5 hz2=> ?_)))
 refine B7<|sv Z<|A1<|B5 ?_
 cases hz2
 obtain rfl:=ez2 _ rfl
 refine ⟨nofun,F6 ?_⟩
 rw [bL]at h
 cases h
 exact A9 (.inr Z) (B6 (B4 Z) C6) (.refl _)
 refine B7<|sv Z<|sv Z<|sv Z<|gf Z (fun _=>Z)<|gf Z (vb Z Z Z)<|sd Z (Q5 Z Z<|fun hc=>A3<|L6 hc)<|sv Z<|A1<|cc Z hz2 (fun c6 hz2=> ?_)<|fun c6 hz2=> ?_
 refine A4<|A5 (s0:=⟨T [],G []⟩) (C9 Z Z) ?_
 refine B0<|sv Z<|A1<|B5 ?_
 cases hz2
 obtain rfl:=ez2 _ rfl
 refine ⟨nofun,F6 ?_⟩
 rw [bL]at h
 cases h
 exact A9 (.inr Z) (B6 (B4 Z) C6) (.refl _)
 refine A4<|A5 (s0:=⟨T [(1,(.ptr _ _)),(3,(.ptr _ _)),(4,(.d _)),(5,(.ptr _ _)),(26,(.d _)),(27,(.d _))],G [((1,u1),some<|.box 39 _),((3,u8),some<|.box 253 _),((5,u12),some<|.box 253 _)]⟩) (C9 Z Z) ?_
 refine B0<|sv Z<|sv Z<|sv Z<|gt Z (fun _=>(A7 Z (gq Z) Z Z))<|gt Z (fun _=>(A7 Z (gq Z) Z Z))<|bs hz2 fun v7 hv7 hz2=> ?_
 refine K7 _ (i64 v7) (Q0 Z) (fun w5=>⟨_,[(.d (.agg [(i64 x1.2.x),(i64 x1.2.y)])),(.d (.agg [(i64 v4.x),(i64 v4.y)]))],_,_,(by simp only [A3 w5];rfl),Z,A2,M6 _ _ _<|D7 w5 hv7,(.inl Z)⟩) ?_
 refine gt Z (vb Z Z Z)<|sa Z Z Z<|sv Z<|A1<|cc Z hz2 (fun c7 hz2=> ?_)<|fun c7 hz2=> ?_
 refine B7<|sv Z<|A1<|B5 ?_
 cases hz2
 obtain rfl:=ez2 _ rfl
 refine ⟨nofun,F6 ?_⟩
 rw [bL]at h
 cases h
 exact A9 (.inr Z) (B6 (B4 Z) C6) (.refl _)
 refine B1<|E6<|B0<|sd Z (A7 Z (gq Z) Z Z)<|Bb Z (gq Z) [(di v4.x),(di v4.y)] Z (A1<|E6<|B0<|sv Z<|sv Z<|A1<|F2 ?_)
 cases hz2
 exact ⟨Z,(),(C9 Z Z)⟩
 refine C3 Z ?_
 cases hz2
 obtain rfl:=ez2 _ rfl
 refine ⟨nofun,B9 Z<|U0 ?_⟩
 exact ⟨_,(),Z,(C9 Z Z)⟩
 rintro _ ⟨y1,g1,rfl,q1⟩
 rw [bK]at h
 refine A5 q1<|B7<|sv Z<|A1<|B5 ?_
 cases h
 exact A9 (.inr Z) (B6 (B4 Z) C6) (.refl _)
def Aj (p1:(List Int))(p3:Int)(x1:(Int×Int)):Option (Stp (Int×Int) (Sum Unit Bool)):=
  cond (decide (x1.2< (p1.length:Int))) ((E5 p1 x1.2).bind fun v1=>cond ((decide (v1<x1.1))||(decide (v1≥p3))) (some (.out (.inr false))) (some (.go ((C8 (v1+1)),(C8 (x1.2+1)))))) (some (.out (.inl ())))
def Z2 [Lp](p1:(List Int))(p2:Int)(p3:Int):Option Bool:=
  thenS (loop (Aj p1 p3) (p2,0)) (fun _=>some true) (fun r=>some r)
theorem Kn(p1 p2 p3 r)(h:Z2 p1 p2 p3=some r):PCall prog 171 [(.list (List.map A8 p1)),(i64 p2),(i64 p3)] (bo r):=by
 refine C5 (fk func171 ntmps171 m0 (by with_unfolding_all rfl)) (nl Z) ?_
 unfold Z2 at h
 refine A5 (s0:=⟨T [(0,(.d _)),(1,(.d _)),(2,(.d _))],G []⟩) (C9 Z Z) ?_
 refine B7<|sv Z<|A1<|A4<|B7<|sv Z<|sd Z (D0 Z)<|sv Z<|A1<|js h fun z1 hz1 h=>D2 (fun s=> ∃(y1:Unit) (g1:Unit),z1= .inl y1∧Sb ⟨T [],G []⟩ s) ?_ ?_
 refine A6<|E7 (Aj p1 p3) (fun (x1:(Int×Int)) (g2:Unit)=>⟨T [(1,(di x1.1)),(2,(di p3)),(9,(dl A8 p1)),(10,(di (p1.length:Int))),(11,(di x1.2))],G []⟩) (p2,0) () _ hz1 (C9 Z Z) ?_
 intro x1 g2 z2 hz2 ez2
 unfold Aj at hz2
 refine B7<|sv Z<|A1<|A4<|cc Z hz2 (fun c1 hz2=> ?_)<|fun c1 hz2=> ?_
 refine B1<|A4<|A6<|B7<|bs hz2 fun _ hv1 hz2=>sd Z (C7 Z Z hv1 Z)<|sd Z (D9 Z hv1 Z)<|sv Z<|A1<|A4<|B7<|sv Z<|sv Z<|sv Z<|sv Z<|gf Z (fun _=>Z)<|gf Z (fun _=>Z)<|gf Z (fun w3=>(Q1 (A3 w3) (A3 w3) Z))<|sd Z (Q5 Z Z<|fun hc=>A3<|L6 hc)<|A1<|cc Z hz2 (fun c2 hz2=> ?_)<|fun c2 hz2=> ?_
 refine B7<|sv Z<|A1<|B5 ?_
 cases hz2
 obtain rfl:=ez2 _ rfl
 refine ⟨nofun,F6 ?_⟩
 rw [bL]at h
 cases h
 exact A9 (.inr Z) (B6 (B4 Z) C6) (.refl _)
 refine B1<|B0<|sv Z<|sv Z<|sv Z<|A1<|E6<|B0<|sv Z<|sv Z<|A1<|F2 ?_
 cases hz2
 exact ⟨Z,(),(C9 Z Z)⟩
 refine C3 Z ?_
 cases hz2
 obtain rfl:=ez2 _ rfl
 refine ⟨nofun,B9 Z<|U0 ?_⟩
 exact ⟨_,(),Z,(C9 Z Z)⟩
 rintro _ ⟨y1,g1,rfl,q1⟩
 rw [bK]at h
 refine A5 q1<|B7<|sv Z<|A1<|B5 ?_
 cases h
 exact A9 (.inr Z) (B6 (B4 Z) C6) (.refl _)
def O4 [Lp](p1:RoadsCheck)(x1:Int):Option (Stp Int (Sum Unit Int)):=
  cond (decide (x1< (p1.Map_.Lanes.length:Int))) ((E5 p1.Map_.Lanes x1).bind fun v1=>(Gz v1.Kind).bind fun v2=>cond (v2.1==0) (some (.out (.inr 4))) ((Aa v1.Curve_).bind fun v3=>cond (v3 !=0) (some (.out (.inr v3))) ((S6 v1.Half 200 4000).bind fun v4=>((cond (!(!v4)) (S6 v1.Limit 1 v2.1) (some default))).bind fun v5=>cond ((!v4)||(!v5)) (some (.out (.inr 2))) (cond (decide ((v1.Next.length:Int)>3)) (some (.out (.inr 8))) ((Z2 v1.Next (C8 (x1+1)) (p1.Map_.Lanes.length:Int)).bind fun v6=>cond (!v6) (some (.out (.inr 11))) (some (.go (C8 (x1+1))))))))) (some (.out (.inl ())))
def Q2 [Lp](p1:RoadsCheck):Option Int:=
  thenS (loop (O4 p1) 0) (fun _=>some 0) (fun r=>some r)
theorem Qv(p1 r)(h:Q2 p1=some r):PCall prog 66 [(.agg (L8 p1.Map_))] (i64 r):=by
 refine C5 (fk func66 ntmps66 m0 (by with_unfolding_all rfl)) (nl Z) ?_
 unfold Q2 at h
 refine A5 (s0:=⟨T [(0,(.d _))],G []⟩) (C9 Z Z) ?_
 refine lr<|fun u1 _=>sm Z<|sv Z<|A1<|A4<|B7<|sq Z<|sp Z Z<|sl Z G_hit Z<|sd Z (D0 Z)<|sv Z<|A1<|js h fun z1 hz1 h=>D2 (fun s=> ∃(y1:Unit) (g1:Unit),z1= .inl y1∧Sb ⟨T [],G []⟩ s) ?_ ?_
 refine A6<|E7 (O4 p1) (fun (x1:Int) (g2:Unit)=>⟨T [(1,(.ptr (1,u1) 0)),(11,(dl Dg p1.Map_.Lanes)),(12,(di (p1.Map_.Lanes.length:Int))),(13,(di x1))],G [((1,u1),some<|.box 105 (I7 p1.Map_))]⟩) 0 () _ hz1 (C9 Z Z) ?_
 intro x1 g2 z2 hz2 ez2
 unfold O4 at hz2
 refine B7<|sv Z<|A1<|A4<|cc Z hz2 (fun c1 hz2=> ?_)<|fun c1 hz2=> ?_
 refine B1<|A4<|A6<|lr<|fun u4 _=>sv Z<|bs hz2 fun v1 hv1 hz2=>sd Z (C7 Z Z hv1 Z)<|sd Z (D5 Z hv1 Z Z)<|sm Z<|sv Z<|Bb Z G_hit (Ft v1) Z (A1<|B7<|sq Z<|sl Z G_hit Z<|bs hz2 fun v2 hv2 hz2=>B3 Z Z A2 (Pk _ _ hv2) (.inl Z) (sv Z<|sv Z<|sv Z<|sv Z<|sv Z<|sv Z<|sv Z<|A1<|A4<|A4<|A5 (s0:=⟨T [(1,(.ptr _ _)),(3,(.d _)),(4,(.ptr _ _)),(5,(.d _)),(11,(.d _)),(12,(.d _)),(13,(.d _))],G [((1,u1),some<|.box 105 _),((4,u4),some<|.box 42 _)]⟩) (C9 Z Z) ?_))
 refine B0<|sv Z<|sv Z<|A1<|cc Z hz2 (fun c2 hz2=> ?_)<|fun c2 hz2=> ?_
 refine B7<|sv Z<|A1<|B5 ?_
 cases hz2
 obtain rfl:=ez2 _ rfl
 refine ⟨nofun,F6 ?_⟩
 rw [bL]at h
 cases h
 exact A9 (.inr Z) (B6 (B4 Z) C6) (.refl _)
 refine B1<|A4<|B7<|sq Z<|sd Z (A7 Z (gq Z) Z Z)<|bs hz2 fun _ hv3 hz2=>B3 Z Z A2 (Je _ _ hv3) (.inl Z) (sv Z<|A1<|B7<|sv Z<|sv Z<|A1<|cc Z hz2 (fun c3 hz2=> ?_)<|fun c3 hz2=> ?_)
 refine B7<|sv Z<|sv Z<|A1<|B5 ?_
 cases hz2
 obtain rfl:=ez2 _ rfl
 refine ⟨nofun,F6 ?_⟩
 rw [bL]at h
 cases h
 exact A9 (.inr Z) (B6 (B4 Z) C6) (.refl _)
 refine B1<|A6<|B7<|sq Z<|sl Z (gq Z) Z (bs hz2 fun v4 hv4 hz2=>B3 Z Z A2 (S4 _ _ _ _ hv4) (.inl Z) (C1 (.d (bo (!v4))) Z Z (sv Z<|gp Z (L5 Z) (fun _=>Z) (gf Z (vl Z (gq Z) Z)<|gf Z (fun _=>Z)<|bs hz2 fun v5 hv5 hz2=> ?_))))
 refine K7 _ (bo v5) (L5 Z) (fun w4=>⟨_,[(di v1.Limit),(di 1),(di v2.1)],_,_,(by simp only [A3 w4];rfl),Z,A2,S4 _ _ _ _<|D7 w4 hv5,(.inl Z)⟩) ?_
 refine Ba _ (.d (bo (!v5))) Z (L5 Z) (fun w5=>(by simp only [A3 w5];rfl)) ?_
 refine sd Z (Q5 Z Z<|fun hc=>A3<|L6 hc)<|sv Z<|A1<|cc Z hz2 (fun c4 hz2=> ?_)<|fun c4 hz2=> ?_
 refine A4<|A5 (s0:=⟨T [],G []⟩) (C9 Z Z) ?_
 refine B0<|sv Z<|A1<|B5 ?_
 cases hz2
 obtain rfl:=ez2 _ rfl
 refine ⟨nofun,F6 ?_⟩
 rw [bL]at h
 cases h
 exact A9 (.inr Z) (B6 (B4 Z) C6) (.refl _)
 refine A4<|A5 (s0:=⟨T [(1,(.ptr _ _)),(3,(.d _)),(4,(.ptr _ _)),(11,(.d _)),(12,(.d _)),(13,(.d _))],G [((1,u1),some<|.box 105 _),((4,u4),some<|.box 42 _)]⟩) (C9 Z Z) ?_
 refine B0<|sq Z<|sl Z (gq Z) Z (sd Z (D0 Z)<|sv Z<|sv Z<|A1<|cc Z hz2 (fun c5 hz2=> ?_)<|fun c5 hz2=> ?_)
 refine B7<|sv Z<|A1<|B5 ?_
 cases hz2
 obtain rfl:=ez2 _ rfl
 refine ⟨nofun,F6 ?_⟩
 rw [bL]at h
 cases h
 exact A9 (.inr Z) (B6 (B4 Z) C6) (.refl _)
 refine B7<|sq Z<|sl Z (gq Z) Z (sv Z<|sv Z<|sq Z<|sp Z Z<|sl Z G_hit Z<|sd Z (D0 Z)<|bs hz2 fun v6 hv6 hz2=>B3 Z Z A2 (Kn _ _ _ _ hv6) (.inl Z) (C1 (.d (bo (!v6))) Z Z (sv Z<|A1<|cc Z hz2 (fun c6 hz2=> ?_)<|fun c6 hz2=> ?_)))
 refine A4<|A5 (s0:=⟨T [],G []⟩) (C9 Z Z) ?_
 refine B0<|sv Z<|A1<|B5 ?_
 cases hz2
 obtain rfl:=ez2 _ rfl
 refine ⟨nofun,F6 ?_⟩
 rw [bL]at h
 cases h
 exact A9 (.inr Z) (B6 (B4 Z) C6) (.refl _)
 refine B1<|E6<|E6<|A5 (s0:=⟨T [(1,(.ptr _ _)),(11,(.d _)),(12,(.d _)),(13,(.d _))],G [((1,u1),some<|.box 105 _)]⟩) (C9 Z Z) ?_
 refine B0<|sv Z<|sv Z<|A1<|F2 ?_
 cases hz2
 exact ⟨Z,(),(C9 Z Z)⟩
 refine C3 Z ?_
 cases hz2
 obtain rfl:=ez2 _ rfl
 refine ⟨nofun,B9 Z<|U0 ?_⟩
 exact ⟨_,(),Z,(C9 Z Z)⟩
 rintro _ ⟨y1,g1,rfl,q1⟩
 rw [bK]at h
 refine A5 q1<|B7<|sv Z<|A1<|B5 ?_
 cases h
 exact A9 (.inr Z) (B6 (B4 Z) C6) (.refl _)
def T4 (p1:RoadsCheck)(v1:Lane)(v2:Spot)(x2:Int):Option (Stp Int (Sum Unit Int)):=
  cond (decide (x2< (v1.Next.length:Int))) ((E5 v1.Next x2).bind fun v3=>(E5 p1.Map_.Lanes v3).bind fun v4=>cond (v4.Kind !=v1.Kind) (some (.out (.inr 4))) ((E5 p1.Map_.Lanes v3).bind fun v5=>(E5 v5.Curve_.Pts 0).bind fun v6=>cond (!(v6.X==v2.X&& (v6.Y==v2.Y&&true))) (some (.out (.inr 3))) (some (.go (C8 (x2+1)))))) (some (.out (.inl ())))
def N6 [Lp](p1:RoadsCheck)(x1:Int):Option (Stp Int (Sum Unit Int)):=
  cond (decide (x1< (p1.Map_.Lanes.length:Int))) ((E5 p1.Map_.Lanes x1).bind fun v1=>(E5 v1.Curve_.Pts (C8 ((v1.Curve_.Pts.length:Int) - 1))).bind fun v2=>thenS (loop (T4 p1 v1 v2) 0) (fun _=>some (.go (C8 (x1+1)))) (fun r=>some (.out (.inr r)))) (some (.out (.inl ())))
def P7 [Lp](p1:RoadsCheck):Option Int:=
  thenS (loop (N6 p1) 0) (fun _=>some 0) (fun r=>some r)
theorem Pw(p1 r)(h:P7 p1=some r):PCall prog 67 [(.agg (L8 p1.Map_))] (i64 r):=by
 refine C5 (fk func67 ntmps67 m0 (by with_unfolding_all rfl)) (nl Z) ?_
 unfold P7 at h
 refine A5 (s0:=⟨T [(0,(.d _))],G []⟩) (C9 Z Z) ?_
 refine lr<|fun u1 _=>sm Z<|sv Z<|A1<|A4<|B7<|sq Z<|sp Z Z<|sl Z G_hit Z<|sd Z (D0 Z)<|sv Z<|A1<|js h fun z1 hz1 h=>D2 (fun s=> ∃(y1:Unit) (g1:Unit),z1= .inl y1∧Sb ⟨T [],G []⟩ s) ?_ ?_
 refine A6<|E7 (N6 p1) (fun (x1:Int) (g2:Unit)=>⟨T [(1,(.ptr (1,u1) 0)),(10,(dl Dg p1.Map_.Lanes)),(11,(di (p1.Map_.Lanes.length:Int))),(12,(di x1))],G [((1,u1),some<|.box 105 (I7 p1.Map_))]⟩) 0 () _ hz1 (C9 Z Z) ?_
 intro x1 g2 z2 hz2 ez2
 unfold N6 at hz2
 refine B7<|sv Z<|A1<|A4<|cc Z hz2 (fun c1 hz2=> ?_)<|fun c1 hz2=> ?_
 refine B1<|A4<|A6<|lr<|fun u4 _=>bs hz2 fun v1 hv1 hz2=>sd Z (C7 Z Z hv1 Z)<|sd Z (D5 Z hv1 Z Z)<|sm Z<|Bb Z G_hit (Ft v1) Z (A1<|lr<|fun u5 _=>sq Z<|sq Z<|sl Z G_hit Z<|sq Z<|sp Z Z<|sl Z G_hit Z<|sd Z (D0 Z)<|sv Z<|bs hz2 fun v2 hv2 hz2=>sd Z (C7 Z Z hv2 Z)<|sd Z (D5 Z hv2 Z Z)<|sm Z<|Bb Z G_hit [(di v2.X),(di v2.Y)] Z (A1<|A4<|A5 (s0:=⟨T [(1,(.ptr _ _)),(4,(.ptr _ _)),(5,(.ptr _ _)),(10,(.d _)),(11,(.d _)),(12,(.d _))],G [((1,u1),some<|.box 105 _),((4,u4),some<|.box 42 _),((5,u5),some<|.box 148 _)]⟩) (C9 Z Z) ?_))
 refine B0<|sq Z<|sl Z (gq Z) Z (sd Z (D0 Z)<|sv Z<|A1<|js hz2 fun z3 hz3 hz2=>D2 (fun s=> ∃(y2:Unit) (g3:Unit),z3= .inl y2∧Sb ⟨T [(1,(.ptr (1,u1) 0)),(10,(dl Dg p1.Map_.Lanes)),(11,(di (p1.Map_.Lanes.length:Int))),(12,(di x1))],G [((1,u1),some<|.box 105 (I7 p1.Map_))]⟩ s) ?_ ?_)
 refine A6<|E7 (T4 p1 v1 v2) (fun (x2:Int) (g4:Unit)=>⟨T [(1,(.ptr (1,u1) 0)),(4,(.ptr (4,u4) 0)),(5,(.ptr (5,u5) 0)),(10,(dl Dg p1.Map_.Lanes)),(11,(di (p1.Map_.Lanes.length:Int))),(12,(di x1)),(27,(dl A8 v1.Next)),(28,(di (v1.Next.length:Int))),(29,(di x2))],G [((1,u1),some<|.box 105 (I7 p1.Map_)),((4,u4),some<|.box 42 (Ft v1)),((5,u5),some<|.box 148 [(di v2.X),(di v2.Y)])]⟩) 0 () _ hz3 (C9 Z Z) ?_
 intro x2 g4 z4 hz4 ez4
 unfold T4 at hz4
 refine B7<|sv Z<|A1<|A4<|cc Z hz4 (fun c2 hz4=> ?_)<|fun c2 hz4=> ?_
 refine B1<|A4<|A6<|B7<|bs hz4 fun _ hv3 hz4=>sd Z (C7 Z Z hv3 Z)<|sd Z (D9 Z hv3 Z)<|sv Z<|A1<|A4<|A4<|J2 Z<|sq Z<|sq Z<|sl Z G_hit Z<|sv Z<|bs hz4 fun _ hv4 hz4=>sd Z (C7 Z Z hv4 Z)<|sv Z<|sd Z (D9 Z hv4 Z)<|sq Z<|sl Z (gq Z) Z (sv Z<|A1<|cc Z hz4 (fun c3 hz4=> ?_)<|fun c3 hz4=> ?_)
 refine A4<|A5 (s0:=⟨T [],G []⟩) (C9 Z Z) ?_
 refine B0<|sv Z<|A1<|B5 ?_
 cases hz4
 obtain rfl:=ez4 _ rfl
 refine ⟨nofun,F6 ?_⟩
 rw [bL]at hz2
 cases hz2
 obtain rfl:=ez2 _ rfl
 refine ⟨nofun,F6 ?_⟩
 rw [bL]at h
 cases h
 exact A9 (.inr Z) (B6 (B4 Z) C6) (.refl _)
 refine B1<|A4<|A5 (s0:=⟨T [(1,(.ptr _ _)),(4,(.ptr _ _)),(5,(.ptr _ _)),(7,(.d _)),(10,(.d _)),(11,(.d _)),(12,(.d _)),(27,(.d _)),(28,(.d _)),(29,(.d _))],G [((1,u1),some<|.box 105 _),((4,u4),some<|.box 42 _),((5,u5),some<|.box 148 _)]⟩) (C9 Z Z) ?_
 refine J2 Z<|sq Z<|sq Z<|sl Z G_hit Z<|sv Z<|bs hz4 fun _ hv5 hz4=>sd Z (C7 Z Z hv5 Z)<|sv Z<|sv Z<|sd Z (D9 Z hv5 Z)<|bs hz4 fun v6 hv6 hz4=>sd Z (C7 Z Z hv6 Z)<|sd Z (D5 Z hv6 Z Z)<|sd Z (A7 Z (gq Z) Z Z)<|C1 (.d (bo (!(v6.X==v2.X&& (v6.Y==v2.Y&&true))))) Z Z (A1<|cc Z hz4 (fun c4 hz4=> ?_)<|fun c4 hz4=> ?_)
 refine A4<|A5 (s0:=⟨T [],G []⟩) (C9 Z Z) ?_
 refine B0<|sv Z<|A1<|B5 ?_
 cases hz4
 obtain rfl:=ez4 _ rfl
 refine ⟨nofun,F6 ?_⟩
 rw [bL]at hz2
 cases hz2
 obtain rfl:=ez2 _ rfl
 refine ⟨nofun,F6 ?_⟩
 rw [bL]at h
 cases h
 exact A9 (.inr Z) (B6 (B4 Z) C6) (.refl _)
 refine B1<|E6<|A5 (s0:=⟨T [(1,(.ptr _ _)),(4,(.ptr _ _)),(5,(.ptr _ _)),(10,(.d _)),(11,(.d _)),(12,(.d _)),(27,(.d _)),(28,(.d _)),(29,(.d _))],G [((1,u1),some<|.box 105 _),((4,u4),some<|.box 42 _),((5,u5),some<|.box 148 _)]⟩) (C9 Z Z) ?_
 refine B0<|sv Z<|sv Z<|A1<|F2 ?_
 cases hz4
 exact ⟨Z,(),(C9 Z Z)⟩
 refine C3 Z ?_
 cases hz4
 obtain rfl:=ez4 _ rfl
 refine ⟨nofun,B9 Z<|U0 ?_⟩
 exact ⟨_,(),Z,(C9 Z Z)⟩
 rintro _ ⟨y2,g3,rfl,q1⟩
 rw [bK]at hz2
 refine E6<|A5 q1<|B0<|sv Z<|sv Z<|A1<|F2 ?_
 cases hz2
 exact ⟨Z,(),(C9 Z Z)⟩
 refine C3 Z ?_
 cases hz2
 obtain rfl:=ez2 _ rfl
 refine ⟨nofun,B9 Z<|U0 ?_⟩
 exact ⟨_,(),Z,(C9 Z Z)⟩
 rintro _ ⟨y1,g1,rfl,q2⟩
 rw [bK]at h
 refine A5 q2<|B7<|sv Z<|A1<|B5 ?_
 cases h
 exact A9 (.inr Z) (B6 (B4 Z) C6) (.refl _)
def Bu (p1:Phase):Option Bool:=
  (S6 p1.Ticks 1 10000).bind fun v1=>some (!v1)
theorem Nk(p1 r)(h:Bu p1=some r):PCall prog 173 [(.agg [(i64 p1.Ticks),(.list (List.map A8 p1.Green))])] (bo r):=by
 refine C5 (fk func173 ntmps173 m0 (by with_unfolding_all rfl)) (nl Z) ?_
 unfold Bu at h
 refine A5 (s0:=⟨T [(0,(.d _))],G []⟩) (C9 Z Z) ?_
 refine B7<|sm Z<|sv Z<|A1<|B7<|sq Z<|sl Z G_hit Z<|bs h fun v1 hv1 h=>B3 Z Z A2 (S4 _ _ _ _ hv1) (.inl Z) (C1 (.d (bo (!v1))) Z Z (sv Z<|A1<|B5 ?_))
 cases h
 exact A9 (.inr Z) (B6 (B4 Z) C6) (.refl _)
def G8 (p1:(List Phase))(x1:Int):Option (Stp Int (Sum Unit Int)):=
  cond (decide (x1< (p1.length:Int))) ((E5 p1 x1).bind fun v1=>(Bu v1).bind fun v2=>cond v2 (some (.out (.inr x1))) (some (.go (C8 (x1+1))))) (some (.out (.inl ())))
def F3 [Lp](p1:(List Phase)):Option Int:=
  thenS (loop (G8 p1) 0) (fun _=>some (-1)) (fun r=>some r)
theorem Ao(p1 r)(h:F3 p1=some r):PCall prog 237 [(.list (List.map By p1)),(.fn (.func 173) [] [])] (i64 r):=by
 refine C5 (fk func237 ntmps237 m0 (by with_unfolding_all rfl)) (nl Z) ?_
 unfold F3 at h
 refine A5 (s0:=⟨T [(0,(.d _)),(1,(.d _))],G []⟩) (C9 Z Z) ?_
 refine B7<|sv Z<|A1<|A4<|B7<|sv Z<|sd Z (D0 Z)<|sv Z<|A1<|js h fun z1 hz1 h=>D2 (fun s=> ∃(y1:Unit) (g1:Unit),z1= .inl y1∧Sb ⟨T [],G []⟩ s) ?_ ?_
 refine A6<|E7 (G8 p1) (fun (x1:Int) (g2:Unit)=>⟨T [(0,(dl By p1)),(1,(.d (.fn (.func 173) [] []))),(7,(di (p1.length:Int))),(8,(di x1))],G []⟩) 0 () _ hz1 (C9 Z Z) ?_
 intro x1 g2 z2 hz2 ez2
 unfold G8 at hz2
 refine B7<|sv Z<|A1<|A4<|cc Z hz2 (fun c1 hz2=> ?_)<|fun c1 hz2=> ?_
 refine B1<|A4<|A6<|B7<|sv Z<|sv Z<|A1<|B7<|sv Z<|sv Z<|sv Z<|bs hz2 fun _ hv1 hz2=>sd Z (C7 Z Z hv1 Z)<|sd Z (D5 Z hv1 Z Z)<|bs hz2 fun _ hv2 hz2=>B3 Z Z A2 (Nk _ _ hv2) (.inl Z) (A1<|cc Z hz2 (fun c2 hz2=> ?_)<|fun c2 hz2=> ?_)
 refine B7<|sv Z<|sv Z<|A1<|B5 ?_
 cases hz2
 obtain rfl:=ez2 _ rfl
 refine ⟨nofun,F6 ?_⟩
 rw [bL]at h
 cases h
 exact A9 (.inr Z) (B6 (B4 Z) C6) (.refl _)
 refine B1<|E6<|B0<|sv Z<|sv Z<|A1<|F2 ?_
 cases hz2
 exact ⟨Z,(),(C9 Z Z)⟩
 refine C3 Z ?_
 cases hz2
 obtain rfl:=ez2 _ rfl
 refine ⟨nofun,B9 Z<|U0 ?_⟩
 exact ⟨_,(),Z,(C9 Z Z)⟩
 rintro _ ⟨y1,g1,rfl,q1⟩
 rw [bK]at h
 refine A5 q1<|B7<|sv Z<|A1<|B5 ?_
 cases h
 exact A9 (.inr Z) (B6 (B4 Z) C6) (.refl _)
def D6 [Lp](p1:(List Phase)):Option Bool:=
  (F3 p1).bind fun v1=>some (decide (v1≥0))
theorem Ab(p1 r)(h:D6 p1=some r):PCall prog 172 [(.list (List.map By p1)),(.fn (.func 173) [] [])] (bo r):=by
 refine C5 (fk func172 ntmps172 m0 (by with_unfolding_all rfl)) (nl Z) ?_
 unfold D6 at h
 refine A5 (s0:=⟨T [(0,(.d _)),(1,(.d _))],G []⟩) (C9 Z Z) ?_
 refine B7<|sv Z<|A1<|B7<|sv Z<|sv Z<|bs h fun _ hv1 h=>B3 Z Z A2 (Ao _ _ hv1) (.inl Z) (sv Z<|sv Z<|A1<|B5 ?_)
 cases h
 exact A9 (.inr Z) (B6 (B4 Z) C6) (.refl _)
def P4 [Lp](p1:Phase)(p2:RoadsCheck):Option Bool:=
  (Z2 p1.Green 0 (p2.Map_.Lanes.length:Int)).bind fun v1=>some (!v1)
theorem Mc(p1 p2 r)(h:P4 p1 p2=some r):PCall prog 174 [(.agg [(i64 p1.Ticks),(.list (List.map A8 p1.Green))]),(.bp (L8 p2.Map_) 0)] (bo r):=by
 refine C5 (fk func174 ntmps174 m0 (by with_unfolding_all rfl)) (nl Z) ?_
 unfold P4 at h
 refine A5 (s0:=⟨T [(0,(.d _)),(1,(.d _))],G []⟩) (C9 Z Z) ?_
 refine B7<|sm Z<|sv Z<|A1<|B7<|sq Z<|sl Z G_hit Z<|sv Z<|sv Z<|sv Z<|sd Z (D0 Z)<|bs h fun v1 hv1 h=>B3 Z Z A2 (Kn _ _ _ _ hv1) (.inl Z) (C1 (.d (bo (!v1))) Z Z (sv Z<|A1<|B5 ?_))
 cases h
 exact A9 (.inr Z) (B6 (B4 Z) C6) (.refl _)
def D3 [Lp](p1:(List Phase))(p2:RoadsCheck)(x1:Int):Option (Stp Int (Sum Unit Int)):=
  cond (decide (x1< (p1.length:Int))) ((E5 p1 x1).bind fun v1=>(P4 v1 p2).bind fun v2=>cond v2 (some (.out (.inr x1))) (some (.go (C8 (x1+1))))) (some (.out (.inl ())))
def F1 [Lp](p1:(List Phase))(p2:RoadsCheck):Option Int:=
  thenS (loop (D3 p1 p2) 0) (fun _=>some (-1)) (fun r=>some r)
theorem Ak(p1 p2 r)(h:F1 p1 p2=some r):PCall prog 237 [(.list (List.map By p1)),(.fn (.func 174) [] [(.bp (L8 p2.Map_) 0)])] (i64 r):=by
 refine C5 (fk func237 ntmps237 m0 (by with_unfolding_all rfl)) (nl Z) ?_
 unfold F1 at h
 refine A5 (s0:=⟨T [(0,(.d _)),(1,(.d _))],G []⟩) (C9 Z Z) ?_
 refine B7<|sv Z<|A1<|A4<|B7<|sv Z<|sd Z (D0 Z)<|sv Z<|A1<|js h fun z1 hz1 h=>D2 (fun s=> ∃(y1:Unit) (g1:Unit),z1= .inl y1∧Sb ⟨T [],G []⟩ s) ?_ ?_
 refine A6<|E7 (D3 p1 p2) (fun (x1:Int) (g2:Unit)=>⟨T [(0,(dl By p1)),(1,(.d (.fn (.func 174) [] [(.bp (L8 p2.Map_) 0)]))),(7,(di (p1.length:Int))),(8,(di x1))],G []⟩) 0 () _ hz1 (C9 Z Z) ?_
 intro x1 g2 z2 hz2 ez2
 unfold D3 at hz2
 refine B7<|sv Z<|A1<|A4<|cc Z hz2 (fun c1 hz2=> ?_)<|fun c1 hz2=> ?_
 refine B1<|A4<|A6<|B7<|sv Z<|sv Z<|A1<|B7<|sv Z<|sv Z<|sv Z<|bs hz2 fun _ hv1 hz2=>sd Z (C7 Z Z hv1 Z)<|sd Z (D5 Z hv1 Z Z)<|bs hz2 fun _ hv2 hz2=>B3 Z Z A2 (Mc _ _ _ hv2) (.inl Z) (A1<|cc Z hz2 (fun c2 hz2=> ?_)<|fun c2 hz2=> ?_)
 refine B7<|sv Z<|sv Z<|A1<|B5 ?_
 cases hz2
 obtain rfl:=ez2 _ rfl
 refine ⟨nofun,F6 ?_⟩
 rw [bL]at h
 cases h
 exact A9 (.inr Z) (B6 (B4 Z) C6) (.refl _)
 refine B1<|E6<|B0<|sv Z<|sv Z<|A1<|F2 ?_
 cases hz2
 exact ⟨Z,(),(C9 Z Z)⟩
 refine C3 Z ?_
 cases hz2
 obtain rfl:=ez2 _ rfl
 refine ⟨nofun,B9 Z<|U0 ?_⟩
 exact ⟨_,(),Z,(C9 Z Z)⟩
 rintro _ ⟨y1,g1,rfl,q1⟩
 rw [bK]at h
 refine A5 q1<|B7<|sv Z<|A1<|B5 ?_
 cases h
 exact A9 (.inr Z) (B6 (B4 Z) C6) (.refl _)
def D4 [Lp](p1:(List Phase))(p2:RoadsCheck):Option Bool:=
  (F1 p1 p2).bind fun v1=>some (decide (v1≥0))
theorem Z3(p1 p2 r)(h:D4 p1 p2=some r):PCall prog 172 [(.list (List.map By p1)),(.fn (.func 174) [] [(.bp (L8 p2.Map_) 0)])] (bo r):=by
 refine C5 (fk func172 ntmps172 m0 (by with_unfolding_all rfl)) (nl Z) ?_
 unfold D4 at h
 refine A5 (s0:=⟨T [(0,(.d _)),(1,(.d _))],G []⟩) (C9 Z Z) ?_
 refine B7<|sv Z<|A1<|B7<|sv Z<|sv Z<|bs h fun _ hv1 h=>B3 Z Z A2 (Ak _ _ _ hv1) (.inl Z) (sv Z<|sv Z<|A1<|B5 ?_)
 cases h
 exact A9 (.inr Z) (B6 (B4 Z) C6) (.refl _)
def N0 [Lp](p1:RoadsCheck)(x1:Int):Option (Stp Int (Sum Unit Int)):=
  cond (decide (x1< (p1.Map_.Signals.length:Int))) ((E5 p1.Map_.Signals x1).bind fun v1=>cond ((v1.Phases.length:Int)==0) (some (.out (.inr 6))) (cond (decide ((v1.Phases.length:Int)>6)) (some (.out (.inr 8))) ((S6 v1.Offset 0 1099511627776).bind fun v2=>cond (!v2) (some (.out (.inr 2))) ((D6 v1.Phases).bind fun v3=>cond v3 (some (.out (.inr 2))) ((D4 v1.Phases p1).bind fun v4=>cond v4 (some (.out (.inr 11))) (some (.go (C8 (x1+1))))))))) (some (.out (.inl ())))
def P2 [Lp](p1:RoadsCheck):Option Int:=
  thenS (loop (N0 p1) 0) (fun _=>some 0) (fun r=>some r)
theorem Pb(p1 r)(h:P2 p1=some r):PCall prog 68 [(.agg (L8 p1.Map_))] (i64 r):=by
 refine C5 (fk func68 ntmps68 m0 (by with_unfolding_all rfl)) (nl Z) ?_
 unfold P2 at h
 refine A5 (s0:=⟨T [(0,(.d _))],G []⟩) (C9 Z Z) ?_
 refine lr<|fun u1 _=>sm Z<|sv Z<|A1<|A4<|B7<|sq Z<|sp Z Z<|sl Z G_hit Z<|sd Z (D0 Z)<|sv Z<|A1<|js h fun z1 hz1 h=>D2 (fun s=> ∃(y1:Unit) (g1:Unit),z1= .inl y1∧Sb ⟨T [],G []⟩ s) ?_ ?_
 refine A6<|E7 (N0 p1) (fun (x1:Int) (g2:Unit)=>⟨T [(1,(.ptr (1,u1) 0)),(8,(dl La p1.Map_.Signals)),(9,(di (p1.Map_.Signals.length:Int))),(10,(di x1))],G [((1,u1),some<|.box 105 (I7 p1.Map_))]⟩) 0 () _ hz1 (C9 Z Z) ?_
 intro x1 g2 z2 hz2 ez2
 unfold N0 at hz2
 refine B7<|sv Z<|A1<|A4<|cc Z hz2 (fun c1 hz2=> ?_)<|fun c1 hz2=> ?_
 refine B1<|A4<|A6<|lr<|fun u4 _=>bs hz2 fun v1 hv1 hz2=>sd Z (C7 Z Z hv1 Z)<|sd Z (D5 Z hv1 Z Z)<|sm Z<|Bb Z G_hit [(di v1.Offset),(dl By v1.Phases)] Z (A1<|B7<|sq Z<|sl Z G_hit Z<|sd Z (D0 Z)<|sv Z<|A1<|A6<|B7<|sv Z<|sv Z<|sv Z<|A1<|cc Z hz2 (fun c2 hz2=> ?_)<|fun c2 hz2=> ?_)
 refine B7<|sv Z<|A1<|B5 ?_
 cases hz2
 obtain rfl:=ez2 _ rfl
 refine ⟨nofun,F6 ?_⟩
 rw [bL]at h
 cases h
 exact A9 (.inr Z) (B6 (B4 Z) C6) (.refl _)
 refine B7<|sv Z<|sv Z<|sv Z<|A1<|cc Z hz2 (fun c3 hz2=> ?_)<|fun c3 hz2=> ?_
 refine B7<|sv Z<|A1<|B5 ?_
 cases hz2
 obtain rfl:=ez2 _ rfl
 refine ⟨nofun,F6 ?_⟩
 rw [bL]at h
 cases h
 exact A9 (.inr Z) (B6 (B4 Z) C6) (.refl _)
 refine B7<|sq Z<|sl Z G_hit Z<|bs hz2 fun v2 hv2 hz2=>B3 Z Z A2 (S4 _ _ _ _ hv2) (.inl Z) (C1 (.d (bo (!v2))) Z Z (sv Z<|A1<|cc Z hz2 (fun c4 hz2=> ?_)<|fun c4 hz2=> ?_))
 refine A4<|A5 (s0:=⟨T [],G []⟩) (C9 Z Z) ?_
 refine B0<|sv Z<|A1<|B5 ?_
 cases hz2
 obtain rfl:=ez2 _ rfl
 refine ⟨nofun,F6 ?_⟩
 rw [bL]at h
 cases h
 exact A9 (.inr Z) (B6 (B4 Z) C6) (.refl _)
 refine A4<|A5 (s0:=⟨T [(1,(.ptr _ _)),(4,(.ptr _ _)),(8,(.d _)),(9,(.d _)),(10,(.d _))],G [((1,u1),some<|.box 105 _),((4,u4),some<|.box 48 _)]⟩) (C9 Z Z) ?_
 refine B0<|sq Z<|sl Z (gq Z) Z (bs hz2 fun _ hv3 hz2=>B3 Z Z A2 (Ab _ _ hv3) (.inl Z) (sv Z<|A1<|cc Z hz2 (fun c5 hz2=> ?_)<|fun c5 hz2=> ?_))
 refine B7<|sv Z<|A1<|B5 ?_
 cases hz2
 obtain rfl:=ez2 _ rfl
 refine ⟨nofun,F6 ?_⟩
 rw [bL]at h
 cases h
 exact A9 (.inr Z) (B6 (B4 Z) C6) (.refl _)
 refine B7<|sq Z<|sl Z (gq Z) Z (C1 (.fn _ _ _) Z Z (bs hz2 fun _ hv4 hz2=>B3 Z (rD<|L9 (Qq I0<|L9 (Fq G_hit<|rD<|rD<|rD<|rD<|rD I0) I0) I0) A2 (Z3 _ _ _ hv4) (.inr Z) (sv Z<|A1<|cc Z hz2 (fun c6 hz2=> ?_)<|fun c6 hz2=> ?_)))
 refine B7<|sv Z<|A1<|B5 ?_
 cases hz2
 obtain rfl:=ez2 _ rfl
 refine ⟨nofun,F6 ?_⟩
 rw [bL]at h
 cases h
 exact A9 (.inr Z) (B6 (B4 Z) C6) (.refl _)
 refine B1<|E6<|E6<|B0<|sv Z<|sv Z<|A1<|F2 ?_
 cases hz2
 exact ⟨Z,(),(C9 Z Z)⟩
 refine C3 Z ?_
 cases hz2
 obtain rfl:=ez2 _ rfl
 refine ⟨nofun,B9 Z<|U0 ?_⟩
 exact ⟨_,(),Z,(C9 Z Z)⟩
 rintro _ ⟨y1,g1,rfl,q1⟩
 rw [bK]at h
 refine A5 q1<|B7<|sv Z<|A1<|B5 ?_
 cases h
 exact A9 (.inr Z) (B6 (B4 Z) C6) (.refl _)
/-- kerbstone/curve.pieces$1 -/
def Mz:AC:=(.seq (.reg [oo 3 (.mv (ci 0))]) (.seq (.reg [oo 8 (.fieldA 0 (.t 1)),oo 9 (.load 1 false (.t 8)),oo 10 (.len (.t 9)),oo 11 (.bin .sub (.t 10) (ci 1)),oo 12 (.mv (ci 0))]) (.block 0 (.loop (.seq (.reg [oo 13 (.bin .lss (.t 12) (.t 11))]) (.seq (.cond (.t 13) .skip (.exit 0)) (.seq (.block 1 (.seq (.reg [oo 14 (.mv (.t 12)),oo 4 (.mv (.t 14))]) (.seq (.draw [oo 15 (.fieldA 0 (.t 1)),oo 16 (.load 1 false (.t 15)),oo 17 (.mv (.t 4)),oo 18 (.idxS 2 (.t 16) (.t 17)),oo 19 (.load 2 true (.t 18)),oo 20 (.fieldA 0 (.t 1)),oo 21 (.load 1 false (.t 20)),oo 22 (.mv (.t 4)),oo 23 (.bin .add (.t 22) (ci 1)),oo 24 (.idxS 2 (.t 21) (.t 23)),oo 25 (.load 2 true (.t 24)),oo 26 (.call (cf 234) [(.t 19),(.t 25)]),oo 5 (.alloc 253 [z0,z0]),oe (.store 2 (.t 5) (.t 26))] []) (.seq (.reg [oo 28 (.load 2 true (.t 5)),oo 29 (.load 2 true (.t 5)),oo 30 (.call (cf 236) [(.t 28),(.t 29)]),oo 31 (.call (cf 235) [(.t 30)]),oo 27 (.mv (.t 31)),oo 32 (.ext (.t 27) 0),oo 33 (.ext (.t 27) 1),oo 6 (.mv (.t 32)),oo 7 (.mv (.t 33))]) (.seq (.seq (.drawB [oo 34 (.mv (.t 0)),oo 35 (.mv (.t 4)),oo 36 (.fieldA 0 (.t 1)),oo 37 (.load 1 false (.t 36)),oo 38 (.mv (.t 4)),oo 39 (.idxS 2 (.t 37) (.t 38)),oo 40 (.load 2 true (.t 39)),oo 41 (.load 2 true (.t 5)),oo 42 (.mv (.t 6)),oo 43 (.mv (.t 3)),oo 44 (.build [z0,z0,z0,z0,z0,z0] [(0,2,(.t 40)),(2,2,(.t 41)),(4,1,(.t 42)),(5,1,(.t 43))]),oo 45 (.icall (.t 34) [(.t 35),(.t 44)]),oo 46 (.un .not (.t 45))] 11 []) (.cond (.t 46) .ret .skip)) (.reg [oo 47 (.mv (.t 3)),oo 48 (.mv (.t 6)),oo 49 (.bin .add (.t 47) (.t 48)),oo 3 (.mv (.t 49))])))))) (.reg [oo 50 (.bin .add (.t 12) (ci 1)),oo 12 (.mv (.t 50))]))))))))
theorem Vb:FnOK prog 271 51 [] Mz:=⟨_,_,func271,rfl,ntmps271,by kernel_rfl,⟨fun r=>if r==6 then [11]else [],by kernel_rfl⟩,by kernel_rfl⟩
/-- The pieces of a chain of points, from a number on. -/
def Eo [Lp](pts:List Spot):Nat→Nat→Int→Option (List (Int×CurvePiece))
  |0,_,_=>some []
  |n+1,i,start=>(pts[i]?).bind fun p=>(pts[i+1]?).bind fun q=>(Ie p q).bind fun v=>(K8 v v).bind fun d=>(Cz d).bind fun r=>
   (Eo pts n (i+1) (C8 (start+r.1))).bind fun l=>some (((i:Int),CurvePiece.mk p v r.1 start)::l)
def Ha [Lp](pts:List Spot):Option (List (Int×CurvePiece)):=if pts.length≤1000000 then Eo pts (pts.length - 1) 0 0 else none
/-- kerbstone/curve.pieces -/
def Pl:AC:=(.seq (.reg [oo 1 (.box 39 true (.t 0)),oo 2 (.mv (.c (.v .nilFunc)))]) (.seq (.reg [oo 3 (.mkfn (.func 271) [] [(.t 1)]),oo 2 (.mv (.t 3))]) .ret))
theorem Xy:FnOK prog 257 4 [.t 2] Pl:=⟨_,_,func257,rfl,ntmps257,by kernel_rfl,⟨fun _=> [],by kernel_rfl⟩,by kernel_rfl⟩
abbrev We (a:Int×CurvePiece):List D:= [i64 a.1, .agg [i64 a.2.p.X,i64 a.2.p.Y,i64 a.2.v.x,i64 a.2.v.y,i64 a.2.l,i64 a.2.start]]
theorem Qw (c:Curve):PCall prog 257 [.agg [.list (List.map M0 c.Pts)]] (.fn (.func 271) [] [.bp [.list (List.map M0 c.Pts)] 0]):=by
  refine PG Xy (by simp) ?_
  unfold Pl
  refine Ju<|Nh fun _ _=> ?_
  refine JK (.ptr _ _) _ Z Z ?_
  refine O2 (.d _) Z Z ?_
  refine Iy ?_
  refine Ju<|Nh fun u' hu'=> ?_
  refine O2 (.fn _ _ _) Z Z ?_
  refine O2 (.fn _ _ _) Z Z ?_
  refine Iy ?_
  refine JG ⟨.inr Z,?_⟩
  refine B6 (B4 (v:= .fn _ _ _) Z) ?_
  exact Qq I0<|L9 (Fq (by simp only [W3,if_true];rfl)<|L9 C6 I0) I0
theorem QS (ps:List Spot)(n:Int)(i:Nat)(p:Spot)(hn:n=i)(h:ps[i]? =some p):(List.map M0 ps)[n.toNat]? =some (M0 p):=by
  subst hn
  rw [bM,lI,h];rfl
theorem JY {n:Int}(h: -9223372036854775808≤n∧n≤9223372036854775807):C8 n=n:=Go.IntWalk.i64_in n h
theorem Xz (pts:List Spot): ∀n i s L,Eo pts n i s=some L→L.length=n:=by
  intro n
  induction n with
  |zero=>intro i s L h;cases h;rfl
  |succ n ih=>
   intro i s L h
   rw [Eo]at h
   obtain ⟨p,hp,h⟩:=bind_some h
   obtain ⟨q,hq,h⟩:=bind_some h
   obtain ⟨v,hv,h⟩:=bind_some h
   obtain ⟨d,hd,h⟩:=bind_some h
   obtain ⟨r,hr,h⟩:=bind_some h
   obtain ⟨l,hl,h⟩:=bind_some h
   cases h
   rw [lJ,ih _ _ _ hl]
theorem Qx {pts:List Spot}{L:List (Int×CurvePiece)}(h:Ha pts=some L):PX prog (.fn (.func 271) [] [.bp [.list (List.map M0 pts)] 0]) (L.map We):=by
  unfold Ha at h
  split at h
  case isFalse=>cases h
  rename_i hlen
  refine ⟨271,[],_,Z,?_⟩
  intro k h0 Inv Stop hi0 hy
  refine PF Vb (by simp) ?_
  unfold Mz
  refine Ju<|Nh fun u hu=> ?_
  refine O2 (.d _) Z Z ?_
  refine Iy ?_
  refine Ju<|Nh fun u hu=> ?_
  refine O2 (.d _) Z Z ?_
  refine O2 (.d _) Z Z ?_
  refine O2 (.d (i64 pts.length)) Z (D0 (f:=M0) Z) ?_
  refine O2 (.d _) Z Z ?_
  refine O2 (.d _) Z Z ?_
  refine Iy ?_
  refine Zt ?_
  refine PJ (α:=Nat×Int×D8) (fun x=>⟨T [(0, .yld k),(1, .d (.bp [.list (List.map M0 pts)] 0)),(3, .d (i64 x.2.1)),(11, .d (i64<|C8 (pts.length - 1))),(12, .d (i64 x.1))],x.2.2⟩) (fun x=>pts.length - x.1)
    (fun x=>Inv x.1 x.2.2∧x.1≤pts.length - 1∧Eo pts (pts.length - 1 - x.1) x.1 x.2.1=some (L.drop x.1)) (0,0,h0) ⟨hi0,by omega,h⟩ (PQ ⟨rfl,rfl,rfl,rfl,rfl,trivial⟩ fun _ _ h=>h) ?_
  rintro ⟨i,start,hh⟩ ⟨hinv,hi,hgo⟩
  dsimp only at hinv hi hgo ⊢
  refine Ju<|Nh fun u hu=> ?_
  refine O2 (.d _) Z Z ?_
  refine Iy ?_
  refine Ju ?_
  refine PK Z (fun hlt=> ?_)<|fun hlt=> ?_
  ·refine EP ?_
   have hlen1:C8 ((pts.length:Int) - 1)=pts.length - 1:=JY (by omega)
   rw [hlen1]at hlt
   have hi1:i+1<pts.length:=by omega
   have hw1:IntKind.i64.wrap ((i:Int)+1)=(i:Int)+1:=JY (by omega)
   obtain ⟨m,hm⟩: ∃m,pts.length - 1 - i=m+1:=⟨pts.length - 1 - i - 1,by omega⟩
   rw [hm,Eo]at hgo
   obtain ⟨p,hp,hgo⟩:=bind_some hgo
   obtain ⟨q,hq,hgo⟩:=bind_some hgo
   obtain ⟨v,hv,hgo⟩:=bind_some hgo
   obtain ⟨d,hd,hgo⟩:=bind_some hgo
   obtain ⟨r,hr,hgo⟩:=bind_some hgo
   obtain ⟨l,hl,hgo⟩:=bind_some hgo
   have hgo:((i:Int),CurvePiece.mk p v r.1 start)::l=L.drop i:=lC hgo
   have hLi:L[i]? =some ((i:Int),CurvePiece.mk p v r.1 start):=by
     have:=congrArg (fun z=>z[0]?) hgo
     simpa using this.symm
   have hLd:L.drop (i+1)=l:=by
     have:=congrArg (fun z=>z.drop 1) hgo
     simpa using this.symm
   have hin: ∀(p:Spot) (n:Int) (j:Nat),n=j→pts[j]? =some p→(List.map M0 pts)[n.toNat]? =some (M0 p):=fun p n j=>QS pts n j p
   refine Ju ?_
   refine Zt ?_
   refine Ju<|Nh fun u hu=> ?_
   refine O2 (.d _) Z Z ?_
   refine O2 (.d _) Z Z ?_
   refine Iy ?_
   refine Ju<|LD Z fun u hu=> ?_
   refine O2 (.d _) Z Z ?_
   refine O2 (.d _) Z Z ?_
   refine O2 (.d _) Z Z ?_
   refine JL _ _ _ _ Z Z (Int.natCast_nonneg i) (hin p _ i Z hp) Z ?_
   refine Wa _ _ _ _ _ Z (hin p _ i Z hp) (by simp) Z ?_
   refine O2 (.d _) Z Z ?_
   refine O2 (.d _) Z Z ?_
   refine O2 (.d _) Z Z ?_
   refine O2 (.d _) Z Z ?_
   refine JL _ _ _ _ Z Z (by rw [hw1];omega) (hin q _ (i+1) (by rw [hw1];rfl) hq) Z ?_
   refine Wa _ _ _ _ _ Z (hin q _ (i+1) (by rw [hw1];rfl) hq) (by simp) Z ?_
   refine Yq Z Z (Nj p q _ hv) (.inl Z) ?_
   refine JK (.ptr _ _) _ Z Z ?_
   refine GR _ _ _ _ _ Z Z Z (by simp only [W3,if_true];rfl) (by simp) ?_
   refine Iy ?_
   refine Ju<|Nh fun u' hu'=> ?_
   refine Zx _ _ _ _ (.d (.agg [i64 v.x,i64 v.y])) Z (by simp only [W3,if_true];rfl) (by simp [Hj]) Z ?_
   refine Zx _ _ _ _ (.d (.agg [i64 v.x,i64 v.y])) Z (by simp only [W3,if_true];rfl) (by simp [Hj]) Z ?_
   refine Yq Z Z (M6 v v _ hd) (.inl Z) ?_
   refine Yq Z Z (Sn d _ hr) (.inl Z) ?_
   refine O2 (.d _) Z Z ?_
   refine O2 (.d _) Z Z ?_
   refine O2 (.d _) Z Z ?_
   refine O2 (.d _) Z Z ?_
   refine O2 (.d _) Z Z ?_
   refine Iy ?_
   refine Ju<|Ju ?_
   refine PE Z fun _ _=> ?_
   simp only [List.take,List.drop]
   refine O2 (.yld _) Z Z ?_
   refine O2 (.d _) Z Z ?_
   refine O2 (.d _) Z Z ?_
   refine O2 (.d _) Z Z ?_
   refine O2 (.d _) Z Z ?_
   refine JL _ _ _ _ Z Z (Int.natCast_nonneg i) (hin p _ i Z hp) Z ?_
   refine Wa _ _ _ _ _ Z (hin p _ i Z hp) (by simp) Z ?_
   refine Zx _ _ _ _ (.d (.agg [i64 v.x,i64 v.y])) Z (by simp only [W3,if_true];rfl) (by simp [Hj]) Z ?_
   refine O2 (.d _) Z Z ?_
   refine O2 (.d _) Z Z ?_
   refine O2 (.d _) Z Z ?_
   refine Iy ?_
   intro u3 hu3
   refine PR k ((We ((i:Int),CurvePiece.mk p v r.1 start)).map .d) Z Z ?_
   refine YCall.weak (LG hu<|LG hu fun _ _ h=>h) ((hy i hh _ (by rw [lI,hLi];rfl) hinv).mono ?_)
   rintro v' h' (⟨rfl,hin⟩|⟨rfl,hst⟩)
   ·intro u4 hu4
    refine O2 (.d _) Z Z ?_
    refine Iy ?_
    refine Us (t:=false) Z (fun h=>by cases h) (fun _=> ?_)
    refine EP ?_
    refine Nh fun u hu=> ?_
    refine O2 (.d _) Z Z ?_
    refine O2 (.d _) Z Z ?_
    refine O2 (.d _) Z Z ?_
    refine O2 (.d _) Z Z ?_
    refine Iy ?_
    refine Nh fun u hu=> ?_
    refine O2 (.d _) Z Z ?_
    refine O2 (.d _) Z Z ?_
    refine Iy ?_
    refine ⟨(i+1,C8 (start+r.1),h'),⟨hin,by dsimp only;omega,?_⟩,by dsimp only;omega,PQ ⟨rfl,rfl,rfl,rfl,?_,trivial⟩ fun _ _ h=>h⟩
    ·dsimp only
     rw [hLd,show pts.length - 1 - (i+1)=m by omega];exact hl
    ·show AV.d (i64 (IntKind.i64.wrap ((i:Int)+1)))=_
     rw [hw1];rfl
   ·intro u4 hu4
    refine O2 (.d _) Z Z ?_
    refine Iy ?_
    refine Us (t:=true) Z (fun _=> ?_) (fun h=>by cases h)
    refine JG ?_
    dsimp only
    exact ⟨Or.inr trivial,AV.tup [],Z,Or.inr hst⟩
  ·refine EQ ?_
   have hlen1:1≤pts.length→C8 ((pts.length:Int) - 1)=pts.length - 1:=fun _=>JY (by omega)
   have:i=pts.length - 1:=by
     by_cases h:1≤pts.length
     ·rw [hlen1 h]at hlt;omega
     ·omega
   subst this
   rw [Nat.sub_self,Eo]at hgo
   have hL:(L.map We).length=pts.length - 1:=by
     have h1:L.drop (pts.length - 1)= []:=(lC hgo).symm
     have h2:=List.drop_eq_nil_iff.1 h1
     rw [lO]
     refine Nat.le_antisymm h2 ?_
     exact Nat.le_of_eq (Xz _ _ _ _ _ h).symm
   exact ⟨.inl Z,_,Z, .inl (by rw [hL];exact hinv)⟩
def Cb (x1:(List Int))(a1:(Int×CurvePiece)):Option (Stp (List Int) (List Int)):=
  (Cj x1 [a1.2.l]).bind fun v3=>some (.go v3)
def Ck [Lp](p1:Curve):Option (List Int):=
  (Aa p1).bind fun v1=>cond (v1 !=0) (some []) (((Ha p1.Pts).bind fun v2=>loopL (Cb) (fun (x1:(List Int))=>x1) v2 []).bind fun y1=>some y1)
theorem Ya(p1 r)(h:Ck p1=some r):PCall prog 268 [(.agg [(.list (List.map M0 p1.Pts))])] (.list (List.map A8 r)):=by
 refine C5 (fk func268 ntmps268 (fun r=>if r==6 then [1003]else []) (by with_unfolding_all rfl)) (nl Z) ?_
 unfold Ck at h
 refine A5 (s0:=⟨T [(0,(.d _))],G []⟩) (C9 Z Z) ?_
 refine B7<|sm Z<|sv Z<|A1<|A4<|B7<|sd Z (A7 Z G_hit Z Z)<|bs h fun _ hv1 h=>B3 Z Z A2 (Je _ _ hv1) (.inl Z) (sv Z<|A1<|cc Z h (fun c1 h=> ?_)<|fun c1 h=> ?_)
 refine B7<|sv Z<|A1<|B5 ?_
 cases h
 exact A9 (.inr Z) (B6 (B4 Z) C6) DLe.nil
 refine B1<|lr<|fun u4 _=>sm Z<|A1<|A4<|B7<|sd Z (A7 Z (gq Z) Z Z)<|B3 Z Z A2 (Qw p1) (.inl Z) (A1<|bs h fun y1 hy1 h=>D2 (fun s=> ∃g1:Nat,Sb ⟨T [(3,(.ptr (3,u4) 0))],G [((3,u4),some<|.box 75 [(oS y1 (17,g1))]),((17,g1),oB 2 1 A8 y1)]⟩ s) ?_ ?_)
 refine A6<|bs hy1 fun v2 hv2 hy1=>A5 (s0:=⟨T [(3,(.ptr _ _)),(10,(.d _))],G [((3,u4),some<|.box 75 _)]⟩) (C9 Z Z) ?_
 refine AF (.fn (.func 271) [] [(.bp [(.list (List.map M0 p1.Pts))] 0)]) We v2 (Cb) (fun (x1:(List Int))=>x1) (fun (x1:(List Int)) (g2:Nat)=> [((3,u4),some<|.box 75 [(oS x1 (17,g2))]),((17,g2),oB 2 1 A8 x1)]) [] 0 _ Z (Qx hv2) (fun _=>Z) hy1 (C0 trivial<|B2 G_hit (.of Z)<|U9 trivial) nofun ?_ ?_
 intro u7 hu7 hku7
 refine ⟨fun x1 g2=>(N4 Z<|N4 Z Z),?_⟩
 intro r1 x1 g2 a1 z1 hrr1 hz1 ez1
 unfold Cb at hz1
 show Dw _ _ _ _ _ _ ⟨T [(12,(.d (.agg (Qt a1.2)))),(11,(di a1.1)),(3,(.ptr (3,u4) 0)),(10,(.d (.fn (.func 271) [] [(.bp [(.list (List.map M0 p1.Pts))] 0)])))],G [((1000000,u7),some (.obj (T [(3,(.ptr (3,u4) 0)),(10,(.d (.fn (.func 271) [] [(.bp [(.list (List.map M0 p1.Pts))] 0)])))]) r1)),((3,u4),some (.box 75 [(oS x1 (17,g2))])),((17,g2),oB 2 1 A8 x1)]⟩
 refine B0<|sm Z<|Bb Z G_hit (R3 a1.2) Z (A1<|U0<|JR (gq Z) ?_)
 refine A6<|Bw fun u9 _=>C1 (oS x1 (17,g2)) Z (Fr Z (gq Z) Z) (sq Z<|sl Z (gq Z) Z (C1 (dl A8 [a1.2.l]) Z Z (bs hz1 fun _ hv3 hz1=>N9 A8 (17,g2) x1 a1.2.l [] _ (J7<|fun _=>Z) Z (gq Z) hv3 (Bb Z (gq Z) [(.sl (17,u9))] Z (A1<|E6<|F2 ?_)))))
 cases hz1
 exact JS (gq Z) u9 (B2 G_hit (.box (.cons (.of (Dy<|T1 hv3).symm) .nil))<|U8 (gq Z) trivial)
 rintro x1 g2 _ rfl qx1
 refine E6<|U0 ?_
 exact ⟨g2,(Sb.after qx1<|C0 ⟨.of Z,trivial⟩<|B2 G_hit (.of Z)<|C2 (gq Z) trivial)⟩
 rintro _ ⟨g1,q1⟩
 refine A5 q1<|B7<|C1 (oS y1 (17,g1)) Z (Fr Z G_hit Z) (C1 (oS y1 (17,g1)) Z Z (A1<|B5 ?_))
 cases h
 exact A9 (.inr Z) (B6 (B4 Z)<|Ea<|gq Z) Dz
def W5 (v1:(List Int))(x1:(Int×Int)):Option (Stp (Int×Int) Int):=
  cond (decide (x1.2< (v1.length:Int))) ((E5 v1 x1.2).bind fun v2=>some (.go ((C8 (x1.1+v2)),(C8 (x1.2+1))))) (some (.out x1.1))
def Cl [Lp](p1:Curve):Option Int:=
  (Ck p1).bind fun v1=>(loop (W5 v1) (0,0)).bind fun y1=>some y1
theorem Yb(p1 r)(h:Cl p1=some r):PCall prog 232 [(.agg [(.list (List.map M0 p1.Pts))])] (i64 r):=by
 refine C5 (fk func232 ntmps232 m0 (by with_unfolding_all rfl)) (nl Z) ?_
 unfold Cl at h
 refine A5 (s0:=⟨T [(0,(.d _))],G []⟩) (C9 Z Z) ?_
 refine B7<|sm Z<|sv Z<|A1<|B7<|sv Z<|A1<|A4<|B7<|sd Z (A7 Z G_hit Z Z)<|bs h fun v1 hv1 h=>B3 Z Z A2 (Ya _ _ hv1) (.inl Z) (sd Z (D0 Z)<|sv Z<|A1<|bs h fun y1 hy1 h=>D2 (fun s=> ∃g1:Unit,Sb ⟨T [(3,(di y1))],G []⟩ s) ?_ ?_)
 refine A6<|E7 (W5 v1) (fun (x1:(Int×Int)) (g2:Unit)=>⟨T [(3,(di x1.1)),(7,(dl A8 v1)),(8,(di (v1.length:Int))),(9,(di x1.2))],G []⟩) (0,0) () _ hy1 (C9 Z Z) ?_
 intro x1 g2 z1 hz1 ez1
 unfold W5 at hz1
 refine B7<|sv Z<|A1<|A4<|cc Z hz1 (fun c1 hz1=> ?_)<|fun c1 hz1=> ?_
 refine B1<|A4<|A6<|B7<|bs hz1 fun _ hv2 hz1=>sd Z (C7 Z Z hv2 Z)<|sd Z (D9 Z hv2 Z)<|sv Z<|A1<|B0<|sv Z<|sv Z<|sv Z<|sv Z<|A1<|E6<|B0<|sv Z<|sv Z<|A1<|F2 ?_
 cases hz1
 exact ⟨Z,(),(C9 Z Z)⟩
 refine C3 Z ?_
 cases hz1
 obtain rfl:=ez1 _ rfl
 refine ⟨nofun,B9 Z<|U0 ?_⟩
 exact ⟨(),(C9 Z Z)⟩
 rintro _ ⟨g1,q1⟩
 refine A5 q1<|B7<|sv Z<|sv Z<|A1<|B5 ?_
 cases h
 exact A9 (.inr Z) (B6 (B4 Z) C6) (.refl _)
def V4 [Lp](p1:Map)(p2:Int):Option Int:=
  (E5 p1.Lanes p2).bind fun v1=>(Cl v1.Curve_).bind fun v2=>some v2
theorem Fg(p1 p2 r)(h:V4 p1 p2=some r):PCall prog 165 [(.agg (L8 p1)),(i64 p2)] (i64 r):=by
 refine C5 (fk func165 ntmps165 m0 (by with_unfolding_all rfl)) (nl Z) ?_
 unfold V4 at h
 refine A5 (s0:=⟨T [(0,(.d _)),(1,(.d _))],G []⟩) (C9 Z Z) ?_
 refine B7<|sm Z<|sv Z<|A1<|B7<|sq Z<|sl Z G_hit Z<|sv Z<|bs h fun _ hv1 h=>sd Z (C7 Z Z hv1 Z)<|sv Z<|sd Z (D5 Z hv1 Z Z)<|bs h fun _ hv2 h=>B3 Z Z A2 (Yb _ _ hv2) (.inl Z) (sv Z<|A1<|B5 ?_)
 cases h
 exact A9 (.inr Z) (B6 (B4 Z) C6) (.refl _)
def O5 [Lp](p1:RoadsCheck)(v1:Zone)(x3:Int):Option (Stp Int (Sum Unit Int)):=
  cond (decide (x3< (v1.Parts.length:Int))) ((E5 v1.Parts x3).bind fun v5=>((cond (!((decide (v5.From<0))||(decide (v5.From≥v5.To)))) (V4 p1.Map_ v5.Lane_) (some default))).bind fun v6=>cond (((((decide (v5.From<0))||(decide (v5.From≥v5.To)))||(decide (v5.To>v6)))||(decide (v5.Rank<0)))||(decide (v5.Rank>100))) (some (.out (.inr 2))) (some (.go (C8 (x3+1))))) (some (.out (.inl ())))
def Cm (v1:Zone)(x2:((List Int)×Int)):Option (Stp ((List Int)×Int) (List Int)):=
  cond (decide (x2.2< (v1.Parts.length:Int))) ((E5 v1.Parts x2.2).bind fun v2=>(Cj x2.1 [v2.Lane_]).bind fun v3=>some (.go (v3,(C8 (x2.2+1))))) (some (.out x2.1))
def O6 [Lp](p1:RoadsCheck)(x1:Int):Option (Stp Int (Sum Unit Int)):=
  cond (decide (x1< (p1.Map_.Zones.length:Int))) ((E5 p1.Map_.Zones x1).bind fun v1=>cond (decide ((v1.Parts.length:Int)<2)) (some (.out (.inr 6))) (cond (decide ((v1.Parts.length:Int)>6)) (some (.out (.inr 8))) (cond ((decide (v1.Signal_<0))||(decide (v1.Signal_>(p1.Map_.Signals.length:Int)))) (some (.out (.inr 2))) ((loop (Cm v1) ([],0)).bind fun y2=>(Z2 y2 0 (p1.Map_.Lanes.length:Int)).bind fun v4=>cond (!v4) (some (.out (.inr 11))) (thenS (loop (O5 p1 v1) 0) (fun _=>some (.go (C8 (x1+1)))) (fun r=>some (.out (.inr r)))))))) (some (.out (.inl ())))
def Q3 [Lp](p1:RoadsCheck):Option Int:=
  thenS (loop (O6 p1) 0) (fun _=>some 0) (fun r=>some r)
theorem Qy(p1 r)(h:Q3 p1=some r):PCall prog 69 [(.agg (L8 p1.Map_))] (i64 r):=by
 refine C5 (fk func69 ntmps69 (fun r=>if r==15 then [1003]else []) (by with_unfolding_all rfl)) (nl Z) ?_
 unfold Q3 at h
 refine A5 (s0:=⟨T [(0,(.d _))],G []⟩) (C9 Z Z) ?_
 refine lr<|fun u1 _=>sm Z<|sv Z<|A1<|A4<|B7<|sq Z<|sp Z Z<|sl Z G_hit Z<|sd Z (D0 Z)<|sv Z<|A1<|js h fun z1 hz1 h=>D2 (fun s=> ∃(y1:Unit) (g1:Unit),z1= .inl y1∧Sb ⟨T [],G []⟩ s) ?_ ?_
 refine A6<|E7 (O6 p1) (fun (x1:Int) (g2:Unit)=>⟨T [(1,(.ptr (1,u1) 0)),(13,(dl Q9 p1.Map_.Zones)),(14,(di (p1.Map_.Zones.length:Int))),(15,(di x1))],G [((1,u1),some<|.box 105 (I7 p1.Map_))]⟩) 0 () _ hz1 (C9 Z Z) ?_
 intro x1 g2 z2 hz2 ez2
 unfold O6 at hz2
 refine B7<|sv Z<|A1<|A4<|cc Z hz2 (fun c1 hz2=> ?_)<|fun c1 hz2=> ?_
 refine B1<|A4<|A6<|lr<|fun u4 _=>bs hz2 fun v1 hv1 hz2=>sd Z (C7 Z Z hv1 Z)<|sd Z (D5 Z hv1 Z Z)<|sm Z<|Bb Z G_hit [(dl H9 v1.Parts),(di v1.Signal_)] Z (A1<|A4<|B7<|sq Z<|sl Z G_hit Z<|sd Z (D0 Z)<|sv Z<|A1<|A6<|B7<|sv Z<|sv Z<|sv Z<|A1<|cc Z hz2 (fun c2 hz2=> ?_)<|fun c2 hz2=> ?_)
 refine B7<|sv Z<|A1<|B5 ?_
 cases hz2
 obtain rfl:=ez2 _ rfl
 refine ⟨nofun,F6 ?_⟩
 rw [bL]at h
 cases h
 exact A9 (.inr Z) (B6 (B4 Z) C6) (.refl _)
 refine B7<|sv Z<|sv Z<|sv Z<|A1<|cc Z hz2 (fun c3 hz2=> ?_)<|fun c3 hz2=> ?_
 refine B7<|sv Z<|A1<|B5 ?_
 cases hz2
 obtain rfl:=ez2 _ rfl
 refine ⟨nofun,F6 ?_⟩
 rw [bL]at h
 cases h
 exact A9 (.inr Z) (B6 (B4 Z) C6) (.refl _)
 refine B7<|sq Z<|sl Z G_hit Z<|sv Z<|sv Z<|gp Z (L5 Z) (fun _=>Z) (gf Z (vl Z G_hit Z)<|gp Z (L5 Z) (fun _=>Z) ?_)
 refine Ba _ (.ptr _ _) Z (L5 Z) (fun w4=>(by simp only [A3 w4];rfl)) ?_
 refine gf Z (vl Z (gq Z) Z)<|gf Z (fun w6=>(D0<|A3 w6))<|gf Z (fun w7=>(Q1 (A3 w7) (A3 w7) Z))<|sd Z (Q5 Z Z<|fun hc=>A3<|L6 hc)<|sv Z<|A1<|cc Z hz2 (fun c4 hz2=> ?_)<|fun c4 hz2=> ?_
 refine A4<|A5 (s0:=⟨T [],G []⟩) (C9 Z Z) ?_
 refine B0<|sv Z<|A1<|B5 ?_
 cases hz2
 obtain rfl:=ez2 _ rfl
 refine ⟨nofun,F6 ?_⟩
 rw [bL]at h
 cases h
 exact A9 (.inr Z) (B6 (B4 Z) C6) (.refl _)
 refine B1<|E6<|A4<|A5 (s0:=⟨T [(1,(.ptr _ _)),(4,(.ptr _ _)),(13,(.d _)),(14,(.d _)),(15,(.d _))],G [((1,u1),some<|.box 105 _),((4,u4),some<|.box 45 _)]⟩) (C9 Z Z) ?_
 refine B0<|sv Z<|A1<|A4<|B7<|sq Z<|sl Z (gq Z) Z (sd Z (D0 Z)<|sv Z<|A1<|bs hz2 fun y2 hy2 hz2=>D2 (fun s=> ∃g3:Nat,Sb ⟨T [(1,(.ptr (1,u1) 0)),(4,(.ptr (4,u4) 0)),(6,(oS y2 (52,g3))),(13,(dl Q9 p1.Map_.Zones)),(14,(di (p1.Map_.Zones.length:Int))),(15,(di x1))],G [((1,u1),some<|.box 105 (I7 p1.Map_)),((4,u4),some<|.box 45 [(dl H9 v1.Parts),(di v1.Signal_)]),((52,g3),oB 3 1 A8 y2)]⟩ s) ?_ ?_)
 refine A6<|E7 (Cm v1) (fun (x2:((List Int)×Int)) (g4:Nat)=>⟨T [(1,(.ptr (1,u1) 0)),(4,(.ptr (4,u4) 0)),(6,(oS x2.1 (52,g4))),(13,(dl Q9 p1.Map_.Zones)),(14,(di (p1.Map_.Zones.length:Int))),(15,(di x1)),(42,(dl H9 v1.Parts)),(43,(di (v1.Parts.length:Int))),(44,(di x2.2))],G [((1,u1),some<|.box 105 (I7 p1.Map_)),((4,u4),some<|.box 45 [(dl H9 v1.Parts),(di v1.Signal_)]),((52,g4),oB 3 1 A8 x2.1)]⟩) ([],0) 0 _ hy2 (C0 (T3 Z)<|B2 G_hit (.of Z)<|sg Z<|U9 trivial) ?_
 intro x2 g4 z3 hz3 ez3
 unfold Cm at hz3
 refine B7<|sv Z<|A1<|A4<|cc Z hz3 (fun c5 hz3=> ?_)<|fun c5 hz3=> ?_
 refine B1<|A4<|A6<|B7<|bs hz3 fun v2 hv2 hz3=>sd Z (C7 Z Z hv2 Z)<|sd Z (D5 Z hv2 Z Z)<|sm Z<|Bb Z G_hit (Fz v2) Z (A1<|Bw fun u16 _=>C1 (oS x2.1 (52,g4)) Z Z (sq Z<|sl Z G_hit Z<|C1 (dl A8 [v2.Lane_]) Z Z (bs hz3 fun _ hv3 hz3=>N9 A8 (52,g4) x2.1 v2.Lane_ [] _ (J7<|fun _=>Z) Z (gq Z) hv3 (ss Z<|A1<|E6<|A5 (s0:=⟨T [(1,(.ptr _ _)),(4,(.ptr _ _)),(6,(.sl _)),(13,(.d _)),(14,(.d _)),(15,(.d _)),(42,(.d _)),(43,(.d _)),(44,(.d _))],G [((1,u1),some<|.box 105 _),((4,u4),some<|.box 45 _),((52,u16),some _)]⟩) (C9 Z Z) ?_))))
 refine B0<|sv Z<|sv Z<|A1<|F2 ?_
 cases hz3
 exact ⟨Z,u16,(C0 ⟨.of Z, .of Z,(.of (Dy<|T1 hv3).symm), .of Z, .of Z, .of Z, .of Z, .of Z, .of Z,trivial⟩<|B2 G_hit (.of Z)<|sg Z<|U8 (gq Z) trivial)⟩
 refine C3 Z ?_
 cases hz3
 obtain rfl:=ez3 _ rfl
 refine ⟨nofun,B9 Z<|U0 ?_⟩
 exact ⟨g4,(C0 (T3 Z)<|B2 G_hit (.of Z)<|sg Z<|C2 (gq Z) trivial)⟩
 rintro _ ⟨g3,q1⟩
 refine A5 q1<|A4<|B7<|C1 (oS y2 (52,g3)) Z Z (sq Z<|sp Z Z<|sl Z G_hit Z<|sd Z (D0 Z)<|bs hz2 fun v4 hv4 hz2=>B3 Z (L9 (Ea<|gq Z)<|rD<|rD I0) (.cons Dz (.cons (.refl _) A2)) (Kn _ _ _ _ hv4) (.inr Z) (C1 (.d (bo (!v4))) Z Z (A1<|cc Z hz2 (fun c6 hz2=> ?_)<|fun c6 hz2=> ?_)))
 refine B7<|sv Z<|A1<|B5 ?_
 cases hz2
 obtain rfl:=ez2 _ rfl
 refine ⟨nofun,F6 ?_⟩
 rw [bL]at h
 cases h
 exact A9 (.inr Z) (B6 (B4 Z) C6) (.refl _)
 refine B1<|B7<|sq Z<|sl Z (gq Z) Z (sd Z (D0 Z)<|sv Z<|A1<|js hz2 fun z4 hz4 hz2=>D2 (fun s=> ∃(y3:Unit) (g5:Unit),z4= .inl y3∧Sb ⟨T [(1,(.ptr (1,u1) 0)),(13,(dl Q9 p1.Map_.Zones)),(14,(di (p1.Map_.Zones.length:Int))),(15,(di x1))],G [((1,u1),some<|.box 105 (I7 p1.Map_))]⟩ s) ?_ ?_)
 refine A6<|E7 (O5 p1 v1) (fun (x3:Int) (g6:Unit)=>⟨T [(1,(.ptr (1,u1) 0)),(13,(dl Q9 p1.Map_.Zones)),(14,(di (p1.Map_.Zones.length:Int))),(15,(di x1)),(62,(dl H9 v1.Parts)),(63,(di (v1.Parts.length:Int))),(64,(di x3))],G [((1,u1),some<|.box 105 (I7 p1.Map_))]⟩) 0 () _ hz4 (C9 Z Z) ?_
 intro x3 g6 z5 hz5 ez5
 unfold O5 at hz5
 refine B7<|sv Z<|A1<|A4<|cc Z hz5 (fun c7 hz5=> ?_)<|fun c7 hz5=> ?_
 refine B1<|A4<|A6<|B7<|bs hz5 fun v5 hv5 hz5=>sd Z (C7 Z Z hv5 Z)<|sd Z (D5 Z hv5 Z Z)<|sm Z<|Bb Z G_hit (Fz v5) Z (A1<|A4<|J2 Z<|sq Z<|sl Z G_hit Z<|sv Z<|sv Z<|gp Z (L5 Z) (fun _=>Z) (gf Z (vl Z G_hit Z)<|gp Z (L5 Z) (fun _=>Z) (gf Z (vl Z G_hit Z)<|gf Z (fun w12=>(Q1 (A3 w12) (A3 w12) Z))<|sd Z (Q5 Z Z<|fun hc=>A3<|L6 hc)<|sv Z<|gp Z (L5 Z) (fun _=>Z) (gf Z (vl Z G_hit Z)<|gp Z (L5 Z) (fun _=>Z) (gf Z (fun w16=>(A7 (A3 w16) (gq Z) Z Z))<|gp Z (L5 Z) (fun _=>Z) (gf Z (vl Z G_hit Z)<|bs hz5 fun v6 hv6 hz5=> ?_))))))
 refine K7 _ (i64 v6) (L5 Z) (fun w19=>⟨_,[(.d (.agg (L8 p1.Map_))),(di v5.Lane_)],_,_,(by simp only [A3 w19];rfl),Z,A2,Fg _ _ _<|D7 w19 hv6,(.inl Z)⟩) ?_
 refine gf Z (fun w20=>(Q1 (A3 w20) (A3 w20) Z))<|sd Z (Q5 Z Z<|fun hc=>A3<|L6 hc)<|sv Z<|gp Z (L5 Z) (fun _=>Z) (gf Z (vl Z G_hit Z)<|gf Z (vb Z Z Z)<|sd Z (Q5 Z Z<|fun hc=>A3<|L6 hc)<|sv Z<|gp Z (L5 Z) (fun _=>Z) (gf Z (vl Z G_hit Z)<|gf Z (vb Z Z Z)<|sd Z (Q5 Z Z<|fun hc=>A3<|L6 hc)<|A1<|cc Z hz5 (fun c8 hz5=> ?_)<|fun c8 hz5=> ?_))
 refine A4<|A5 (s0:=⟨T [],G []⟩) (C9 Z Z) ?_
 refine B0<|sv Z<|A1<|B5 ?_
 cases hz5
 obtain rfl:=ez5 _ rfl
 refine ⟨nofun,F6 ?_⟩
 rw [bL]at hz2
 cases hz2
 obtain rfl:=ez2 _ rfl
 refine ⟨nofun,F6 ?_⟩
 rw [bL]at h
 cases h
 exact A9 (.inr Z) (B6 (B4 Z) C6) (.refl _)
 refine B1<|E6<|A5 (s0:=⟨T [(1,(.ptr _ _)),(13,(.d _)),(14,(.d _)),(15,(.d _)),(62,(.d _)),(63,(.d _)),(64,(.d _))],G [((1,u1),some<|.box 105 _)]⟩) (C9 Z Z) ?_
 refine B0<|sv Z<|sv Z<|A1<|F2 ?_
 cases hz5
 exact ⟨Z,(),(C9 Z Z)⟩
 refine C3 Z ?_
 cases hz5
 obtain rfl:=ez5 _ rfl
 refine ⟨nofun,B9 Z<|U0 ?_⟩
 exact ⟨_,(),Z,(C9 Z Z)⟩
 rintro _ ⟨y3,g5,rfl,q2⟩
 rw [bK]at hz2
 refine E6<|A5 q2<|B0<|sv Z<|sv Z<|A1<|F2 ?_
 cases hz2
 exact ⟨Z,(),(C9 Z Z)⟩
 refine C3 Z ?_
 cases hz2
 obtain rfl:=ez2 _ rfl
 refine ⟨nofun,B9 Z<|U0 ?_⟩
 exact ⟨_,(),Z,(C9 Z Z)⟩
 rintro _ ⟨y1,g1,rfl,q3⟩
 rw [bK]at h
 refine A5 q3<|B7<|sv Z<|A1<|B5 ?_
 cases h
 exact A9 (.inr Z) (B6 (B4 Z) C6) (.refl _)
def O7 [Lp](p1:RoadsCheck)(x1:Int):Option (Stp Int (Sum Unit Int)):=
  cond (decide (x1< (p1.Map_.Works.length:Int))) ((E5 p1.Map_.Works x1).bind fun v1=>cond ((decide (v1.Lane_<0))||(decide (v1.Lane_≥(p1.Map_.Lanes.length:Int)))) (some (.out (.inr 7))) ((E5 p1.Map_.Lanes v1.Lane_).bind fun v2=>(Gz v2.Kind).bind fun v3=>((cond (!((decide (v1.From<0))||(decide (v1.From>v1.To)))) (V4 p1.Map_ v1.Lane_) (some default))).bind fun v4=>((cond (!((((((decide (v1.From<0))||(decide (v1.From>v1.To)))||(decide (v1.To>v4)))||(decide (v1.Begin<0)))||(decide (v1.Begin≥v1.End)))||(decide (v1.End>1099511627776)))) (S6 v1.Limit 0 v3.1) (some default))).bind fun v5=>cond (((((((decide (v1.From<0))||(decide (v1.From>v1.To)))||(decide (v1.To>v4)))||(decide (v1.Begin<0)))||(decide (v1.Begin≥v1.End)))||(decide (v1.End>1099511627776)))||(!v5)) (some (.out (.inr 2))) (some (.go (C8 (x1+1)))))) (some (.out (.inl ())))
def Q4 [Lp](p1:RoadsCheck):Option Int:=
  thenS (loop (O7 p1) 0) (fun _=>some 0) (fun r=>some r)
theorem Qz(p1 r)(h:Q4 p1=some r):PCall prog 70 [(.agg (L8 p1.Map_))] (i64 r):=by
 refine C5 (fk func70 ntmps70 m0 (by with_unfolding_all rfl)) (nl Z) ?_
 unfold Q4 at h
 refine A5 (s0:=⟨T [(0,(.d _))],G []⟩) (C9 Z Z) ?_
 refine lr<|fun u1 _=>sm Z<|sv Z<|A1<|A4<|B7<|sq Z<|sp Z Z<|sl Z G_hit Z<|sd Z (D0 Z)<|sv Z<|A1<|js h fun z1 hz1 h=>D2 (fun s=> ∃(y1:Unit) (g1:Unit),z1= .inl y1∧Sb ⟨T [],G []⟩ s) ?_ ?_
 refine A6<|E7 (O7 p1) (fun (x1:Int) (g2:Unit)=>⟨T [(1,(.ptr (1,u1) 0)),(10,(dl Qs p1.Map_.Works)),(11,(di (p1.Map_.Works.length:Int))),(12,(di x1))],G [((1,u1),some<|.box 105 (I7 p1.Map_))]⟩) 0 () _ hz1 (C9 Z Z) ?_
 intro x1 g2 z2 hz2 ez2
 unfold O7 at hz2
 refine B7<|sv Z<|A1<|A4<|cc Z hz2 (fun c1 hz2=> ?_)<|fun c1 hz2=> ?_
 refine B1<|A4<|A6<|lr<|fun u4 _=>bs hz2 fun v1 hv1 hz2=>sd Z (C7 Z Z hv1 Z)<|sd Z (D5 Z hv1 Z Z)<|sm Z<|Bb Z G_hit (VL v1) Z (A1<|A4<|B7<|sq Z<|sl Z G_hit Z<|sv Z<|sv Z<|gp Z (L5 Z) (fun _=>Z) (gf Z (vl Z G_hit Z)<|gp Z (L5 Z) (fun _=>Z) ?_))
 refine Ba _ (.ptr _ _) Z (L5 Z) (fun w4=>(by simp only [A3 w4];rfl)) ?_
 refine gf Z (vl Z (gq Z) Z)<|gf Z (fun w6=>(D0<|A3 w6))<|gf Z (fun w7=>(Q1 (A3 w7) (A3 w7) Z))<|sd Z (Q5 Z Z<|fun hc=>A3<|L6 hc)<|A1<|cc Z hz2 (fun c2 hz2=> ?_)<|fun c2 hz2=> ?_
 refine A4<|A5 (s0:=⟨T [],G []⟩) (C9 Z Z) ?_
 refine B0<|sv Z<|A1<|B5 ?_
 cases hz2
 obtain rfl:=ez2 _ rfl
 refine ⟨nofun,F6 ?_⟩
 rw [bL]at h
 cases h
 exact A9 (.inr Z) (B6 (B4 Z) C6) (.refl _)
 refine B1<|A4<|A5 (s0:=⟨T [(1,(.ptr _ _)),(4,(.ptr _ _)),(10,(.d _)),(11,(.d _)),(12,(.d _))],G [((1,u1),some<|.box 105 _),((4,u4),some<|.box 50 _)]⟩) (C9 Z Z) ?_
 refine B0<|sq Z<|sq Z<|sl Z G_hit Z<|sq Z<|sl Z (gq Z) Z (bs hz2 fun _ hv2 hz2=>sd Z (C7 Z Z hv2 Z)<|sv Z<|sd Z (D9 Z hv2 Z)<|bs hz2 fun v3 hv3 hz2=>B3 Z Z A2 (Pk _ _ hv3) (.inl Z) (sv Z<|sv Z<|sv Z<|sv Z<|sv Z<|sv Z<|sv Z<|A1<|A4<|A5 (s0:=⟨T [(1,(.ptr _ _)),(4,(.ptr _ _)),(5,(.d _)),(10,(.d _)),(11,(.d _)),(12,(.d _))],G [((1,u1),some<|.box 105 _),((4,u4),some<|.box 50 _)]⟩) (C9 Z Z) ?_))
 refine J2 Z<|sq Z<|sl Z (gq Z) Z (sv Z<|sv Z<|gp Z (L5 Z) (fun _=>Z) (gf Z (vl Z (gq Z) Z)<|gp Z (L5 Z) (fun _=>Z) (gf Z (vl Z (gq Z) Z)<|gf Z (fun w12=>(Q1 (A3 w12) (A3 w12) Z))<|sd Z (Q5 Z Z<|fun hc=>A3<|L6 hc)<|sv Z<|gp Z (L5 Z) (fun _=>Z) (gf Z (vl Z (gq Z) Z)<|gp Z (L5 Z) (fun _=>Z) (gf Z (fun w16=>(A7 (A3 w16) G_hit Z Z))<|gp Z (L5 Z) (fun _=>Z) (gf Z (vl Z (gq Z) Z)<|bs hz2 fun v4 hv4 hz2=> ?_))))))
 refine K7 _ (i64 v4) (L5 Z) (fun w19=>⟨_,[(.d (.agg (L8 p1.Map_))),(di v1.Lane_)],_,_,(by simp only [A3 w19];rfl),Z,A2,Fg _ _ _<|D7 w19 hv4,(.inl Z)⟩) ?_
 refine gf Z (fun w20=>(Q1 (A3 w20) (A3 w20) Z))<|sd Z (Q5 Z Z<|fun hc=>A3<|L6 hc)<|sv Z<|gp Z (L5 Z) (fun _=>Z) (gf Z (vl Z (gq Z) Z)<|gf Z (vb Z Z Z)<|sd Z (Q5 Z Z<|fun hc=>A3<|L6 hc)<|sv Z<|gp Z (L5 Z) (fun _=>Z) (gf Z (vl Z (gq Z) Z)<|gp Z (L5 Z) (fun _=>Z) (gf Z (vl Z (gq Z) Z)<|gf Z (fun w28=>(Q1 (A3 w28) (A3 w28) Z))<|sd Z (Q5 Z Z<|fun hc=>A3<|L6 hc)<|sv Z<|gp Z (L5 Z) (fun _=>Z) (gf Z (vl Z (gq Z) Z)<|gf Z (vb Z Z Z)<|sd Z (Q5 Z Z<|fun hc=>A3<|L6 hc)<|sv Z<|gp Z (L5 Z) (fun _=>Z) (gf Z (vl Z (gq Z) Z)<|gf Z (fun _=>Z)<|bs hz2 fun v5 hv5 hz2=> ?_)))))
 refine K7 _ (bo v5) (L5 Z) (fun w35=>⟨_,[(di v1.Limit),(di 0),(di v3.1)],_,_,(by simp only [A3 w35];rfl),Z,A2,S4 _ _ _ _<|D7 w35 hv5,(.inl Z)⟩) ?_
 refine Ba _ (.d (bo (!v5))) Z (L5 Z) (fun w36=>(by simp only [A3 w36];rfl)) ?_
 refine sd Z (Q5 Z Z<|fun hc=>A3<|L6 hc)<|A1<|cc Z hz2 (fun c3 hz2=> ?_)<|fun c3 hz2=> ?_
 refine A4<|A5 (s0:=⟨T [],G []⟩) (C9 Z Z) ?_
 refine B0<|sv Z<|A1<|B5 ?_
 cases hz2
 obtain rfl:=ez2 _ rfl
 refine ⟨nofun,F6 ?_⟩
 rw [bL]at h
 cases h
 exact A9 (.inr Z) (B6 (B4 Z) C6) (.refl _)
 refine B1<|E6<|A5 (s0:=⟨T [(1,(.ptr _ _)),(10,(.d _)),(11,(.d _)),(12,(.d _))],G [((1,u1),some<|.box 105 _)]⟩) (C9 Z Z) ?_
 refine B0<|sv Z<|sv Z<|A1<|F2 ?_
 cases hz2
 exact ⟨Z,(),(C9 Z Z)⟩
 refine C3 Z ?_
 cases hz2
 obtain rfl:=ez2 _ rfl
 refine ⟨nofun,B9 Z<|U0 ?_⟩
 exact ⟨_,(),Z,(C9 Z Z)⟩
 rintro _ ⟨y1,g1,rfl,q1⟩
 rw [bK]at h
 refine A5 q1<|B7<|sv Z<|A1<|B5 ?_
 cases h
 exact A9 (.inr Z) (B6 (B4 Z) C6) (.refl _)
def P5 [Lp](v:Nat)(p1:RoadsCheck):Option Int:=
  cond (Nat.beq v 65) (V8 p1) (cond (Nat.beq v 66) (Q2 p1) (cond (Nat.beq v 67) (P7 p1) (cond (Nat.beq v 68) (P2 p1) (cond (Nat.beq v 69) (Q3 p1) (cond (Nat.beq v 70) (Q4 p1) (none))))))
theorem Ki(v p1 r)(h:P5 v p1=some r):PCall prog v [(.agg [(i64 p1.Map_.Version),(.list (List.map Dg p1.Map_.Lanes)),(.list (List.map Q9 p1.Map_.Zones)),(.list (List.map La p1.Map_.Signals)),(.list (List.map Qs p1.Map_.Works))])] (i64 r):=by
  unfold P5 at h
  rcases Wd h with ⟨rfl,h⟩|⟨_,h⟩
  ·exact Pa _ r h
  rcases Wd h with ⟨rfl,h⟩|⟨_,h⟩
  ·exact Qv _ r h
  rcases Wd h with ⟨rfl,h⟩|⟨_,h⟩
  ·exact Pw _ r h
  rcases Wd h with ⟨rfl,h⟩|⟨_,h⟩
  ·exact Pb _ r h
  rcases Wd h with ⟨rfl,h⟩|⟨_,h⟩
  ·exact Qy _ r h
  rcases Wd h with ⟨rfl,h⟩|⟨_,h⟩
  ·exact Qz _ r h
  cases h
def M7 [Lp](p1:Map)(x1:Int):Option (Stp Int (Sum Unit Int)):=
  cond (decide (x1< ([65,66,67,68,69,70].length:Int))) ((E5 [65,66,67,68,69,70] x1).bind fun v1=>(P5 v1 (RoadsCheck.mk p1)).bind fun v2=>cond (v2 !=0) (some (.out (.inr v2))) (some (.go (C8 (x1+1))))) (some (.out (.inl ())))
def W6 [Lp](p1:Map):Option Int:=
  thenS (loop (M7 p1) 0) (fun _=>some 0) (fun r=>some r)
theorem Gb(p1 r)(h:W6 p1=some r):PCall prog 16 [(.agg (L8 p1))] (i64 r):=by
 refine C5 (fk func16 ntmps16 (fun r=>if r==1 then [1000]else []) (by with_unfolding_all rfl)) (nl Z) ?_
 unfold W6 at h
 refine A5 (s0:=⟨T [(0,(.d _))],G []⟩) (C9 Z Z) ?_
 refine lr<|fun u1 _=>sm Z<|sv Z<|A1<|A4<|B7<|C1 (dl aA [65,66,67,68,69,70]) Z Z (sd Z (D0 Z)<|sv Z<|A1<|js h fun z1 hz1 h=>D2 (fun s=> ∃(y1:Unit) (g1:Unit),z1= .inl y1∧Sb ⟨T [],G []⟩ s) ?_ ?_)
 refine A6<|E7 (M7 p1) (fun (x1:Int) (g2:Unit)=>⟨T [(1,(.ptr (1,u1) 0)),(6,(dl aA [65,66,67,68,69,70])),(7,(di ([65,66,67,68,69,70].length:Int))),(8,(di x1))],G [((1,u1),some<|.box 27 (I7 p1))]⟩) 0 () _ hz1 (C9 Z Z) ?_
 intro x1 g2 z2 hz2 ez2
 unfold M7 at hz2
 refine B7<|sv Z<|A1<|A4<|cc Z hz2 (fun c1 hz2=> ?_)<|fun c1 hz2=> ?_
 refine B1<|A4<|A6<|B7<|bs hz2 fun _ hv1 hz2=>sd Z (C7 Z Z hv1 Z)<|sd Z (D9 Z hv1 Z)<|sv Z<|A1<|B7<|sv Z<|sd Z (A7 Z G_hit Z Z)<|sv Z<|bs hz2 fun _ hv2 hz2=>B3 Z Z A2 (Ki _ _ _ hv2) (.inl Z) (sv Z<|A1<|B7<|sv Z<|sv Z<|A1<|cc Z hz2 (fun c2 hz2=> ?_)<|fun c2 hz2=> ?_)
 refine B7<|sv Z<|sv Z<|A1<|B5 ?_
 cases hz2
 obtain rfl:=ez2 _ rfl
 refine ⟨nofun,F6 ?_⟩
 rw [bL]at h
 cases h
 exact A9 (.inr Z) (B6 (B4 Z) C6) (.refl _)
 refine B1<|E6<|B0<|sv Z<|sv Z<|A1<|F2 ?_
 cases hz2
 exact ⟨Z,(),(C9 Z Z)⟩
 refine C3 Z ?_
 cases hz2
 obtain rfl:=ez2 _ rfl
 refine ⟨nofun,B9 Z<|U0 ?_⟩
 exact ⟨_,(),Z,(C9 Z Z)⟩
 rintro _ ⟨y1,g1,rfl,q1⟩
 rw [bK]at h
 refine A5 q1<|B7<|sv Z<|A1<|B5 ?_
 cases h
 exact A9 (.inr Z) (B6 (B4 Z) C6) (.refl _)
def U4 (p1:(List Int))(p2:Int)(x1:Int):Option (Stp Int (Sum Unit Int)):=
  cond (decide (x1< (p1.length:Int))) ((E5 p1 x1).bind fun v1=>cond (p2==v1) (some (.out (.inr x1))) (some (.go (C8 (x1+1))))) (some (.out (.inl ())))
def R4 [Lp](p1:(List Int))(p2:Int):Option Int:=
  thenS (loop (U4 p1 p2) 0) (fun _=>some (-1)) (fun r=>some r)
theorem Nx(p1 p2 r)(h:R4 p1 p2=some r):PCall prog 224 [(.list (List.map A8 p1)),(i64 p2)] (i64 r):=by
 refine C5 (fk func224 ntmps224 m0 (by with_unfolding_all rfl)) (nl Z) ?_
 unfold R4 at h
 refine A5 (s0:=⟨T [(0,(.d _)),(1,(.d _))],G []⟩) (C9 Z Z) ?_
 refine B7<|sv Z<|A1<|A4<|B7<|sv Z<|sd Z (D0 Z)<|sv Z<|A1<|js h fun z1 hz1 h=>D2 (fun s=> ∃(y1:Unit) (g1:Unit),z1= .inl y1∧Sb ⟨T [],G []⟩ s) ?_ ?_
 refine A6<|E7 (U4 p1 p2) (fun (x1:Int) (g2:Unit)=>⟨T [(0,(dl A8 p1)),(1,(di p2)),(7,(di (p1.length:Int))),(8,(di x1))],G []⟩) 0 () _ hz1 (C9 Z Z) ?_
 intro x1 g2 z2 hz2 ez2
 unfold U4 at hz2
 refine B7<|sv Z<|A1<|A4<|cc Z hz2 (fun c1 hz2=> ?_)<|fun c1 hz2=> ?_
 refine B1<|A4<|A6<|B7<|sv Z<|sv Z<|A1<|B7<|sv Z<|sv Z<|sv Z<|bs hz2 fun _ hv1 hz2=>sd Z (C7 Z Z hv1 Z)<|sd Z (D9 Z hv1 Z)<|sv Z<|A1<|cc Z hz2 (fun c2 hz2=> ?_)<|fun c2 hz2=> ?_
 refine B7<|sv Z<|sv Z<|A1<|B5 ?_
 cases hz2
 obtain rfl:=ez2 _ rfl
 refine ⟨nofun,F6 ?_⟩
 rw [bL]at h
 cases h
 exact A9 (.inr Z) (B6 (B4 Z) C6) (.refl _)
 refine B1<|E6<|B0<|sv Z<|sv Z<|A1<|F2 ?_
 cases hz2
 exact ⟨Z,(),(C9 Z Z)⟩
 refine C3 Z ?_
 cases hz2
 obtain rfl:=ez2 _ rfl
 refine ⟨nofun,B9 Z<|U0 ?_⟩
 exact ⟨_,(),Z,(C9 Z Z)⟩
 rintro _ ⟨y1,g1,rfl,q1⟩
 rw [bK]at h
 refine A5 q1<|B7<|sv Z<|A1<|B5 ?_
 cases h
 exact A9 (.inr Z) (B6 (B4 Z) C6) (.refl _)
def F8 [Lp](p1:(List Int))(p2:Int):Option Bool:=
  (R4 p1 p2).bind fun v1=>some (decide (v1≥0))
theorem J9(p1 p2 r)(h:F8 p1 p2=some r):PCall prog 136 [(.list (List.map A8 p1)),(i64 p2)] (bo r):=by
 refine C5 (fk func136 ntmps136 m0 (by with_unfolding_all rfl)) (nl Z) ?_
 unfold F8 at h
 refine A5 (s0:=⟨T [(0,(.d _)),(1,(.d _))],G []⟩) (C9 Z Z) ?_
 refine B7<|sv Z<|A1<|B7<|sv Z<|sv Z<|bs h fun _ hv1 h=>B3 Z Z A2 (Nx _ _ _ hv1) (.inl Z) (sv Z<|sv Z<|A1<|B5 ?_)
 cases h
 exact A9 (.inr Z) (B6 (B4 Z) C6) (.refl _)
def W7 [Lp](p1:Map)(p2:Int)(x1:((List Int)×Int)):Option (Stp ((List Int)×Int) (List Int)):=
  cond (decide (x1.2< (p1.Lanes.length:Int))) ((E5 p1.Lanes x1.2).bind fun v1=>(F8 v1.Next p2).bind fun v2=>cond v2 ((Cj x1.1 [x1.2]).bind fun v3=>some (.go (v3,(C8 (x1.2+1))))) (some (.go (x1.1,(C8 (x1.2+1)))))) (some (.out x1.1))
def Z4 [Lp](p1:Map)(p2:Int):Option (List Int):=
  (loop (W7 p1 p2) ([],0)).bind fun y1=>some y1
theorem Ko(p1 p2 r)(h:Z4 p1 p2=some r):PCall prog 135 [(.agg (L8 p1)),(i64 p2)] (.list (List.map A8 r)):=by
 refine C5 (fk func135 ntmps135 (fun r=>if r==6 then [1002]else []) (by with_unfolding_all rfl)) (nl Z) ?_
 unfold Z4 at h
 refine A5 (s0:=⟨T [(0,(.d _)),(1,(.d _))],G []⟩) (C9 Z Z) ?_
 refine B7<|sm Z<|sv Z<|A1<|B7<|sv Z<|A1<|A4<|B7<|sq Z<|sl Z G_hit Z<|sd Z (D0 Z)<|sv Z<|A1<|bs h fun y1 hy1 h=>D2 (fun s=> ∃g1:Nat,Sb ⟨T [(5,(oS y1 (23,g1)))],G [((23,g1),oB 3 1 A8 y1)]⟩ s) ?_ ?_
 refine A6<|E7 (W7 p1 p2) (fun (x1:((List Int)×Int)) (g2:Nat)=>⟨T [(1,(di p2)),(5,(oS x1.1 (23,g2))),(9,(dl Dg p1.Lanes)),(10,(di (p1.Lanes.length:Int))),(11,(di x1.2))],G [((23,g2),oB 3 1 A8 x1.1)]⟩) ([],0) 0 _ hy1 (C0 (T3 Z)<|U9 trivial) ?_
 intro x1 g2 z1 hz1 ez1
 unfold W7 at hz1
 refine B7<|sv Z<|A1<|A4<|cc Z hz1 (fun c1 hz1=> ?_)<|fun c1 hz1=> ?_
 refine B1<|A4<|A6<|B7<|sv Z<|bs hz1 fun v1 hv1 hz1=>sd Z (C7 Z Z hv1 Z)<|sd Z (D5 Z hv1 Z Z)<|sm Z<|sv Z<|Bb Z G_hit (Ft v1) Z (A1<|B7<|sq Z<|sl Z G_hit Z<|sv Z<|bs hz1 fun _ hv2 hz1=>B3 Z Z A2 (J9 _ _ _ hv2) (.inl Z) (A1<|cc Z hz1 (fun c2 hz1=> ?_)<|fun c2 hz1=> ?_))
 refine Bw fun u7 _=>C1 (oS x1.1 (23,g2)) Z Z (sv Z<|C1 (dl A8 [x1.2]) Z Z (bs hz1 fun _ hv3 hz1=>N9 A8 (23,g2) x1.1 x1.2 [] _ (J7<|fun _=>Z) Z (gq Z) hv3 (ss Z<|A1<|E6<|A5 (s0:=⟨T [(1,(.d _)),(5,(.sl _)),(9,(.d _)),(10,(.d _)),(11,(.d _))],G [((23,u7),some _)]⟩) (C9 Z Z) ?_)))
 refine B0<|sv Z<|sv Z<|A1<|F2 ?_
 cases hz1
 exact ⟨Z,u7,(C0 ⟨.of Z,(.of (Dy<|T1 hv3).symm), .of Z, .of Z, .of Z,trivial⟩<|U8 G_hit trivial)⟩
 refine B1<|E6<|B0<|sv Z<|sv Z<|A1<|F2 ?_
 cases hz1
 exact ⟨Z,g2,(C0 (T3 Z)<|C2 (gq Z) trivial)⟩
 refine C3 Z ?_
 cases hz1
 obtain rfl:=ez1 _ rfl
 refine ⟨nofun,B9 Z<|U0 ?_⟩
 exact ⟨g2,(C0 ⟨.of Z,trivial⟩<|C2 G_hit trivial)⟩
 rintro _ ⟨g1,q1⟩
 refine A5 q1<|B7<|C1 (oS y1 (23,g1)) Z Z (C1 (oS y1 (23,g1)) Z Z (A1<|B5 ?_))
 cases h
 exact A9 (.inr Z) (B6 (B4 Z)<|Ea G_hit) Dz
def V9 [Lp](p1:Map)(v7:List Int)(x1:(Int×Int)):Option (Stp (Int×Int) (Sum Unit Int)):=
  cond (decide (x1.2< (v7.length:Int))) ((E5 v7 x1.2).bind fun v8=>(E5 p1.Lanes x1.1).bind fun v9=>(F8 v9.Next v8).bind fun v10=>cond (!v10) (some (.out (.inr 13))) (some (.go (v8,(C8 (x1.2+1)))))) (some (.out (.inl ())))
def Bg [Lp](p1:Map)(p2:(List Int)):Option Int:=
  (W6 p1).bind fun v1=>cond (v1 !=0) (some v1) (((cond (!(((p2.length:Int)==0)||(decide ((p2.length:Int)>8)))) (E5 p2 0) (some default))).bind fun v2=>((cond (!((((p2.length:Int)==0)||(decide ((p2.length:Int)>8)))||(decide (v2<0)))) (E5 p2 0) (some default))).bind fun v3=>((cond (!(((((p2.length:Int)==0)||(decide ((p2.length:Int)>8)))||(decide (v2<0)))||(decide (v3≥(p1.Lanes.length:Int))))) (E5 p2 0) (some default))).bind fun v4=>((cond (!(((((p2.length:Int)==0)||(decide ((p2.length:Int)>8)))||(decide (v2<0)))||(decide (v3≥(p1.Lanes.length:Int))))) (Z4 p1 v4) (some default))).bind fun v5=>cond ((((((p2.length:Int)==0)||(decide ((p2.length:Int)>8)))||(decide (v2<0)))||(decide (v3≥(p1.Lanes.length:Int))))||(decide ((v5.length:Int)>0))) (some 13) ((E5 p2 0).bind fun v6=>(AB p2 1 (p2.length:Int)).bind fun v7=>thenS (loop (V9 p1 v7) (v6,0)) (fun _=>some 0) (fun r=>some r)))
theorem Sh(p1 p2 r)(h:Bg p1 p2=some r):PCall prog 36 [(.agg (L8 p1)),(.list (List.map A8 p2))] (i64 r):=by
 refine C5 (fk func36 ntmps36 m0 (by with_unfolding_all rfl)) (nl Z) ?_
 unfold Bg at h
 refine A5 (s0:=⟨T [(0,(.d _)),(1,(.d _))],G []⟩) (C9 Z Z) ?_
 refine lr<|fun u1 _=>sm Z<|sv Z<|A1<|A4<|B7<|sd Z (A7 Z G_hit Z Z)<|bs h fun _ hv1 h=>B3 Z Z A2 (Gb _ _ hv1) (.inl Z) (sv Z<|A1<|B7<|sv Z<|sv Z<|A1<|cc Z h (fun c1 h=> ?_)<|fun c1 h=> ?_)
 refine B7<|sv Z<|sv Z<|A1<|B5 ?_
 cases h
 exact A9 (.inr Z) (B6 (B4 Z) C6) (.refl _)
 refine B1<|A4<|A4<|J2 Z<|sv Z<|sd Z (D0 Z)<|sv Z<|sv Z<|gf Z (fun _=>Z)<|gf Z (fun w2=>(D0<|A3 w2))<|gf Z (vb Z Z Z)<|sd Z (Q5 Z Z<|fun hc=>A3<|L6 hc)<|sv Z<|gf Z (fun _=>Z)<|bs h fun _ hv2 h=>gf Z (fun w5=>(C7 (A3 w5) Z (D7 w5 hv2) Z))<|gf Z (fun w6=>(D9 (A3 w6) (D7 w6 hv2) Z))<|gf Z (vb Z Z Z)<|sd Z (Q5 Z Z<|fun hc=>A3<|L6 hc)<|sv Z<|gf Z (fun _=>Z)<|bs h fun _ hv3 h=>gf Z (fun w9=>(C7 (A3 w9) Z (D7 w9 hv3) Z))<|gf Z (fun w10=>(D9 (A3 w10) (D7 w10 hv3) Z))<|gp Z (L5 Z) (fun _=>Z) (gf Z (vl Z G_hit Z)<|gf Z (fun w13=>(D0<|A3 w13))<|gf Z (fun w14=>(Q1 (A3 w14) (A3 w14) Z))<|sd Z (Q5 Z Z<|fun hc=>A3<|L6 hc)<|sv Z<|gf Z (fun _=>(A7 Z G_hit Z Z))<|gf Z (fun _=>Z)<|bs h fun v4 hv4 h=>gf Z (fun w17=>(C7 (A3 w17) Z (D7 w17 hv4) Z))<|gf Z (fun w18=>(D9 (A3 w18) (D7 w18 hv4) Z))<|bs h fun v5 hv5 h=> ?_)
 refine K7 _ (.list (List.map A8 v5)) (L5 Z) (fun w19=>⟨_,[(.d (.agg (L8 p1))),(di v4)],_,_,(by simp only [A3 w19];rfl),Z,A2,Ko _ _ _<|D7 w19 hv5,(.inl Z)⟩) ?_
 refine gf Z (fun w20=>(D0<|A3 w20))<|gf Z (vb Z Z Z)<|sd Z (Q5 Z Z<|fun hc=>A3<|L6 hc)<|A1<|cc Z h (fun c2 h=> ?_)<|fun c2 h=> ?_
 refine A4<|A5 (s0:=⟨T [],G []⟩) (C9 Z Z) ?_
 refine B0<|sv Z<|A1<|B5 ?_
 cases h
 exact A9 (.inr Z) (B6 (B4 Z) C6) (.refl _)
 refine B1<|A4<|A5 (s0:=⟨T [(1,(.d _)),(2,(.ptr _ _))],G [((2,u1),some<|.box 27 _)]⟩) (C9 Z Z) ?_
 refine B0<|sv Z<|bs h fun v6 hv6 h=>sd Z (C7 Z Z hv6 Z)<|sd Z (D9 Z hv6 Z)<|sv Z<|A1<|A4<|B7<|sv Z<|bs h fun v7 hv7 h=>sd Z (LI Z (fun _=>Z) (TT Z) EW hv7)<|sd Z (D0 Z)<|sv Z<|A1<|js h fun z1 hz1 h=>D2 (fun s=> ∃(y1:Unit) (g1:Unit),z1= .inl y1∧Sb ⟨T [],G []⟩ s) ?_ ?_
 refine A6<|E7 (V9 p1 v7) (fun (x1:(Int×Int)) (g2:Unit)=>⟨T [(2,(.ptr (2,u1) 0)),(6,(di x1.1)),(50,(dl A8 v7)),(51,(di (v7.length:Int))),(52,(di x1.2))],G [((2,u1),some<|.box 27 (I7 p1))]⟩) (v6,0) () _ hz1 (C9 Z Z) ?_
 intro x1 g2 z2 hz2 ez2
 unfold V9 at hz2
 refine B7<|sv Z<|A1<|A4<|cc Z hz2 (fun c3 hz2=> ?_)<|fun c3 hz2=> ?_
 refine B1<|A4<|A6<|B7<|bs hz2 fun _ hv8 hz2=>sd Z (C7 Z Z hv8 Z)<|sd Z (D9 Z hv8 Z)<|sv Z<|A1<|A4<|B7<|sq Z<|sl Z G_hit Z<|sv Z<|bs hz2 fun _ hv9 hz2=>sd Z (C7 Z Z hv9 Z)<|sv Z<|sd Z (D9 Z hv9 Z)<|sv Z<|bs hz2 fun v10 hv10 hz2=>B3 Z Z A2 (J9 _ _ _ hv10) (.inl Z) (C1 (.d (bo (!v10))) Z Z (A1<|cc Z hz2 (fun c4 hz2=> ?_)<|fun c4 hz2=> ?_))
 refine B7<|sv Z<|A1<|B5 ?_
 cases hz2
 obtain rfl:=ez2 _ rfl
 refine ⟨nofun,F6 ?_⟩
 rw [bL]at h
 cases h
 exact A9 (.inr Z) (B6 (B4 Z) C6) (.refl _)
 refine B1<|B0<|sv Z<|sv Z<|A1<|E6<|B0<|sv Z<|sv Z<|A1<|F2 ?_
 cases hz2
 exact ⟨Z,(),(C9 Z Z)⟩
 refine C3 Z ?_
 cases hz2
 obtain rfl:=ez2 _ rfl
 refine ⟨nofun,B9 Z<|U0 ?_⟩
 exact ⟨_,(),Z,(C9 Z Z)⟩
 rintro _ ⟨y1,g1,rfl,q1⟩
 rw [bK]at h
 refine A5 q1<|B7<|sv Z<|A1<|B5 ?_
 cases h
 exact A9 (.inr Z) (B6 (B4 Z) C6) (.refl _)
def Cc [Lp](p1:Map)(p2:(List Int))(x1:(Int×RoadsWay)):Option (Stp (Int×RoadsWay) RoadsWay):=
  cond (decide (x1.1< (p2.length:Int))) ((E5 p2 x1.1).bind fun v2=>(Cj x1.2.starts [x1.2.length]).bind fun v3=>(V4 p1 v2).bind fun v4=>some (.go ((C8 (x1.1+1)),(RoadsWay.mk x1.2.Map_ x1.2.lanes v3 (C8 (x1.2.length+v4)))))) (some (.out x1.2))
def Hb [Lp](p1:Map)(p2:(List Int)):Option RoadsWay:=
  (Bg p1 p2).bind fun v1=>cond (v1 !=0) (some (RoadsWay.mk (Map.mk 0 [] [] [] []) [] [] 0)) ((loop (Cc p1 p2) (0,(RoadsWay.mk p1 p2 [] 0))).bind fun y1=>some y1)
theorem Yc(p1 p2 r)(h:Hb p1 p2=some r):PCall prog 133 [(.agg (L8 p1)),(.list (List.map A8 p2))] (.agg (MX r)):=by
 refine C5 (fk func133 ntmps133 (fun r=>if r==7 then [1004]else []) (by with_unfolding_all rfl)) (nl Z) ?_
 unfold Hb at h
 refine A5 (s0:=⟨T [(0,(.d _)),(1,(.d _))],G []⟩) (C9 Z Z) ?_
 refine lr<|fun u1 _=>sm Z<|sm Z<|A1<|A4<|B7<|sd Z (A7 Z (gq Z) Z Z)<|sv Z<|bs h fun _ hv1 h=>B3 Z Z A2 (Sh _ _ _ hv1) (.inl Z) (sv Z<|A1<|cc Z h (fun c1 h=> ?_)<|fun c1 h=> ?_)
 refine B7<|sv Z<|Bb Z G_hit [(di 0),(.d .nilS),(.d .nilS),(.d .nilS),(.d .nilS),(.d .nilS),(.d .nilS),(di 0)] Z (A1<|B5 ?_)
 cases h
 exact A9 (.inr Z) (B6 (Bf Z G_hit (nl Z) Z) C6) (.agg (ca Z<|.cons ⟨DLe.nil,Z⟩ (.cons ⟨DLe.nil,Z⟩ (.cons ⟨DLe.nil,Z⟩ (.cons ⟨DLe.nil,Z⟩ (.cons ⟨DLe.nil,Z⟩ (.cons ⟨DLe.nil,Z⟩ (cz Z))))))))
 refine B1<|lr<|fun u4 _=>sd Z (A7 Z (gq Z) Z Z)<|sv Z<|sv Z<|sm Z<|Bb Z G_hit ((I7 p1)++ [(dl A8 p2),(.d .nilS),(di 0)]) Z (A1<|A4<|B7<|sv Z<|sd Z (D0 Z)<|sv Z<|A1<|bs h fun y1 hy1 h=>D2 (fun s=> ∃g1:Nat,Sb ⟨T [(4,(.ptr (4,u1) 0)),(5,(.ptr (5,u4) 0))],G [((4,u1),some<|.box 169 [(di 0),(.d .nilS),(.d .nilS),(.d .nilS),(.d .nilS),(.d .nilS),(.d .nilS),(di 0)]),((5,u4),some<|.box 169 ((Gy y1).set 6 (oS y1.starts (27,g1)))),((27,g1),oB 2 1 A8 y1.starts)]⟩ s) ?_ ?_)
 refine A6<|E7 (Cc p1 p2) (fun (x1:(Int×RoadsWay)) (g2:Nat)=>⟨T [(2,(.ptr (2,u1) 0)),(4,(.ptr (4,u1) 0)),(5,(.ptr (5,u4) 0)),(16,(dl A8 p2)),(17,(di (p2.length:Int))),(18,(di x1.1))],G [((2,u1),some<|.box 27 (I7 p1)),((4,u1),some<|.box 169 [(di 0),(.d .nilS),(.d .nilS),(.d .nilS),(.d .nilS),(.d .nilS),(.d .nilS),(di 0)]),((5,u4),some<|.box 169 ((Gy x1.2).set 6 (oS x1.2.starts (27,g2)))),((27,g2),oB 2 1 A8 x1.2.starts)]⟩) (0,(RoadsWay.mk p1 p2 [] 0)) 0 _ hy1 (C0 (T3 Z)<|sg Z<|sg Z<|B2 G_hit (.of Z)<|U9 trivial) ?_
 intro x1 g2 z1 hz1 ez1
 unfold Cc at hz1
 refine B7<|sv Z<|A1<|A4<|cc Z hz1 (fun c2 hz1=> ?_)<|fun c2 hz1=> ?_
 refine B1<|A4<|A6<|B7<|bs hz1 fun _ hv2 hz1=>sd Z (C7 Z Z hv2 Z)<|sd Z (D9 Z hv2 Z)<|sv Z<|A1<|lr<|fun u8 _=>sq Z<|C1 (oS x1.2.starts (27,g2)) Z (Fr Z (gq Z) Z) (sq Z<|sl Z (gq Z) Z (C1 (dl A8 [x1.2.length]) Z Z (bs hz1 fun _ hv3 hz1=>N9 A8 (27,g2) x1.2.starts x1.2.length [] _ (J7<|fun _=>Z) Z (gq Z) hv3 (sq Z<|Bb Z (gq Z) ((Gy x1.2).set 6 (.sl (27,u8))) Z (A1<|A5 (s0:=⟨T [(2,(.ptr _ _)),(4,(.ptr _ _)),(5,(.ptr _ _)),(7,(.d _)),(16,(.d _)),(17,(.d _)),(18,(.d _))],G [((2,u1),some<|.box 27 _),((4,u1),some<|.box 169 _),((5,u4),some<|.box 169 _),((27,u8),some _)]⟩) (C9 Z Z) ?_)))))
 refine J2 Z<|sq Z<|sl Z (gq Z) Z (sd Z (A7 Z G_hit Z Z)<|sv Z<|bs hz1 fun v4 hv4 hz1=>B3 Z Z A2 (Fg _ _ _ hv4) (.inl Z) (sv Z<|sq Z<|Bb Z (gq Z) (((Gy x1.2).set 6 (.sl (27,u8))).set 7 (di<|C8 (x1.2.length+v4))) Z (A1<|E6<|B0<|sv Z<|sv Z<|A1<|F2 ?_)))
 cases hz1
 exact ⟨Z,u8,(C0 (T3 Z)<|sg Z<|sg Z<|B2 G_hit (.box (cv<|cv<|cv<|cv<|cv<|cv<|.cons (.of (Dy<|T1 hv3).symm) cw))<|U8 (gq Z) trivial)⟩
 refine C3 Z ?_
 cases hz1
 obtain rfl:=ez1 _ rfl
 refine ⟨nofun,B9 Z<|U0 ?_⟩
 exact ⟨g2,(C0 (T3 Z)<|sg Z<|sg Z<|C2 (gq Z) trivial)⟩
 rintro _ ⟨g1,q1⟩
 refine A5 q1<|B7<|C1 (Fx ((Gy y1).set 6 (oS y1.starts (27,g1)))) Z (A7 Z (gq Z) Z Z) (Uw _ _ _ _ _ (Ow _) Z Z G_hit (nl Z) ((Gy y1).set 6 (oS y1.starts (27,g1))) Z (A1<|B5 ?_))
 cases h
 exact A9 (.inr Z) (B6 (Bf Z G_hit (nl Z) Z)<|AG<|rD<|rD<|rD<|rD<|rD<|rD<|L9 (Ea<|gq Z)<|rD I0) (.agg (ca Z<|ca Z<|ca Z<|ca Z<|ca Z<|ca Z<|.cons ⟨Dz,Z⟩ (cz Z)))
def Md (p3:Int)(v1:RoadsWay)(x1:Int):Option (Stp Int Int):=
  (E5 v1.starts x1).bind fun v3=>cond (decide (v3>p3)) (some (.go (C8 (x1 - 1)))) (some (.out x1))
def In [Lp](p1:Map)(p2:(List Int))(p3:Int):Option (Int×Int×Bool):=
  (Hb p1 p2).bind fun v1=>((cond (!((v1.lanes.length:Int)==0)) (S6 p3 0 v1.length) (some default))).bind fun v2=>cond (((v1.lanes.length:Int)==0)||(!v2)) (some (0,0,false)) ((loop (Md p3 v1) (C8 ((v1.lanes.length:Int) - 1))).bind fun y1=>(E5 v1.lanes y1).bind fun v4=>(E5 v1.starts y1).bind fun v5=>some (v4,(C8 (p3 - v5)),true))
theorem AS(p1 p2 p3 r)(h:In p1 p2 p3=some r):PCall prog 34 [(.agg (L8 p1)),(.list (List.map A8 p2)),(i64 p3)] (.tup [(i64 r.1),(i64 r.2.1),(bo r.2.2)]):=by
 refine C5 (fk func34 ntmps34 m0 (by with_unfolding_all rfl)) (nl Z) ?_
 unfold In at h
 refine A5 (s0:=⟨T [(0,(.d _)),(1,(.d _)),(2,(.d _))],G []⟩) (C9 Z Z) ?_
 refine B7<|sm Z<|sv Z<|sv Z<|sv Z<|A1<|lr<|fun u2 _=>sd Z (A7 Z G_hit Z Z)<|sv Z<|bs h fun v1 hv1 h=>B3 Z Z A2 (Yc _ _ _ hv1) (.inl Z) (sm Z<|Bb Z G_hit (Gy v1) Z (A1<|A4<|B7<|sq Z<|sl Z G_hit Z<|sd Z (D0 Z)<|sv Z<|sv Z<|gf Z (fun _=>Z)<|gp Z (L5 Z) (fun _=>Z) (gf Z (vl Z G_hit Z)<|bs h fun v2 hv2 h=> ?_)))
 refine K7 _ (bo v2) (L5 Z) (fun w4=>⟨_,[(di p3),(di 0),(di v1.length)],_,_,(by simp only [A3 w4];rfl),Z,A2,S4 _ _ _ _<|D7 w4 hv2,(.inl Z)⟩) ?_
 refine Ba _ (.d (bo (!v2))) Z (L5 Z) (fun w5=>(by simp only [A3 w5];rfl)) ?_
 refine sd Z (Q5 Z Z<|fun hc=>A3<|L6 hc)<|A1<|cc Z h (fun c1 h=> ?_)<|fun c1 h=> ?_
 refine A4<|A5 (s0:=⟨T [],G []⟩) (C9 Z Z) ?_
 refine B0<|sv Z<|sv Z<|sv Z<|A1<|B5 ?_
 cases h
 exact A9 (.inr Z) (Xk (B4 Z) (B4 Z) (B4 Z) C6 C6 C6) (.refl _)
 refine B1<|A4<|A5 (s0:=⟨T [(2,(.d _)),(9,(.ptr _ _))],G [((9,u2),some<|.box 169 _)]⟩) (C9 Z Z) ?_
 refine B0<|sq Z<|sl Z G_hit Z<|sd Z (D0 Z)<|sv Z<|sv Z<|A1<|A4<|bs h fun y1 hy1 h=>D2 (fun s=> ∃g1:Unit,Sb ⟨T [(2,(di p3)),(9,(.ptr (9,u2) 0)),(10,(di y1))],G [((9,u2),some<|.box 169 (Gy v1))]⟩ s) ?_ ?_
 refine A6<|E7 (Md p3 v1) (fun (x1:Int) (g2:Unit)=>⟨T [(2,(di p3)),(9,(.ptr (9,u2) 0)),(10,(di x1))],G [((9,u2),some<|.box 169 (Gy v1))]⟩) (C8 ((v1.lanes.length:Int) - 1)) () _ hy1 (C9 Z Z) ?_
 intro x1 g2 z1 hz1 ez1
 unfold Md at hz1
 refine A4<|B7<|sq Z<|sl Z G_hit Z<|sv Z<|bs hz1 fun _ hv3 hz1=>sd Z (C7 Z Z hv3 Z)<|sd Z (D9 Z hv3 Z)<|sv Z<|sv Z<|A1<|cc Z hz1 (fun c2 hz1=> ?_)<|fun c2 hz1=> ?_
 refine B1<|A6<|B0<|sv Z<|sv Z<|sv Z<|A1<|E6<|F2 ?_
 cases hz1
 exact ⟨Z,(),(C9 Z Z)⟩
 refine C3 Z ?_
 cases hz1
 obtain rfl:=ez1 _ rfl
 refine ⟨nofun,B9 Z<|U0 ?_⟩
 exact ⟨(),(C9 Z Z)⟩
 rintro _ ⟨g1,q1⟩
 refine A5 q1<|A4<|J2 Z<|sq Z<|sl Z G_hit Z<|sv Z<|bs h fun _ hv4 h=>sd Z (C7 Z Z hv4 Z)<|sd Z (D9 Z hv4 Z)<|sv Z<|sq Z<|sl Z G_hit Z<|sv Z<|bs h fun _ hv5 h=>sd Z (C7 Z Z hv5 Z)<|sd Z (D9 Z hv5 Z)<|sv Z<|sv Z<|sv Z<|sv Z<|A1<|B5 ?_
 cases h
 exact A9 (.inr Z) (Xk (B4 Z) (B4 Z) (B4 Z) C6 C6 C6) (.refl _)
def Jf (p1:Part)(p2:Int):Option Bool:=
  some (p1.Lane_==p2)
theorem Vc(p1 p2 r)(h:Jf p1 p2=some r):PCall prog 229 [(.agg (H9 p1)),(.bp [(i64 p2)] 0)] (bo r):=by
 refine C5 (fk func229 ntmps229 m0 (by with_unfolding_all rfl)) (nl Z) ?_
 unfold Jf at h
 refine A5 (s0:=⟨T [(0,(.d _)),(1,(.d _))],G []⟩) (C9 Z Z) ?_
 refine B7<|sm Z<|sv Z<|A1<|B7<|sq Z<|sl Z G_hit Z<|sv Z<|sv Z<|sv Z<|A1<|B5 ?_
 cases h
 exact A9 (.inr Z) (B6 (B4 Z) C6) (.refl _)
def J3 (p1:(List Part))(p2:Int)(x1:Int):Option (Stp Int (Sum Unit Int)):=
  cond (decide (x1< (p1.length:Int))) ((E5 p1 x1).bind fun v1=>(Jf v1 p2).bind fun v2=>cond v2 (some (.out (.inr x1))) (some (.go (C8 (x1+1))))) (some (.out (.inl ())))
def G9 [Lp](p1:(List Part))(p2:Int):Option Int:=
  thenS (loop (J3 p1 p2) 0) (fun _=>some (-1)) (fun r=>some r)
theorem Dx(p1 p2 r)(h:G9 p1 p2=some r):PCall prog 228 [(.list (List.map H9 p1)),(.fn (.func 229) [] [(.bp [(i64 p2)] 0)])] (i64 r):=by
 refine C5 (fk func228 ntmps228 m0 (by with_unfolding_all rfl)) (nl Z) ?_
 unfold G9 at h
 refine A5 (s0:=⟨T [(0,(.d _)),(1,(.d _))],G []⟩) (C9 Z Z) ?_
 refine B7<|sv Z<|A1<|A4<|B7<|sv Z<|sd Z (D0 Z)<|sv Z<|A1<|js h fun z1 hz1 h=>D2 (fun s=> ∃(y1:Unit) (g1:Unit),z1= .inl y1∧Sb ⟨T [],G []⟩ s) ?_ ?_
 refine A6<|E7 (J3 p1 p2) (fun (x1:Int) (g2:Unit)=>⟨T [(0,(dl H9 p1)),(1,(.d (.fn (.func 229) [] [(.bp [(i64 p2)] 0)]))),(7,(di (p1.length:Int))),(8,(di x1))],G []⟩) 0 () _ hz1 (C9 Z Z) ?_
 intro x1 g2 z2 hz2 ez2
 unfold J3 at hz2
 refine B7<|sv Z<|A1<|A4<|cc Z hz2 (fun c1 hz2=> ?_)<|fun c1 hz2=> ?_
 refine B1<|A4<|A6<|B7<|sv Z<|sv Z<|A1<|B7<|sv Z<|sv Z<|sv Z<|bs hz2 fun _ hv1 hz2=>sd Z (C7 Z Z hv1 Z)<|sd Z (D5 Z hv1 Z Z)<|bs hz2 fun _ hv2 hz2=>B3 Z Z A2 (Vc _ _ _ hv2) (.inl Z) (A1<|cc Z hz2 (fun c2 hz2=> ?_)<|fun c2 hz2=> ?_)
 refine B7<|sv Z<|sv Z<|A1<|B5 ?_
 cases hz2
 obtain rfl:=ez2 _ rfl
 refine ⟨nofun,F6 ?_⟩
 rw [bL]at h
 cases h
 exact A9 (.inr Z) (B6 (B4 Z) C6) (.refl _)
 refine B1<|E6<|B0<|sv Z<|sv Z<|A1<|F2 ?_
 cases hz2
 exact ⟨Z,(),(C9 Z Z)⟩
 refine C3 Z ?_
 cases hz2
 obtain rfl:=ez2 _ rfl
 refine ⟨nofun,B9 Z<|U0 ?_⟩
 exact ⟨_,(),Z,(C9 Z Z)⟩
 rintro _ ⟨y1,g1,rfl,q1⟩
 rw [bK]at h
 refine A5 q1<|B7<|sv Z<|A1<|B5 ?_
 cases h
 exact A9 (.inr Z) (B6 (B4 Z) C6) (.refl _)
def X9 [Lp](p1:Zone)(p2:Int):Option (Part×Bool):=
  (G9 p1.Parts p2).bind fun v1=>cond (decide (v1<0)) (some ((Part.mk 0 0 0 0),false)) ((E5 p1.Parts v1).bind fun v2=>some (v2,true))
theorem Fh(p1 p2 r)(h:X9 p1 p2=some r):PCall prog 147 [(.agg [(.list (List.map H9 p1.Parts)),(i64 p1.Signal_)]),(i64 p2)] (.tup [(.agg (H9 r.1)),(bo r.2)]):=by
 refine C5 (fk func147 ntmps147 m0 (by with_unfolding_all rfl)) (nl Z) ?_
 unfold X9 at h
 refine A5 (s0:=⟨T [(0,(.d _)),(1,(.d _))],G []⟩) (C9 Z Z) ?_
 refine B7<|sm Z<|sn Z Z<|sm Z<|sv Z<|A1<|B7<|sq Z<|sl Z (gq Z) Z (C1 (.fn _ _ _) Z Z (bs h fun _ hv1 h=>B3 Z (rD<|L9 (Qq I0<|L9 (Fq (gq Z)<|rD I0) I0) I0) A2 (Dx _ _ _ hv1) (.inr Z) (sv Z<|A1<|A4<|B7<|sv Z<|sv Z<|A1<|cc Z h (fun c1 h=> ?_)<|fun c1 h=> ?_)))
 refine B7<|sv Z<|Bb Z G_hit (zs 4) Z (sv Z<|A1<|B5 ?_)
 cases h
 exact A9 (.inr Z) (Zy (Bf Z G_hit (nl Z) Z) (B4 Z) C6 C6) (.refl _)
 refine B1<|B7<|sq Z<|sl Z (gq Z) Z (sv Z<|bs h fun v2 hv2 h=>sd Z (C7 Z Z hv2 Z)<|sd Z (D5 Z hv2 Z Z)<|Bb Z G_hit (Fz v2) Z (sv Z<|A1<|B5 ?_))
 cases h
 exact A9 (.inr Z) (Zy (Bf Z G_hit (nl Z) Z) (B4 Z) C6 C6) (.refl _)
def W8 [Lp](p1:Map)(p2:Zone)(v2:(List Int))(x1:Int):Option (Stp Int (Sum Unit Bool)):=
  cond (decide (x1< (v2.length:Int))) ((E5 v2 x1).bind fun v3=>(X9 p2 v3).bind fun v4=>((cond (!(!v4.2)) (V4 p1 v3) (some default))).bind fun v5=>cond ((!v4.2)||(v4.1.To !=v5)) (some (.out (.inr false))) (some (.go (C8 (x1+1))))) (some (.out (.inl ())))
def Ar [Lp](p1:Map)(p2:Zone)(p3:Int):Option Bool:=
  (X9 p2 p3).bind fun v1=>cond ((!v1.2)||(v1.1.From !=0)) (some false) ((Z4 p1 p3).bind fun v2=>thenS (loop (W8 p1 p2 v2) 0) (fun _=>some true) (fun r=>some r))
theorem Pm(p1 p2 p3 r)(h:Ar p1 p2 p3=some r):PCall prog 181 [(.agg (L8 p1)),(.agg [(.list (List.map H9 p2.Parts)),(i64 p2.Signal_)]),(i64 p3)] (bo r):=by
 refine C5 (fk func181 ntmps181 m0 (by with_unfolding_all rfl)) (nl Z) ?_
 unfold Ar at h
 refine A5 (s0:=⟨T [(0,(.d _)),(1,(.d _)),(2,(.d _))],G []⟩) (C9 Z Z) ?_
 refine lr<|fun u1 _=>sm Z<|sm Z<|sv Z<|A1<|B7<|sd Z (A7 Z G_hit Z Z)<|sv Z<|bs h fun v1 hv1 h=>B3 Z Z A2 (Fh _ _ _ hv1) (.inl Z) (sv Z<|sv Z<|sv Z<|sm Z<|Bb Z G_hit (Fz v1.1) Z (sv Z<|A1<|A4<|B7<|sv Z<|C1 (.d (bo (!v1.2))) Z Z (sv Z<|gp Z (L5 Z) (fun _=>Z) (gf Z (vl Z G_hit Z)<|gf Z (vb Z Z Z)<|sd Z (Q5 Z Z<|fun hc=>A3<|L6 hc)<|A1<|cc Z h (fun c1 h=> ?_)<|fun c1 h=> ?_))))
 refine A4<|A5 (s0:=⟨T [],G []⟩) (C9 Z Z) ?_
 refine B0<|sv Z<|A1<|B5 ?_
 cases h
 exact A9 (.inr Z) (B6 (B4 Z) C6) (.refl _)
 refine B1<|A4<|A4<|A5 (s0:=⟨T [(2,(.d _)),(3,(.ptr _ _)),(4,(.ptr _ _))],G [((3,u1),some<|.box 27 _),((4,u1),some<|.box 45 _)]⟩) (C9 Z Z) ?_
 refine B0<|sd Z (A7 Z G_hit Z Z)<|sv Z<|bs h fun v2 hv2 h=>B3 Z Z A2 (Ko _ _ _ hv2) (.inl Z) (sd Z (D0 Z)<|sv Z<|A1<|js h fun z1 hz1 h=>D2 (fun s=> ∃(y1:Unit) (g1:Unit),z1= .inl y1∧Sb ⟨T [],G []⟩ s) ?_ ?_)
 refine A6<|E7 (W8 p1 p2 v2) (fun (x1:Int) (g2:Unit)=>⟨T [(3,(.ptr (3,u1) 0)),(4,(.ptr (4,u1) 0)),(28,(dl A8 v2)),(29,(di (v2.length:Int))),(30,(di x1))],G [((3,u1),some<|.box 27 (I7 p1)),((4,u1),some<|.box 45 [(dl H9 p2.Parts),(di p2.Signal_)])]⟩) 0 () _ hz1 (C9 Z Z) ?_
 intro x1 g2 z2 hz2 ez2
 unfold W8 at hz2
 refine B7<|sv Z<|A1<|A4<|cc Z hz2 (fun c2 hz2=> ?_)<|fun c2 hz2=> ?_
 refine B1<|A4<|A6<|B7<|bs hz2 fun v3 hv3 hz2=>sd Z (C7 Z Z hv3 Z)<|sd Z (D9 Z hv3 Z)<|sv Z<|A1<|B7<|sd Z (A7 Z (gq Z) Z Z)<|sv Z<|bs hz2 fun v4 hv4 hz2=>B3 Z Z A2 (Fh _ _ _ hv4) (.inl Z) (sv Z<|sv Z<|sv Z<|sm Z<|Bb Z G_hit (Fz v4.1) Z (sv Z<|A1<|A4<|J2 Z<|sv Z<|C1 (.d (bo (!v4.2))) Z Z (sv Z<|gp Z (L5 Z) (fun _=>Z) (gf Z (vl Z G_hit Z)<|gf Z (fun _=>(A7 Z (gq Z) Z Z))<|gf Z (fun _=>Z)<|bs hz2 fun v5 hv5 hz2=> ?_))))
 refine K7 _ (i64 v5) (L5 Z) (fun w8=>⟨_,[(.d (.agg (L8 p1))),(di v3)],_,_,(by simp only [A3 w8];rfl),Z,A2,Fg _ _ _<|D7 w8 hv5,(.inl Z)⟩) ?_
 refine gf Z (fun w9=>(Q1 (A3 w9) (A3 w9) Z))<|sd Z (Q5 Z Z<|fun hc=>A3<|L6 hc)<|A1<|cc Z hz2 (fun c3 hz2=> ?_)<|fun c3 hz2=> ?_
 refine A4<|A5 (s0:=⟨T [],G []⟩) (C9 Z Z) ?_
 refine B0<|sv Z<|A1<|B5 ?_
 cases hz2
 obtain rfl:=ez2 _ rfl
 refine ⟨nofun,F6 ?_⟩
 rw [bL]at h
 cases h
 exact A9 (.inr Z) (B6 (B4 Z) C6) (.refl _)
 refine B1<|E6<|A5 (s0:=⟨T [(3,(.ptr _ _)),(4,(.ptr _ _)),(28,(.d _)),(29,(.d _)),(30,(.d _))],G [((3,u1),some<|.box 27 _),((4,u1),some<|.box 45 _)]⟩) (C9 Z Z) ?_
 refine B0<|sv Z<|sv Z<|A1<|F2 ?_
 cases hz2
 exact ⟨Z,(),(C9 Z Z)⟩
 refine C3 Z ?_
 cases hz2
 obtain rfl:=ez2 _ rfl
 refine ⟨nofun,B9 Z<|U0 ?_⟩
 exact ⟨_,(),Z,(C9 Z Z)⟩
 rintro _ ⟨y1,g1,rfl,q1⟩
 rw [bK]at h
 refine A5 q1<|B7<|sv Z<|A1<|B5 ?_
 cases h
 exact A9 (.inr Z) (B6 (B4 Z) C6) (.refl _)
def Bn (x1:(Int× (Int×Int×Int×Int×Int×Int×Int×Int×Int×Int×Int×Int)))(v1:Lane)(x2:(Int× (Int×Int×Int×Int×Int×Int×Int×Int×Int×Int×Int×Int))):Option (Stp (Int× (Int×Int×Int×Int×Int×Int×Int×Int×Int×Int×Int×Int)) (Int×Int×Int×Int×Int×Int×Int×Int×Int×Int×Int×Int)):=
  cond (decide (x2.1< (v1.Next.length:Int))) ((E5 v1.Next x2.1).bind fun v2=>(E5 ([x2.2.1,x2.2.2.1,x2.2.2.2.1,x2.2.2.2.2.1,x2.2.2.2.2.2.1,x2.2.2.2.2.2.2.1,x2.2.2.2.2.2.2.2.1,x2.2.2.2.2.2.2.2.2.1,x2.2.2.2.2.2.2.2.2.2.1,x2.2.2.2.2.2.2.2.2.2.2.1,x2.2.2.2.2.2.2.2.2.2.2.2.1,x2.2.2.2.2.2.2.2.2.2.2.2.2]:List Int) x1.1).bind fun v3=>(E5 ([x2.2.1,x2.2.2.1,x2.2.2.2.1,x2.2.2.2.2.1,x2.2.2.2.2.2.1,x2.2.2.2.2.2.2.1,x2.2.2.2.2.2.2.2.1,x2.2.2.2.2.2.2.2.2.1,x2.2.2.2.2.2.2.2.2.2.1,x2.2.2.2.2.2.2.2.2.2.2.1,x2.2.2.2.2.2.2.2.2.2.2.2.1,x2.2.2.2.2.2.2.2.2.2.2.2.2]:List Int) v2).bind fun v4=>(QO .u32 1 (IntKind.wrap .u64 v2)).bind fun v5=>(E5 ([x2.2.1,x2.2.2.1,x2.2.2.2.1,x2.2.2.2.2.1,x2.2.2.2.2.2.1,x2.2.2.2.2.2.2.1,x2.2.2.2.2.2.2.2.1,x2.2.2.2.2.2.2.2.2.1,x2.2.2.2.2.2.2.2.2.2.1,x2.2.2.2.2.2.2.2.2.2.2.1,x2.2.2.2.2.2.2.2.2.2.2.2.1,x2.2.2.2.2.2.2.2.2.2.2.2.2]:List Int) x1.1).bind fun v6=>(MS ([x2.2.1,x2.2.2.1,x2.2.2.2.1,x2.2.2.2.2.1,x2.2.2.2.2.2.1,x2.2.2.2.2.2.2.1,x2.2.2.2.2.2.2.2.1,x2.2.2.2.2.2.2.2.2.1,x2.2.2.2.2.2.2.2.2.2.1,x2.2.2.2.2.2.2.2.2.2.2.1,x2.2.2.2.2.2.2.2.2.2.2.2.1,x2.2.2.2.2.2.2.2.2.2.2.2.2]:List Int) x1.1 (IntKind.wrap .u32 (((BitVec.ofInt (IntKind.bits .u32) v3|||(BitVec.ofInt (IntKind.bits .u32) (IntKind.wrap .u32 (((BitVec.ofInt (IntKind.bits .u32) v4|||(BitVec.ofInt (IntKind.bits .u32) v5)).toNat:Nat))))).toNat:Nat)))).bind fun v7=>some (.go ((C8 (x2.1+1)),((v7.getD 0 0),(v7.getD 1 0),(v7.getD 2 0),(v7.getD 3 0),(v7.getD 4 0),(v7.getD 5 0),(v7.getD 6 0),(v7.getD 7 0),(v7.getD 8 0),(v7.getD 9 0),(v7.getD 10 0),(v7.getD 11 0))))) (some (.out x2.2))
def Ac [Lp](p1:Map)(x1:(Int× (Int×Int×Int×Int×Int×Int×Int×Int×Int×Int×Int×Int))):Option (Stp (Int× (Int×Int×Int×Int×Int×Int×Int×Int×Int×Int×Int×Int)) (Int×Int×Int×Int×Int×Int×Int×Int×Int×Int×Int×Int)):=
  cond (decide (x1.1≥0)) ((E5 p1.Lanes x1.1).bind fun v1=>(loop (Bn x1 v1) (0,x1.2)).bind fun y2=>some (.go ((C8 (x1.1 - 1)),y2))) (some (.out x1.2))
def Eb [Lp](p1:Map):Option (Int×Int×Int×Int×Int×Int×Int×Int×Int×Int×Int×Int):=
  (loop (Ac p1) ((C8 ((p1.Lanes.length:Int) - 1)),(0,0,0,0,0,0,0,0,0,0,0,0))).bind fun y1=>some y1
theorem AT(p1 r)(h:Eb p1=some r):PCall prog 244 [(.agg (L8 p1))] (.agg [(.v (.int .u32 r.1)),(.v (.int .u32 r.2.1)),(.v (.int .u32 r.2.2.1)),(.v (.int .u32 r.2.2.2.1)),(.v (.int .u32 r.2.2.2.2.1)),(.v (.int .u32 r.2.2.2.2.2.1)),(.v (.int .u32 r.2.2.2.2.2.2.1)),(.v (.int .u32 r.2.2.2.2.2.2.2.1)),(.v (.int .u32 r.2.2.2.2.2.2.2.2.1)),(.v (.int .u32 r.2.2.2.2.2.2.2.2.2.1)),(.v (.int .u32 r.2.2.2.2.2.2.2.2.2.2.1)),(.v (.int .u32 r.2.2.2.2.2.2.2.2.2.2.2))]):=by
 refine C5 (fk func244 ntmps244 m0 (by with_unfolding_all rfl)) (nl Z) ?_
 unfold Eb at h
 refine A5 (s0:=⟨T [(0,(.d _))],G []⟩) (C9 Z Z) ?_
 refine lr<|fun u1 _=>sm Z<|sm Z<|A1<|lr<|fun u2 _=>sm Z<|A1<|A4<|B7<|sq Z<|sl Z (gq Z) Z (sd Z (D0 Z)<|sv Z<|sv Z<|A1<|bs h fun y1 hy1 h=>D2 (fun s=> ∃g1:Unit,Sb ⟨T [(2,(.ptr (2,u1) 0)),(3,(.ptr (3,u2) 0))],G [((2,u1),some<|.box 267 [(.d (.v (.int .u32 0))),(.d (.v (.int .u32 0))),(.d (.v (.int .u32 0))),(.d (.v (.int .u32 0))),(.d (.v (.int .u32 0))),(.d (.v (.int .u32 0))),(.d (.v (.int .u32 0))),(.d (.v (.int .u32 0))),(.d (.v (.int .u32 0))),(.d (.v (.int .u32 0))),(.d (.v (.int .u32 0))),(.d (.v (.int .u32 0)))]),((3,u2),some<|.box 267 [(.d (.v (.int .u32 y1.1))),(.d (.v (.int .u32 y1.2.1))),(.d (.v (.int .u32 y1.2.2.1))),(.d (.v (.int .u32 y1.2.2.2.1))),(.d (.v (.int .u32 y1.2.2.2.2.1))),(.d (.v (.int .u32 y1.2.2.2.2.2.1))),(.d (.v (.int .u32 y1.2.2.2.2.2.2.1))),(.d (.v (.int .u32 y1.2.2.2.2.2.2.2.1))),(.d (.v (.int .u32 y1.2.2.2.2.2.2.2.2.1))),(.d (.v (.int .u32 y1.2.2.2.2.2.2.2.2.2.1))),(.d (.v (.int .u32 y1.2.2.2.2.2.2.2.2.2.2.1))),(.d (.v (.int .u32 y1.2.2.2.2.2.2.2.2.2.2.2)))])]⟩ s) ?_ ?_)
 refine A6<|E7 (Ac p1) (fun (x1:(Int× (Int×Int×Int×Int×Int×Int×Int×Int×Int×Int×Int×Int))) (g2:Unit)=>⟨T [(1,(.ptr (1,u1) 0)),(2,(.ptr (2,u1) 0)),(3,(.ptr (3,u2) 0)),(4,(di x1.1))],G [((1,u1),some<|.box 27 (I7 p1)),((2,u1),some<|.box 267 [(.d (.v (.int .u32 0))),(.d (.v (.int .u32 0))),(.d (.v (.int .u32 0))),(.d (.v (.int .u32 0))),(.d (.v (.int .u32 0))),(.d (.v (.int .u32 0))),(.d (.v (.int .u32 0))),(.d (.v (.int .u32 0))),(.d (.v (.int .u32 0))),(.d (.v (.int .u32 0))),(.d (.v (.int .u32 0))),(.d (.v (.int .u32 0)))]),((3,u2),some<|.box 267 [(.d (.v (.int .u32 x1.2.1))),(.d (.v (.int .u32 x1.2.2.1))),(.d (.v (.int .u32 x1.2.2.2.1))),(.d (.v (.int .u32 x1.2.2.2.2.1))),(.d (.v (.int .u32 x1.2.2.2.2.2.1))),(.d (.v (.int .u32 x1.2.2.2.2.2.2.1))),(.d (.v (.int .u32 x1.2.2.2.2.2.2.2.1))),(.d (.v (.int .u32 x1.2.2.2.2.2.2.2.2.1))),(.d (.v (.int .u32 x1.2.2.2.2.2.2.2.2.2.1))),(.d (.v (.int .u32 x1.2.2.2.2.2.2.2.2.2.2.1))),(.d (.v (.int .u32 x1.2.2.2.2.2.2.2.2.2.2.2.1))),(.d (.v (.int .u32 x1.2.2.2.2.2.2.2.2.2.2.2.2)))])]⟩) ((C8 ((p1.Lanes.length:Int) - 1)),(0,0,0,0,0,0,0,0,0,0,0,0)) () _ hy1 (C9 Z Z) ?_
 intro x1 g2 z1 hz1 ez1
 unfold Ac at hz1
 refine A4<|B7<|sv Z<|sv Z<|A1<|cc Z hz1 (fun c1 hz1=> ?_)<|fun c1 hz1=> ?_
 refine B1<|A4<|A6<|B7<|sq Z<|sl Z G_hit Z<|sv Z<|bs hz1 fun v1 hv1 hz1=>sd Z (C7 Z Z hv1 Z)<|sv Z<|sd Z (D9 Z hv1 Z)<|sd Z (D0 Z)<|sv Z<|A1<|bs hz1 fun y2 hy2 hz1=>D2 (fun s=> ∃g3:Unit,Sb ⟨T [(1,(.ptr (1,u1) 0)),(2,(.ptr (2,u1) 0)),(3,(.ptr (3,u2) 0)),(4,(di x1.1))],G [((1,u1),some<|.box 27 (I7 p1)),((2,u1),some<|.box 267 [(.d (.v (.int .u32 0))),(.d (.v (.int .u32 0))),(.d (.v (.int .u32 0))),(.d (.v (.int .u32 0))),(.d (.v (.int .u32 0))),(.d (.v (.int .u32 0))),(.d (.v (.int .u32 0))),(.d (.v (.int .u32 0))),(.d (.v (.int .u32 0))),(.d (.v (.int .u32 0))),(.d (.v (.int .u32 0))),(.d (.v (.int .u32 0)))]),((3,u2),some<|.box 267 [(.d (.v (.int .u32 y2.1))),(.d (.v (.int .u32 y2.2.1))),(.d (.v (.int .u32 y2.2.2.1))),(.d (.v (.int .u32 y2.2.2.2.1))),(.d (.v (.int .u32 y2.2.2.2.2.1))),(.d (.v (.int .u32 y2.2.2.2.2.2.1))),(.d (.v (.int .u32 y2.2.2.2.2.2.2.1))),(.d (.v (.int .u32 y2.2.2.2.2.2.2.2.1))),(.d (.v (.int .u32 y2.2.2.2.2.2.2.2.2.1))),(.d (.v (.int .u32 y2.2.2.2.2.2.2.2.2.2.1))),(.d (.v (.int .u32 y2.2.2.2.2.2.2.2.2.2.2.1))),(.d (.v (.int .u32 y2.2.2.2.2.2.2.2.2.2.2.2)))])]⟩ s) ?_ ?_
 refine A6<|E7 (Bn x1 v1) (fun (x2:(Int× (Int×Int×Int×Int×Int×Int×Int×Int×Int×Int×Int×Int))) (g4:Unit)=>⟨T [(1,(.ptr (1,u1) 0)),(2,(.ptr (2,u1) 0)),(3,(.ptr (3,u2) 0)),(4,(di x1.1)),(20,(dl A8 v1.Next)),(21,(di (v1.Next.length:Int))),(22,(di x2.1))],G [((1,u1),some<|.box 27 (I7 p1)),((2,u1),some<|.box 267 [(.d (.v (.int .u32 0))),(.d (.v (.int .u32 0))),(.d (.v (.int .u32 0))),(.d (.v (.int .u32 0))),(.d (.v (.int .u32 0))),(.d (.v (.int .u32 0))),(.d (.v (.int .u32 0))),(.d (.v (.int .u32 0))),(.d (.v (.int .u32 0))),(.d (.v (.int .u32 0))),(.d (.v (.int .u32 0))),(.d (.v (.int .u32 0)))]),((3,u2),some<|.box 267 [(.d (.v (.int .u32 x2.2.1))),(.d (.v (.int .u32 x2.2.2.1))),(.d (.v (.int .u32 x2.2.2.2.1))),(.d (.v (.int .u32 x2.2.2.2.2.1))),(.d (.v (.int .u32 x2.2.2.2.2.2.1))),(.d (.v (.int .u32 x2.2.2.2.2.2.2.1))),(.d (.v (.int .u32 x2.2.2.2.2.2.2.2.1))),(.d (.v (.int .u32 x2.2.2.2.2.2.2.2.2.1))),(.d (.v (.int .u32 x2.2.2.2.2.2.2.2.2.2.1))),(.d (.v (.int .u32 x2.2.2.2.2.2.2.2.2.2.2.1))),(.d (.v (.int .u32 x2.2.2.2.2.2.2.2.2.2.2.2.1))),(.d (.v (.int .u32 x2.2.2.2.2.2.2.2.2.2.2.2.2)))])]⟩) (0,x1.2) () _ hy2 (C9 Z Z) ?_
 intro x2 g4 z2 hz2 ez2
 unfold Bn at hz2
 refine B7<|sv Z<|A1<|A4<|cc Z hz2 (fun c2 hz2=> ?_)<|fun c2 hz2=> ?_
 refine B1<|A4<|A6<|B7<|bs hz2 fun _ hv2 hz2=>sd Z (C7 Z Z hv2 Z)<|sd Z (D9 Z hv2 Z)<|sv Z<|A1<|J2 Z<|sv Z<|bs hz2 fun _ hv3 hz2=>sp Z (Va Z Z hv3 Z)<|sd Z (AR (f:=fun x=>(.v (.int .u32 x))) Z (gq Z) hv3 Z)<|sv Z<|bs hz2 fun _ hv4 hz2=>sp Z (Va Z Z hv4 Z)<|sd Z (AR (f:=fun x=>(.v (.int .u32 x))) Z (gq Z) hv4 Z)<|sv Z<|sv Z<|bs hz2 fun _ hv5 hz2=>sd Z (YE Z Z hv5)<|sv Z<|sv Z<|bs hz2 fun _ hv6 hz2=>sp Z (Va Z Z hv6 Z)<|bs hz2 fun v7 hv7 hz2=>Uw _ _ _ _ _ Z Z Z (gq Z) (YD (xs:=([x2.2.1,x2.2.2.1,x2.2.2.2.1,x2.2.2.2.2.1,x2.2.2.2.2.2.1,x2.2.2.2.2.2.2.1,x2.2.2.2.2.2.2.2.1,x2.2.2.2.2.2.2.2.2.1,x2.2.2.2.2.2.2.2.2.2.1,x2.2.2.2.2.2.2.2.2.2.2.1,x2.2.2.2.2.2.2.2.2.2.2.2.1,x2.2.2.2.2.2.2.2.2.2.2.2.2]:List Int)) hv7 Z) [(.d (.v (.int .u32 (v7.getD 0 0)))),(.d (.v (.int .u32 (v7.getD 1 0)))),(.d (.v (.int .u32 (v7.getD 2 0)))),(.d (.v (.int .u32 (v7.getD 3 0)))),(.d (.v (.int .u32 (v7.getD 4 0)))),(.d (.v (.int .u32 (v7.getD 5 0)))),(.d (.v (.int .u32 (v7.getD 6 0)))),(.d (.v (.int .u32 (v7.getD 7 0)))),(.d (.v (.int .u32 (v7.getD 8 0)))),(.d (.v (.int .u32 (v7.getD 9 0)))),(.d (.v (.int .u32 (v7.getD 10 0)))),(.d (.v (.int .u32 (v7.getD 11 0))))] (WX (fun x=>(.v (.int .u32 x))) 0 hv7) (A1<|E6<|A5 (s0:=⟨T [(1,(.ptr _ _)),(2,(.ptr _ _)),(3,(.ptr _ _)),(4,(.d _)),(20,(.d _)),(21,(.d _)),(22,(.d _))],G [((1,u1),some<|.box 27 _),((2,u1),some<|.box 267 _),((3,u2),some<|.box 267 _)]⟩) (C9 Z Z) ?_)
 refine B0<|sv Z<|sv Z<|A1<|F2 ?_
 cases hz2
 exact ⟨Z,(),(C9 Z Z)⟩
 refine C3 Z ?_
 cases hz2
 obtain rfl:=ez2 _ rfl
 refine ⟨nofun,B9 Z<|U0 ?_⟩
 exact ⟨(),(C9 Z Z)⟩
 rintro _ ⟨g3,q1⟩
 refine E6<|A5 q1<|B0<|sv Z<|sv Z<|sv Z<|A1<|F2 ?_
 cases hz1
 exact ⟨Z,(),(C9 Z Z)⟩
 refine C3 Z ?_
 cases hz1
 obtain rfl:=ez1 _ rfl
 refine ⟨nofun,B9 Z<|U0 ?_⟩
 exact ⟨(),(C9 Z Z)⟩
 rintro _ ⟨g1,q2⟩
 refine A5 q2<|B7<|sd Z (A7 Z (gq Z) Z Z)<|Bb Z G_hit [(.d (.v (.int .u32 y1.1))),(.d (.v (.int .u32 y1.2.1))),(.d (.v (.int .u32 y1.2.2.1))),(.d (.v (.int .u32 y1.2.2.2.1))),(.d (.v (.int .u32 y1.2.2.2.2.1))),(.d (.v (.int .u32 y1.2.2.2.2.2.1))),(.d (.v (.int .u32 y1.2.2.2.2.2.2.1))),(.d (.v (.int .u32 y1.2.2.2.2.2.2.2.1))),(.d (.v (.int .u32 y1.2.2.2.2.2.2.2.2.1))),(.d (.v (.int .u32 y1.2.2.2.2.2.2.2.2.2.1))),(.d (.v (.int .u32 y1.2.2.2.2.2.2.2.2.2.2.1))),(.d (.v (.int .u32 y1.2.2.2.2.2.2.2.2.2.2.2)))] Z (A1<|B5 ?_)
 cases h
 exact A9 (.inr Z) (B6 (Bf Z G_hit (nl Z) Z) C6) (.refl _)
def Fi (p1:Int)(p2:Int):Option Bool:=
  (UE .u32 p1 (IntKind.wrap .u64 p2)).bind fun v1=>some ((IntKind.wrap .u32 (((BitVec.ofInt (IntKind.bits .u32) v1&&&(BitVec.ofInt (IntKind.bits .u32) 1)).toNat:Nat)))==1)
theorem Wf(p1 p2 r)(h:Fi p1 p2=some r):PCall prog 247 [(.v (.int .u32 p1)),(i64 p2)] (bo r):=by
 refine C5 (fk func247 ntmps247 m0 (by with_unfolding_all rfl)) (nl Z) ?_
 unfold Fi at h
 refine A5 (s0:=⟨T [(0,(.d _)),(1,(.d _))],G []⟩) (C9 Z Z) ?_
 refine B7<|sv Z<|A1<|B7<|sv Z<|sv Z<|sv Z<|bs h fun _ hv1 h=>sd Z (YF Z Z hv1)<|sv Z<|sv Z<|sv Z<|A1<|B5 ?_
 cases h
 exact A9 (.inr Z) (B6 (B4 Z) C6) (.refl _)
def Fu (p1:Part)(p2:(Int×Int×Int×Int×Int×Int×Int×Int×Int×Int×Int×Int))(p3:Int):Option Bool:=
  (E5 ([p2.1,p2.2.1,p2.2.2.1,p2.2.2.2.1,p2.2.2.2.2.1,p2.2.2.2.2.2.1,p2.2.2.2.2.2.2.1,p2.2.2.2.2.2.2.2.1,p2.2.2.2.2.2.2.2.2.1,p2.2.2.2.2.2.2.2.2.2.1,p2.2.2.2.2.2.2.2.2.2.2.1,p2.2.2.2.2.2.2.2.2.2.2.2]:List Int) p1.Lane_).bind fun v1=>(Fi v1 p3).bind fun v2=>some v2
theorem Ra(p1 p2 p3 r)(h:Fu p1 p2 p3=some r):MCall prog 246 [(.d (.agg (H9 p1))),(.ptr (900000,0) 0),(.ptr (900001,0) 0)] [(.box 267 [(.d (.v (.int .u32 p2.1))),(.d (.v (.int .u32 p2.2.1))),(.d (.v (.int .u32 p2.2.2.1))),(.d (.v (.int .u32 p2.2.2.2.1))),(.d (.v (.int .u32 p2.2.2.2.2.1))),(.d (.v (.int .u32 p2.2.2.2.2.2.1))),(.d (.v (.int .u32 p2.2.2.2.2.2.2.1))),(.d (.v (.int .u32 p2.2.2.2.2.2.2.2.1))),(.d (.v (.int .u32 p2.2.2.2.2.2.2.2.2.1))),(.d (.v (.int .u32 p2.2.2.2.2.2.2.2.2.2.1))),(.d (.v (.int .u32 p2.2.2.2.2.2.2.2.2.2.2.1))),(.d (.v (.int .u32 p2.2.2.2.2.2.2.2.2.2.2.2)))]),(.box 3 [(di p3)])] (.d (bo r)) [some (.box 267 [(.d (.v (.int .u32 p2.1))),(.d (.v (.int .u32 p2.2.1))),(.d (.v (.int .u32 p2.2.2.1))),(.d (.v (.int .u32 p2.2.2.2.1))),(.d (.v (.int .u32 p2.2.2.2.2.1))),(.d (.v (.int .u32 p2.2.2.2.2.2.1))),(.d (.v (.int .u32 p2.2.2.2.2.2.2.1))),(.d (.v (.int .u32 p2.2.2.2.2.2.2.2.1))),(.d (.v (.int .u32 p2.2.2.2.2.2.2.2.2.1))),(.d (.v (.int .u32 p2.2.2.2.2.2.2.2.2.2.1))),(.d (.v (.int .u32 p2.2.2.2.2.2.2.2.2.2.2.1))),(.d (.v (.int .u32 p2.2.2.2.2.2.2.2.2.2.2.2)))]),some (.box 3 [(di p3)])] []:=by
 refine Ys (fk func246 ntmps246 m0 (by with_unfolding_all rfl)) Z (nl Z) ?_
 unfold Fu at h
 refine A5 (s0:=⟨T [(0,(.d _)),(1,(.ptr _ _)),(2,(.ptr _ _))],G [((900000,0),some<|.box 267 _),((900001,0),some<|.box 3 _)]⟩) (C9 Z Z) ?_
 refine B7<|sm Z<|sv Z<|A1<|A4<|J2 Z<|sq Z<|sl Z G_hit Z<|bs h fun _ hv1 h=>sp Z (Va Z Z hv1 Z)<|sd Z (AR (f:=fun x=>(.v (.int .u32 x))) Z (gq Z) hv1 Z)<|sl Z (gq Z) Z (bs h fun _ hv2 h=>B3 Z Z A2 (Wf _ _ _ hv2) (.inl Z) (sv Z<|A1<|B5 ?_))
 obtain rfl:=(lC h)
 exact AN (.inr Z) [] (AO (B4 Z) C6) (.refl _) ⟨⟨_,_,_,(gq Z),Z1,Z,Oz,Z⟩,⟨_,_,_,(gq Z),Z1,Z,Oz,Z⟩,trivial⟩
def J0 (p1:(List Part))(p2:(Int×Int×Int×Int×Int×Int×Int×Int×Int×Int×Int×Int))(p3:Int)(x1:Int):Option (Stp Int (Sum Unit Int)):=
  cond (decide (x1< (p1.length:Int))) ((E5 p1 x1).bind fun v1=>(Fu v1 p2 p3).bind fun v2=>cond v2 (some (.out (.inr x1))) (some (.go (C8 (x1+1))))) (some (.out (.inl ())))
def G6 [Lp](p1:(List Part))(p2:(Int×Int×Int×Int×Int×Int×Int×Int×Int×Int×Int×Int))(p3:Int):Option Int:=
  thenS (loop (J0 p1 p2 p3) 0) (fun _=>some (-1)) (fun r=>some r)
theorem Dh(p1 p2 p3 r)(h:G6 p1 p2 p3=some r):MCall prog 228 [(dl H9 p1),(.fn (.func 246) [] [(.ptr (900000,0) 0),(.ptr (900001,0) 0)])] [(.box 267 [(.d (.v (.int .u32 p2.1))),(.d (.v (.int .u32 p2.2.1))),(.d (.v (.int .u32 p2.2.2.1))),(.d (.v (.int .u32 p2.2.2.2.1))),(.d (.v (.int .u32 p2.2.2.2.2.1))),(.d (.v (.int .u32 p2.2.2.2.2.2.1))),(.d (.v (.int .u32 p2.2.2.2.2.2.2.1))),(.d (.v (.int .u32 p2.2.2.2.2.2.2.2.1))),(.d (.v (.int .u32 p2.2.2.2.2.2.2.2.2.1))),(.d (.v (.int .u32 p2.2.2.2.2.2.2.2.2.2.1))),(.d (.v (.int .u32 p2.2.2.2.2.2.2.2.2.2.2.1))),(.d (.v (.int .u32 p2.2.2.2.2.2.2.2.2.2.2.2)))]),(.box 3 [(di p3)])] (di r) [some (.box 267 [(.d (.v (.int .u32 p2.1))),(.d (.v (.int .u32 p2.2.1))),(.d (.v (.int .u32 p2.2.2.1))),(.d (.v (.int .u32 p2.2.2.2.1))),(.d (.v (.int .u32 p2.2.2.2.2.1))),(.d (.v (.int .u32 p2.2.2.2.2.2.1))),(.d (.v (.int .u32 p2.2.2.2.2.2.2.1))),(.d (.v (.int .u32 p2.2.2.2.2.2.2.2.1))),(.d (.v (.int .u32 p2.2.2.2.2.2.2.2.2.1))),(.d (.v (.int .u32 p2.2.2.2.2.2.2.2.2.2.1))),(.d (.v (.int .u32 p2.2.2.2.2.2.2.2.2.2.2.1))),(.d (.v (.int .u32 p2.2.2.2.2.2.2.2.2.2.2.2)))]),some (.box 3 [(di p3)])] []:=by
 refine Ys (fk func228 ntmps228 (fun r=>if r==4 then [1004005]else []) (by with_unfolding_all rfl)) Z (nl Z) ?_
 unfold G6 at h
 refine A5 (s0:=⟨T [(0,(.d _)),(1,(.fn _ _ _))],G [((900000,0),some<|.box 267 _),((900001,0),some<|.box 3 _)]⟩) (C9 Z Z) ?_
 refine B7<|sv Z<|A1<|A4<|B7<|sv Z<|sd Z (D0 Z)<|sv Z<|A1<|js h fun z1 hz1 h=>D2 (fun s=> ∃(y1:Unit) (g1:Unit),z1= .inl y1∧Sb ⟨T [(1,(.fn (.func 246) [] [(.ptr (900000,0) 0),(.ptr (900001,0) 0)]))],G [((900000,0),some<|.box 267 [(.d (.v (.int .u32 p2.1))),(.d (.v (.int .u32 p2.2.1))),(.d (.v (.int .u32 p2.2.2.1))),(.d (.v (.int .u32 p2.2.2.2.1))),(.d (.v (.int .u32 p2.2.2.2.2.1))),(.d (.v (.int .u32 p2.2.2.2.2.2.1))),(.d (.v (.int .u32 p2.2.2.2.2.2.2.1))),(.d (.v (.int .u32 p2.2.2.2.2.2.2.2.1))),(.d (.v (.int .u32 p2.2.2.2.2.2.2.2.2.1))),(.d (.v (.int .u32 p2.2.2.2.2.2.2.2.2.2.1))),(.d (.v (.int .u32 p2.2.2.2.2.2.2.2.2.2.2.1))),(.d (.v (.int .u32 p2.2.2.2.2.2.2.2.2.2.2.2)))]),((900001,0),some<|.box 3 [(di p3)])]⟩ s) ?_ ?_
 refine A6<|E7 (J0 p1 p2 p3) (fun (x1:Int) (g2:Unit)=>⟨T [(0,(dl H9 p1)),(1,(.fn (.func 246) [] [(.ptr (900000,0) 0),(.ptr (900001,0) 0)])),(7,(di (p1.length:Int))),(8,(di x1))],G [((900000,0),some<|.box 267 [(.d (.v (.int .u32 p2.1))),(.d (.v (.int .u32 p2.2.1))),(.d (.v (.int .u32 p2.2.2.1))),(.d (.v (.int .u32 p2.2.2.2.1))),(.d (.v (.int .u32 p2.2.2.2.2.1))),(.d (.v (.int .u32 p2.2.2.2.2.2.1))),(.d (.v (.int .u32 p2.2.2.2.2.2.2.1))),(.d (.v (.int .u32 p2.2.2.2.2.2.2.2.1))),(.d (.v (.int .u32 p2.2.2.2.2.2.2.2.2.1))),(.d (.v (.int .u32 p2.2.2.2.2.2.2.2.2.2.1))),(.d (.v (.int .u32 p2.2.2.2.2.2.2.2.2.2.2.1))),(.d (.v (.int .u32 p2.2.2.2.2.2.2.2.2.2.2.2)))]),((900001,0),some<|.box 3 [(di p3)])]⟩) 0 () _ hz1 (C9 Z Z) ?_
 intro x1 g2 z2 hz2 ez2
 unfold J0 at hz2
 refine B7<|sv Z<|A1<|A4<|cc Z hz2 (fun c1 hz2=> ?_)<|fun c1 hz2=> ?_
 refine B1<|A4<|A6<|B7<|sv Z<|sv Z<|A1<|B7<|C1 (.fn _ _ _) Z Z (sv Z<|sv Z<|bs hz2 fun _ hv1 hz2=>sd Z (C7 Z Z hv1 Z)<|sd Z (D5 Z hv1 Z Z)<|bs hz2 fun v2 hv2 hz2=>QI (v:= .d (bo v2)) (us:= [(900000,0),(900001,0)]) (JT (Ra _ _ _ _ hv2) [(900000,0),(900001,0)] [(900000,0),(900001,0)] _ (((900001,0),some<|.box 3 [(di p3)])::(((900000,0),some<|.box 267 [(.d (.v (.int .u32 p2.1))),(.d (.v (.int .u32 p2.2.1))),(.d (.v (.int .u32 p2.2.2.1))),(.d (.v (.int .u32 p2.2.2.2.1))),(.d (.v (.int .u32 p2.2.2.2.2.1))),(.d (.v (.int .u32 p2.2.2.2.2.2.1))),(.d (.v (.int .u32 p2.2.2.2.2.2.2.1))),(.d (.v (.int .u32 p2.2.2.2.2.2.2.2.1))),(.d (.v (.int .u32 p2.2.2.2.2.2.2.2.2.1))),(.d (.v (.int .u32 p2.2.2.2.2.2.2.2.2.2.1))),(.d (.v (.int .u32 p2.2.2.2.2.2.2.2.2.2.2.1))),(.d (.v (.int .u32 p2.2.2.2.2.2.2.2.2.2.2.2)))])::_)) Z Oy (Eg QG<|Eg (Th G_hit Z)<|Eg (Th (N4 Z G_hit) Z) Ti) (Jw G_hit<|Jw (N4 Z G_hit) Ma) ⟨⟨_,G_hit, .of Z⟩,⟨_,(N4 Z G_hit), .of Z⟩,trivial⟩ (fun _ h=>h) (WU<|JU Z) Z Z Z) (A1<|cc Z hz2 (fun c2 hz2=> ?_)<|fun c2 hz2=> ?_))
 refine B7<|sv Z<|sv Z<|A1<|B5 ?_
 cases hz2
 obtain rfl:=ez2 _ rfl
 refine ⟨nofun,F6 ?_⟩
 rw [bL]at h
 cases h
 exact AN (.inr Z) [] (AO (B4 Z) C6) (.refl _) ⟨⟨_,_,_,(gq Z),Z1,Z,Oz,Z⟩,⟨_,_,_,G_hit,Z1,Z,Oz,Z⟩,trivial⟩
 refine B1<|E6<|B0<|sv Z<|sv Z<|A1<|F2 ?_
 cases hz2
 exact ⟨Z,(),(C9 Z Z)⟩
 refine C3 Z ?_
 cases hz2
 obtain rfl:=ez2 _ rfl
 refine ⟨nofun,B9 Z<|U0 ?_⟩
 exact ⟨_,(),Z,(C9 Z Z)⟩
 rintro _ ⟨y1,g1,rfl,q1⟩
 rw [bK]at h
 refine A5 q1<|B7<|sv Z<|A1<|B5 ?_
 cases h
 exact AN (.inr Z) [] (AO (B4 Z) C6) (.refl _) ⟨⟨_,_,_,G_hit,Z1,Z,Oz,Z⟩,⟨_,_,_,(gq Z),Z1,Z,Oz,Z⟩,trivial⟩
def G1 [Lp](p1:(List Part))(p2:(Int×Int×Int×Int×Int×Int×Int×Int×Int×Int×Int×Int))(p3:Int):Option Bool:=
  (G6 p1 p2 p3).bind fun v1=>some (decide (v1≥0))
theorem Bz(p1 p2 p3 r)(h:G1 p1 p2 p3=some r):MCall prog 245 [(dl H9 p1),(.fn (.func 246) [] [(.ptr (900000,0) 0),(.ptr (900001,0) 0)])] [(.box 267 [(.d (.v (.int .u32 p2.1))),(.d (.v (.int .u32 p2.2.1))),(.d (.v (.int .u32 p2.2.2.1))),(.d (.v (.int .u32 p2.2.2.2.1))),(.d (.v (.int .u32 p2.2.2.2.2.1))),(.d (.v (.int .u32 p2.2.2.2.2.2.1))),(.d (.v (.int .u32 p2.2.2.2.2.2.2.1))),(.d (.v (.int .u32 p2.2.2.2.2.2.2.2.1))),(.d (.v (.int .u32 p2.2.2.2.2.2.2.2.2.1))),(.d (.v (.int .u32 p2.2.2.2.2.2.2.2.2.2.1))),(.d (.v (.int .u32 p2.2.2.2.2.2.2.2.2.2.2.1))),(.d (.v (.int .u32 p2.2.2.2.2.2.2.2.2.2.2.2)))]),(.box 3 [(di p3)])] (.d (bo r)) [some (.box 267 [(.d (.v (.int .u32 p2.1))),(.d (.v (.int .u32 p2.2.1))),(.d (.v (.int .u32 p2.2.2.1))),(.d (.v (.int .u32 p2.2.2.2.1))),(.d (.v (.int .u32 p2.2.2.2.2.1))),(.d (.v (.int .u32 p2.2.2.2.2.2.1))),(.d (.v (.int .u32 p2.2.2.2.2.2.2.1))),(.d (.v (.int .u32 p2.2.2.2.2.2.2.2.1))),(.d (.v (.int .u32 p2.2.2.2.2.2.2.2.2.1))),(.d (.v (.int .u32 p2.2.2.2.2.2.2.2.2.2.1))),(.d (.v (.int .u32 p2.2.2.2.2.2.2.2.2.2.2.1))),(.d (.v (.int .u32 p2.2.2.2.2.2.2.2.2.2.2.2)))]),some (.box 3 [(di p3)])] []:=by
 refine Ys (fk func245 ntmps245 (fun r=>if r==1 then [1001002]else []) (by with_unfolding_all rfl)) Z (nl Z) ?_
 unfold G1 at h
 refine A5 (s0:=⟨T [(0,(.d _)),(1,(.fn _ _ _))],G [((900000,0),some<|.box 267 _),((900001,0),some<|.box 3 _)]⟩) (C9 Z Z) ?_
 refine B7<|sv Z<|A1<|B7<|sv Z<|C1 (.fn _ _ _) Z Z (bs h fun v1 hv1 h=>QI (v:= .d (i64 v1)) (us:= [(900000,0),(900001,0)]) (JT (Dh _ _ _ _ hv1) [(900000,0),(900001,0)] [(900000,0),(900001,0)] _ (((900001,0),some<|.box 3 [(di p3)])::(((900000,0),some<|.box 267 [(.d (.v (.int .u32 p2.1))),(.d (.v (.int .u32 p2.2.1))),(.d (.v (.int .u32 p2.2.2.1))),(.d (.v (.int .u32 p2.2.2.2.1))),(.d (.v (.int .u32 p2.2.2.2.2.1))),(.d (.v (.int .u32 p2.2.2.2.2.2.1))),(.d (.v (.int .u32 p2.2.2.2.2.2.2.1))),(.d (.v (.int .u32 p2.2.2.2.2.2.2.2.1))),(.d (.v (.int .u32 p2.2.2.2.2.2.2.2.2.1))),(.d (.v (.int .u32 p2.2.2.2.2.2.2.2.2.2.1))),(.d (.v (.int .u32 p2.2.2.2.2.2.2.2.2.2.2.1))),(.d (.v (.int .u32 p2.2.2.2.2.2.2.2.2.2.2.2)))])::_)) Z Oy (Eg QG<|Eg (QH Z<|Eg (Th G_hit Z)<|Eg (Th (N4 Z G_hit) Z) Ti) Ti) (Jw G_hit<|Jw (N4 Z G_hit) Ma) ⟨⟨_,G_hit, .of Z⟩,⟨_,(N4 Z G_hit), .of Z⟩,trivial⟩ (fun _ h=>h) (WU<|JU Z) Z Z Z) (sv Z<|sv Z<|A1<|B5 ?_))
 cases h
 exact AN (.inr Z) [] (AO (B4 Z) C6) (.refl _) ⟨⟨_,_,_,(gq Z),Z1,Z,Oz,Z⟩,⟨_,_,_,G_hit,Z1,Z,Oz,Z⟩,trivial⟩
def Bc [Lp](p1:Map)(p2:Zone)(p3:Int):Option Bool:=
  (Eb p1).bind fun v1=>(G1 p2.Parts v1 p3).bind fun v2=>some (!v2)
theorem Me(p1 p2 p3 r)(h:Bc p1 p2 p3=some r):PCall prog 184 [(.agg (L8 p1)),(.agg [(.list (List.map H9 p2.Parts)),(i64 p2.Signal_)]),(i64 p3)] (bo r):=by
 refine C5 (fk func184 ntmps184 (fun r=>if r==2 then [1002003]else []) (by with_unfolding_all rfl)) (nl Z) ?_
 unfold Bc at h
 refine A5 (s0:=⟨T [(0,(.d _)),(1,(.d _)),(2,(.d _))],G []⟩) (C9 Z Z) ?_
 refine lr<|fun u1 _=>sm Z<|sm Z<|sn Z Z<|sv Z<|A1<|lr<|fun u2 _=>sd Z (A7 Z (gq Z) Z Z)<|bs h fun v1 hv1 h=>B3 Z Z A2 (AT _ _ hv1) (.inl Z) (sm Z<|Bb Z G_hit [(.d (.v (.int .u32 v1.1))),(.d (.v (.int .u32 v1.2.1))),(.d (.v (.int .u32 v1.2.2.1))),(.d (.v (.int .u32 v1.2.2.2.1))),(.d (.v (.int .u32 v1.2.2.2.2.1))),(.d (.v (.int .u32 v1.2.2.2.2.2.1))),(.d (.v (.int .u32 v1.2.2.2.2.2.2.1))),(.d (.v (.int .u32 v1.2.2.2.2.2.2.2.1))),(.d (.v (.int .u32 v1.2.2.2.2.2.2.2.2.1))),(.d (.v (.int .u32 v1.2.2.2.2.2.2.2.2.2.1))),(.d (.v (.int .u32 v1.2.2.2.2.2.2.2.2.2.2.1))),(.d (.v (.int .u32 v1.2.2.2.2.2.2.2.2.2.2.2)))] Z (A1<|B7<|sq Z<|sl Z (gq Z) Z (C1 (.fn _ _ _) Z Z (bs h fun v2 hv2 h=>QI (v:= .d (bo v2)) (us:= [(7,u2),(5,u1)]) (JT (Bz _ _ _ _ hv2) [(7,u2),(5,u1)] [(7,u2),(5,u1)] _ (((5,u1),some<|.box 3 [(di p3)])::(((7,u2),some<|.box 267 [(.d (.v (.int .u32 v1.1))),(.d (.v (.int .u32 v1.2.1))),(.d (.v (.int .u32 v1.2.2.1))),(.d (.v (.int .u32 v1.2.2.2.1))),(.d (.v (.int .u32 v1.2.2.2.2.1))),(.d (.v (.int .u32 v1.2.2.2.2.2.1))),(.d (.v (.int .u32 v1.2.2.2.2.2.2.1))),(.d (.v (.int .u32 v1.2.2.2.2.2.2.2.1))),(.d (.v (.int .u32 v1.2.2.2.2.2.2.2.2.1))),(.d (.v (.int .u32 v1.2.2.2.2.2.2.2.2.2.1))),(.d (.v (.int .u32 v1.2.2.2.2.2.2.2.2.2.2.1))),(.d (.v (.int .u32 v1.2.2.2.2.2.2.2.2.2.2.2)))])::_)) Z Oy (Eg QG<|Eg (QH Z<|Eg (Th G_hit Z)<|Eg (Th (N4 Z<|N4 Z G_hit) Z) Ti) Ti) (Jw G_hit<|Jw (N4 Z<|N4 Z G_hit) Ma) ⟨⟨_,G_hit, .of Z⟩,⟨_,(N4 Z<|N4 Z G_hit), .of Z⟩,trivial⟩ (fun _ h=>h) (WU<|JU Z) Z Z Z) (C1 (.d (bo (!v2))) Z Z (sv Z<|A1<|B5 ?_))))))
 cases h
 exact A9 (.inr Z) (B6 (B4 Z) C6) (.refl _)
def R5 [Lp](p1:Int)(p2:Map)(p3:Zone):Option Bool:=
  (Bc p2 p3 p1).bind fun v1=>some (!v1)
theorem Ny(p1 p2 p3 r)(h:R5 p1 p2 p3=some r):PCall prog 183 [(i64 p1),(.bp (L8 p2) 0),(.bp [(.list (List.map H9 p3.Parts)),(i64 p3.Signal_)] 0)] (bo r):=by
 refine C5 (fk func183 ntmps183 m0 (by with_unfolding_all rfl)) (nl Z) ?_
 unfold R5 at h
 refine A5 (s0:=⟨T [(0,(.d _)),(1,(.d _)),(2,(.d _))],G []⟩) (C9 Z Z) ?_
 refine B7<|sv Z<|A1<|B7<|sv Z<|sv Z<|sv Z<|bs h fun v1 hv1 h=>B3 Z Z A2 (Me _ _ _ _ hv1) (.inl Z) (C1 (.d (bo (!v1))) Z Z (sv Z<|A1<|B5 ?_))
 cases h
 exact A9 (.inr Z) (B6 (B4 Z) C6) (.refl _)
def F0 [Lp](p1:(List Int))(p2:Map)(p3:Zone)(x1:Int):Option (Stp Int (Sum Unit Int)):=
  cond (decide (x1< (p1.length:Int))) ((E5 p1 x1).bind fun v1=>(R5 v1 p2 p3).bind fun v2=>cond v2 (some (.out (.inr x1))) (some (.go (C8 (x1+1))))) (some (.out (.inl ())))
def G5 [Lp](p1:(List Int))(p2:Map)(p3:Zone):Option Int:=
  thenS (loop (F0 p1 p2 p3) 0) (fun _=>some (-1)) (fun r=>some r)
theorem Da(p1 p2 p3 r)(h:G5 p1 p2 p3=some r):PCall prog 145 [(.list (List.map A8 p1)),(.fn (.func 183) [] [(.bp (L8 p2) 0),(.bp [(.list (List.map H9 p3.Parts)),(i64 p3.Signal_)] 0)])] (i64 r):=by
 refine C5 (fk func145 ntmps145 m0 (by with_unfolding_all rfl)) (nl Z) ?_
 unfold G5 at h
 refine A5 (s0:=⟨T [(0,(.d _)),(1,(.d _))],G []⟩) (C9 Z Z) ?_
 refine B7<|sv Z<|A1<|A4<|B7<|sv Z<|sd Z (D0 Z)<|sv Z<|A1<|js h fun z1 hz1 h=>D2 (fun s=> ∃(y1:Unit) (g1:Unit),z1= .inl y1∧Sb ⟨T [],G []⟩ s) ?_ ?_
 refine A6<|E7 (F0 p1 p2 p3) (fun (x1:Int) (g2:Unit)=>⟨T [(0,(dl A8 p1)),(1,(.d (.fn (.func 183) [] [(.bp (L8 p2) 0),(.bp [(.list (List.map H9 p3.Parts)),(i64 p3.Signal_)] 0)]))),(7,(di (p1.length:Int))),(8,(di x1))],G []⟩) 0 () _ hz1 (C9 Z Z) ?_
 intro x1 g2 z2 hz2 ez2
 unfold F0 at hz2
 refine B7<|sv Z<|A1<|A4<|cc Z hz2 (fun c1 hz2=> ?_)<|fun c1 hz2=> ?_
 refine B1<|A4<|A6<|B7<|sv Z<|sv Z<|A1<|B7<|sv Z<|sv Z<|sv Z<|bs hz2 fun _ hv1 hz2=>sd Z (C7 Z Z hv1 Z)<|sd Z (D9 Z hv1 Z)<|bs hz2 fun _ hv2 hz2=>B3 Z Z A2 (Ny _ _ _ _ hv2) (.inl Z) (A1<|cc Z hz2 (fun c2 hz2=> ?_)<|fun c2 hz2=> ?_)
 refine B7<|sv Z<|sv Z<|A1<|B5 ?_
 cases hz2
 obtain rfl:=ez2 _ rfl
 refine ⟨nofun,F6 ?_⟩
 rw [bL]at h
 cases h
 exact A9 (.inr Z) (B6 (B4 Z) C6) (.refl _)
 refine B1<|E6<|B0<|sv Z<|sv Z<|A1<|F2 ?_
 cases hz2
 exact ⟨Z,(),(C9 Z Z)⟩
 refine C3 Z ?_
 cases hz2
 obtain rfl:=ez2 _ rfl
 refine ⟨nofun,B9 Z<|U0 ?_⟩
 exact ⟨_,(),Z,(C9 Z Z)⟩
 rintro _ ⟨y1,g1,rfl,q1⟩
 rw [bK]at h
 refine A5 q1<|B7<|sv Z<|A1<|B5 ?_
 cases h
 exact A9 (.inr Z) (B6 (B4 Z) C6) (.refl _)
def F9 [Lp](p1:(List Int))(p2:Map)(p3:Zone):Option Bool:=
  (G5 p1 p2 p3).bind fun v1=>some (decide (v1≥0))
theorem Bv(p1 p2 p3 r)(h:F9 p1 p2 p3=some r):PCall prog 182 [(.list (List.map A8 p1)),(.fn (.func 183) [] [(.bp (L8 p2) 0),(.bp [(.list (List.map H9 p3.Parts)),(i64 p3.Signal_)] 0)])] (bo r):=by
 refine C5 (fk func182 ntmps182 m0 (by with_unfolding_all rfl)) (nl Z) ?_
 unfold F9 at h
 refine A5 (s0:=⟨T [(0,(.d _)),(1,(.d _))],G []⟩) (C9 Z Z) ?_
 refine B7<|sv Z<|A1<|B7<|sv Z<|sv Z<|bs h fun _ hv1 h=>B3 Z Z A2 (Da _ _ _ _ hv1) (.inl Z) (sv Z<|sv Z<|A1<|B5 ?_)
 cases h
 exact A9 (.inr Z) (B6 (B4 Z) C6) (.refl _)
end
end Go.Abs.Roadsz
