/-
  The Go functions that RoadsBytes reaches, as plain Lean functions, and the proofs that the program computes them.
-/
import Derived.Test.YtimbepcdlehjjaaGreatCoreD
import Derived.Test.YtimbepcdlehjjaaGreatProg
import Derived.KernelRfl
import Derived.IntWalk
set_option maxRecDepth 20000
set_option maxHeartbeats 4000000
set_option linter.unusedVariables false
namespace Go.Abs.Roadsz
noncomputable section
open Go Go.Abs Go.Proofs Tryz
attribute [local irreducible] L6 Fs Gl
structure Spot where
  X:Int
  Y:Int
  deriving Inhabited
structure CurveVector where
  x:Int
  y:Int
  deriving Inhabited
structure CurvePiece where
  p:Spot
  v:CurveVector
  l:Int
  start:Int
  deriving Inhabited
abbrev K4:Spot→List D:=fun x=> [(i64 x.X),(i64 x.Y)]
structure Curve where
  Pts:(List Spot)
  deriving Inhabited
abbrev XV:Curve→List D:=fun x=> [(.list (List.map K4 x.Pts))]
abbrev A4:Int→List D:=fun x=> [.v (.int .i64 x)]
structure Part where
  Lane_:Int
  From:Int
  To:Int
  Rank:Int
  deriving Inhabited
abbrev G8:Part→List D:=fun x=> [(i64 x.Lane_),(i64 x.From),(i64 x.To),(i64 x.Rank)]
structure Phase where
  Ticks:Int
  Green:(List Int)
  deriving Inhabited
abbrev G2:Phase→List D:=fun x=> [(i64 x.Ticks),(.list (List.map A4 x.Green))]
structure Lane where
  Kind:Int
  Curve_:Curve
  Half:Int
  Limit:Int
  Next:(List Int)
  deriving Inhabited
structure Zone where
  Parts:(List Part)
  Signal_:Int
  deriving Inhabited
structure Signal where
  Offset:Int
  Phases:(List Phase)
  deriving Inhabited
structure Work where
  Lane_:Int
  From:Int
  To:Int
  Begin:Int
  End:Int
  Limit:Int
  deriving Inhabited
structure Map where
  Version:Int
  Lanes:(List Lane)
  Zones:(List Zone)
  Signals:(List Signal)
  Works:(List Work)
  deriving Inhabited
abbrev J7:Lane→List D:=fun x=> [(i64 x.Kind),(.list (List.map K4 x.Curve_.Pts)),(i64 x.Half),(i64 x.Limit),(.list (List.map A4 x.Next))]
abbrev J2:Zone→List D:=fun x=> [(.list (List.map G8 x.Parts)),(i64 x.Signal_)]
abbrev J9:Signal→List D:=fun x=> [(i64 x.Offset),(.list (List.map G2 x.Phases))]
abbrev R1:Work→List D:=fun x=> [(i64 x.Lane_),(i64 x.From),(i64 x.To),(i64 x.Begin),(i64 x.End),(i64 x.Limit)]
abbrev N8:Map→List D:=fun x=> [(i64 x.Version),(.list (List.map J7 x.Lanes)),(.list (List.map J2 x.Zones)),(.list (List.map J9 x.Signals)),(.list (List.map R1 x.Works))]
abbrev cP:(List Lane)→List D:=fun x=> [.list (List.map J7 x)]
abbrev cQ:(List Spot)→List D:=fun x=> [.list (List.map K4 x)]
abbrev PM:(List Int)→List D:=fun x=> [.list (List.map A4 x)]
abbrev cS:(List Zone)→List D:=fun x=> [.list (List.map J2 x)]
abbrev cT:(List Part)→List D:=fun x=> [.list (List.map G8 x)]
abbrev TM:(List Signal)→List D:=fun x=> [.list (List.map J9 x)]
abbrev XW:(List Phase)→List D:=fun x=> [.list (List.map G2 x)]
abbrev cU:(List Work)→List D:=fun x=> [.list (List.map R1 x)]
abbrev jY:ByteArray→List D:=fun x=> [O0 x]
structure RoadsWay where
  Map_:Map
  lanes:(List Int)
  starts:(List Int)
  length:Int
  deriving Inhabited
abbrev kT:Nat→List D:=fun x=> [.fn (.func x) [] []]
structure RoadsCheck where
  Map_:Map
  deriving Inhabited
abbrev jE:(Int×Int×Int)→List D:=fun x=> [(i64 x.1),(i64 x.2.1),(i64 x.2.2)]
structure Clash where
  Kind:Int
  Zone_:Int
  A:Int
  B:Int
  deriving Inhabited
abbrev M3:Clash→List D:=fun x=> [(i64 x.Kind),(i64 x.Zone_),(i64 x.A),(i64 x.B)]
abbrev C4:Int→List D:=fun x=> [.v (.int .u8 x)]
structure RoadsWriter where
  b:(List Int)
  deriving Inhabited
structure RoadsReader where
  s:ByteArray
  short:Bool
  deriving Inhabited
structure Ref03Reader where
  s:ByteArray
  bad:Bool
  deriving Inhabited
structure Anon7 where
  x:Int
  y:Int
  signed:Bool
  code:Int
  deriving Inhabited
structure RuntimeBoundsError where
  x:Int
  y:Int
  signed:Bool
  code:Int
  deriving Inhabited
structure Anon13 where
  msg:ByteArray
  addr:Int
  deriving Inhabited
structure RuntimeErrorAddressString where
  msg:ByteArray
  addr:Int
  deriving Inhabited
structure Anon26 where
  Version:Int
  Lanes:(List Lane)
  Zones:(List Zone)
  Signals:(List Signal)
  Works:(List Work)
  deriving Inhabited
structure Edit where
  Kind:Int
  Table:Int
  At:Int
  Lane_:Lane
  Zone_:Zone
  Signal_:Signal
  Work_:Work
  deriving Inhabited
structure Anon35 where
  Base:Int
  Edits:(List Edit)
  deriving Inhabited
structure Patch where
  Base:Int
  Edits:(List Edit)
  deriving Inhabited
structure Anon38 where
  Pts:(List Spot)
  deriving Inhabited
structure Anon41 where
  Kind:Int
  Curve_:Curve
  Half:Int
  Limit:Int
  Next:(List Int)
  deriving Inhabited
structure Anon44 where
  Parts:(List Part)
  Signal_:Int
  deriving Inhabited
structure Anon47 where
  Offset:Int
  Phases:(List Phase)
  deriving Inhabited
structure Anon49 where
  Lane_:Int
  From:Int
  To:Int
  Begin:Int
  End:Int
  Limit:Int
  deriving Inhabited
structure Anon51 where
  Kind:Int
  Table:Int
  At:Int
  Lane_:Lane
  Zone_:Zone
  Signal_:Signal
  Work_:Work
  deriving Inhabited
structure Anon90 where
  Lane_:Int
  From:Int
  To:Int
  Rank:Int
  deriving Inhabited
structure Anon92 where
  Kind:Int
  Zone_:Int
  A:Int
  B:Int
  deriving Inhabited
structure Anon94 where
  Zone_:Int
  Part_:Int
  From:Int
  To:Int
  deriving Inhabited
structure Pass where
  Zone_:Int
  Part_:Int
  From:Int
  To:Int
  deriving Inhabited
structure Anon96 where
  Ticks:Int
  Green:(List Int)
  deriving Inhabited
structure Anon104 where
  Map_:Map
  deriving Inhabited
structure Anon144 where
  b:(List Int)
  deriving Inhabited
structure Anon147 where
  X:Int
  Y:Int
  deriving Inhabited
structure Anon153 where
  s:ByteArray
  short:Bool
  deriving Inhabited
structure Anon168 where
  Map_:Map
  lanes:(List Int)
  starts:(List Int)
  length:Int
  deriving Inhabited
structure Anon186 where
  s:ByteArray
  bad:Bool
  deriving Inhabited
structure Anon225 where
  FromA:Int
  ToA:Int
  FromB:Int
  ToB:Int
  deriving Inhabited
structure Cross where
  FromA:Int
  ToA:Int
  FromB:Int
  ToB:Int
  deriving Inhabited
structure Anon252 where
  x:Int
  y:Int
  deriving Inhabited
structure Anon279 where
  p:Spot
  v:CurveVector
  l:Int
  start:Int
  deriving Inhabited
structure Anon282 where
  piece:CurvePiece
  half:Int
  ends:(Int×Int)
  deriving Inhabited
structure CurveCorridor where
  piece:CurvePiece
  half:Int
  ends:(Int×Int)
  deriving Inhabited
structure Anon290 where
  p:Spot
  v:Spot
  l:Int
  h:Int
  s:Int
  t:Int
  deriving Inhabited
structure Ref01Stripe where
  p:Spot
  v:Spot
  l:Int
  h:Int
  s:Int
  t:Int
  deriving Inhabited
abbrev TN:RoadsWay→List D:=fun x=> [(i64 x.Map_.Version),(.list (List.map J7 x.Map_.Lanes)),(.list (List.map J2 x.Map_.Zones)),(.list (List.map J9 x.Map_.Signals)),(.list (List.map R1 x.Map_.Works)),(.list (List.map A4 x.lanes)),(.list (List.map A4 x.starts)),(i64 x.length)]
abbrev Jb:RoadsWay→List AV:=fun x=> [(.d (i64 x.Map_.Version)),(.d (.list (List.map J7 x.Map_.Lanes))),(.d (.list (List.map J2 x.Map_.Zones))),(.d (.list (List.map J9 x.Map_.Signals))),(.d (.list (List.map R1 x.Map_.Works))),(.d (.list (List.map A4 x.lanes))),(.d (.list (List.map A4 x.starts))),(.d (i64 x.length))]
abbrev II:Work→List AV:=fun x=> [(.d (i64 x.Lane_)),(.d (i64 x.From)),(.d (i64 x.To)),(.d (i64 x.Begin)),(.d (i64 x.End)),(.d (i64 x.Limit))]
abbrev MO:CurvePiece→List D:=fun x=> [(i64 x.p.X),(i64 x.p.Y),(i64 x.v.x),(i64 x.v.y),(i64 x.l),(i64 x.start)]
abbrev MP:CurvePiece→List AV:=fun x=> [(.d (i64 x.p.X)),(.d (i64 x.p.Y)),(.d (i64 x.v.x)),(.d (i64 x.v.y)),(.d (i64 x.l)),(.d (i64 x.start))]
abbrev F2:Map→List AV:=fun x=> [(.d (i64 x.Version)),(.d (.list (List.map J7 x.Lanes))),(.d (.list (List.map J2 x.Zones))),(.d (.list (List.map J9 x.Signals))),(.d (.list (List.map R1 x.Works)))]
abbrev T6:Lane→List AV:=fun x=> [(.d (i64 x.Kind)),(.d (.list (List.map K4 x.Curve_.Pts))),(.d (i64 x.Half)),(.d (i64 x.Limit)),(.d (.list (List.map A4 x.Next)))]
abbrev Sz:Part→List AV:=fun x=> [(.d (i64 x.Lane_)),(.d (i64 x.From)),(.d (i64 x.To)),(.d (i64 x.Rank))]
def Lk (p1:Map)(x3:Int)(x4:Int):Option (Stp Int (Sum Unit Bool)):=
  (F0 p1.Signals x3).bind fun v5=>cond (decide (x4< (v5.Phases.length:Int))) ((F0 p1.Signals x3).bind fun v6=>(F0 v6.Phases x4).bind fun v7=>cond (decide ((v7.Green.length:Int)>14)) (some (.out (.inr false))) (some (.go (K2 (x4+1))))) (some (.out (.inl ())))
def Ll [Lp](p1:Map)(x3:Int):Option (Stp Int (Sum Unit Bool)):=
  cond (decide (x3< (p1.Signals.length:Int))) ((F0 p1.Signals x3).bind fun v4=>cond (decide ((v4.Phases.length:Int)>8)) (some (.out (.inr false))) (thenS (loop (Lk p1 x3) 0) (fun _=>some (.go (K2 (x3+1)))) (fun r=>some (.out (.inr r))))) (some (.out (.inl ())))
def Lm (p1:Map)(x2:Int):Option (Stp Int (Sum Unit Bool)):=
  cond (decide (x2< (p1.Zones.length:Int))) ((F0 p1.Zones x2).bind fun v3=>cond (decide ((v3.Parts.length:Int)>8)) (some (.out (.inr false))) (some (.go (K2 (x2+1))))) (some (.out (.inl ())))
def Ln (p1:Map)(x1:Int):Option (Stp Int (Sum Unit Bool)):=
  cond (decide (x1< (p1.Lanes.length:Int))) ((F0 p1.Lanes x1).bind fun v1=>((cond (!(decide ((v1.Curve_.Pts.length:Int)>18))) (F0 p1.Lanes x1) (some default))).bind fun v2=>cond ((decide ((v1.Curve_.Pts.length:Int)>18))||(decide ((v2.Next.length:Int)>5))) (some (.out (.inr false))) (some (.go (K2 (x1+1))))) (some (.out (.inl ())))
def Pu [Lp](p1:Map):Option Bool:=
  cond ((((decide ((p1.Lanes.length:Int)>14))||(decide ((p1.Zones.length:Int)>14)))||(decide ((p1.Signals.length:Int)>6)))||(decide ((p1.Works.length:Int)>10))) (some false) (thenS (loop (Ln p1) 0) (fun _=>thenS (loop (Lm p1) 0) (fun _=>thenS (loop (Ll p1) 0) (fun _=>some true) (fun r=>some r)) (fun r=>some r)) (fun r=>some r))
theorem Zn(p1 r)(h:Pu p1=some r):PCall prog 13 [(.agg (N8 p1))] (bo r):=by
 refine D7 (fk func13 ntmps13 m0 (by with_unfolding_all rfl)) (nl Z) ?_
 unfold Pu at h
 refine A7 (s0:=⟨T [(0,(.d _))],G []⟩) (E3 Z Z) ?_
 refine lr<|fun u1 _=>sm Z<|sv Z<|A1<|A3<|B8<|sq Z<|sl Z G_hit Z<|sd Z (C8 Z)<|sv Z<|sv Z<|gp Z (N7 Z) (fun _=>Z) (gf Z (vl Z G_hit Z)<|gf Z (fun w3=>(C8<|A8 w3))<|gf Z (vb Z Z Z)<|sd Z (X6 Z Z<|fun hc=>A8<|O7 hc)<|sv Z<|gp Z (N7 Z) (fun _=>Z) (gf Z (vl Z G_hit Z)<|gf Z (fun w7=>(C8<|A8 w7))<|gf Z (vb Z Z Z)<|sd Z (X6 Z Z<|fun hc=>A8<|O7 hc)<|sv Z<|gp Z (N7 Z) (fun _=>Z) (gf Z (vl Z G_hit Z)<|gf Z (fun w11=>(C8<|A8 w11))<|gf Z (vb Z Z Z)<|sd Z (X6 Z Z<|fun hc=>A8<|O7 hc)<|A1<|cc Z h (fun c1 h=> ?_)<|fun c1 h=> ?_)))
 refine A3<|A7 (s0:=⟨T [],G []⟩) (E3 Z Z) ?_
 refine B5<|sv Z<|A1<|B9 ?_
 cases h
 exact B4 (.inr Z) (C5 (C0 Z) D4) (.refl _)
 refine B3<|A3<|A3<|A7 (s0:=⟨T [(1,(.ptr _ _))],G [((1,u1),some<|.box 27 _)]⟩) (E3 Z Z) ?_
 refine B5<|sv Z<|A1<|js h fun z1 hz1 h=>D0 (fun s=> ∃(y1:Unit) (g1:Unit),z1= .inl y1∧Sb ⟨T [(1,(.ptr (1,u1) 0))],G [((1,u1),some<|.box 27 (F2 p1))]⟩ s) ?_ ?_
 refine A5<|D2 (Ln p1) (fun (x1:Int) (g2:Unit)=>⟨T [(1,(.ptr (1,u1) 0)),(3,(di x1))],G [((1,u1),some<|.box 27 (F2 p1))]⟩) 0 () _ hz1 (E3 Z Z) ?_
 intro x1 g2 z2 hz2 ez2
 unfold Ln at hz2
 refine A3<|B8<|sv Z<|sq Z<|sl Z G_hit Z<|sd Z (C8 Z)<|sv Z<|A1<|cc Z hz2 (fun c2 hz2=> ?_)<|fun c2 hz2=> ?_
 refine B3<|A3<|A5<|B8<|sq Z<|sl Z G_hit Z<|sv Z<|bs hz2 fun _ hv1 hz2=>sd Z (D8 Z Z hv1 Z)<|sv Z<|sv Z<|sd Z (E9 Z hv1 Z)<|sd Z (C8 Z)<|sv Z<|sv Z<|gp Z (N7 Z) (fun _=>Z) (gf Z (vl Z G_hit Z)<|gf Z (fun _=>Z)<|bs hz2 fun _ hv2 hz2=>gf Z (fun w16=>(D8 (A8 w16) (A8 w16) (H4 w16 hv2) Z)) ?_)
 refine gf Z (fun w17=>(by simp only [A8 w17];rfl)) ?_
 refine gf Z (fun w18=>(E9 (A8 w18) (H4 w18 hv2) Z))<|gf Z (fun w19=>(C8<|A8 w19))<|gf Z (vb Z Z Z)<|sd Z (X6 Z Z<|fun hc=>A8<|O7 hc)<|A1<|cc Z hz2 (fun c3 hz2=> ?_)<|fun c3 hz2=> ?_
 refine A3<|A7 (s0:=⟨T [],G []⟩) (E3 Z Z) ?_
 refine B5<|sv Z<|A1<|B9 ?_
 cases hz2
 obtain rfl:=ez2 _ rfl
 refine ⟨nofun,F8 ?_⟩
 rw [bN]at h
 cases h
 exact B4 (.inr Z) (C5 (C0 Z) D4) (.refl _)
 refine B3<|E0<|A7 (s0:=⟨T [(1,(.ptr _ _)),(3,(.d _))],G [((1,u1),some<|.box 27 _)]⟩) (E3 Z Z) ?_
 refine B5<|sv Z<|sv Z<|sv Z<|A1<|D6 ?_
 cases hz2
 exact ⟨Z,(),(E3 Z Z)⟩
 refine C3 Z ?_
 cases hz2
 obtain rfl:=ez2 _ rfl
 refine ⟨nofun,C2 Z<|T4 ?_⟩
 exact ⟨_,(),Z,(E3 Z Z)⟩
 rintro _ ⟨y1,g1,rfl,q1⟩
 rw [bM]at h
 refine A7 q1<|A3<|B8<|sv Z<|A1<|js h fun z3 hz3 h=>D0 (fun s=> ∃(y2:Unit) (g3:Unit),z3= .inl y2∧Sb ⟨T [(1,(.ptr (1,u1) 0))],G [((1,u1),some<|.box 27 (F2 p1))]⟩ s) ?_ ?_
 refine A5<|D2 (Lm p1) (fun (x2:Int) (g4:Unit)=>⟨T [(1,(.ptr (1,u1) 0)),(4,(di x2))],G [((1,u1),some<|.box 27 (F2 p1))]⟩) 0 () _ hz3 (E3 Z Z) ?_
 intro x2 g4 z4 hz4 ez4
 unfold Lm at hz4
 refine A3<|B8<|sv Z<|sq Z<|sl Z G_hit Z<|sd Z (C8 Z)<|sv Z<|A1<|cc Z hz4 (fun c4 hz4=> ?_)<|fun c4 hz4=> ?_
 refine B3<|A3<|A5<|B8<|sq Z<|sl Z G_hit Z<|sv Z<|bs hz4 fun _ hv3 hz4=>sd Z (D8 Z Z hv3 Z)<|sv Z<|sd Z (E9 Z hv3 Z)<|sd Z (C8 Z)<|sv Z<|A1<|cc Z hz4 (fun c5 hz4=> ?_)<|fun c5 hz4=> ?_
 refine B8<|sv Z<|A1<|B9 ?_
 cases hz4
 obtain rfl:=ez4 _ rfl
 refine ⟨nofun,F8 ?_⟩
 rw [bN]at h
 cases h
 exact B4 (.inr Z) (C5 (C0 Z) D4) (.refl _)
 refine B3<|E0<|B5<|sv Z<|sv Z<|sv Z<|A1<|D6 ?_
 cases hz4
 exact ⟨Z,(),(E3 Z Z)⟩
 refine C3 Z ?_
 cases hz4
 obtain rfl:=ez4 _ rfl
 refine ⟨nofun,C2 Z<|T4 ?_⟩
 exact ⟨_,(),Z,(E3 Z Z)⟩
 rintro _ ⟨y2,g3,rfl,q2⟩
 rw [bM]at h
 refine A7 q2<|A3<|B8<|sv Z<|A1<|js h fun z5 hz5 h=>D0 (fun s=> ∃(y3:Unit) (g5:Unit),z5= .inl y3∧Sb ⟨T [],G []⟩ s) ?_ ?_
 refine A5<|D2 (Ll p1) (fun (x3:Int) (g6:Unit)=>⟨T [(1,(.ptr (1,u1) 0)),(5,(di x3))],G [((1,u1),some<|.box 27 (F2 p1))]⟩) 0 () _ hz5 (E3 Z Z) ?_
 intro x3 g6 z6 hz6 ez6
 unfold Ll at hz6
 refine A3<|B8<|sv Z<|sq Z<|sl Z G_hit Z<|sd Z (C8 Z)<|sv Z<|A1<|cc Z hz6 (fun c6 hz6=> ?_)<|fun c6 hz6=> ?_
 refine B3<|A3<|A5<|A3<|B8<|sq Z<|sl Z G_hit Z<|sv Z<|bs hz6 fun _ hv4 hz6=>sd Z (D8 Z Z hv4 Z)<|sv Z<|sd Z (E9 Z hv4 Z)<|sd Z (C8 Z)<|sv Z<|A1<|cc Z hz6 (fun c7 hz6=> ?_)<|fun c7 hz6=> ?_
 refine B8<|sv Z<|A1<|B9 ?_
 cases hz6
 obtain rfl:=ez6 _ rfl
 refine ⟨nofun,F8 ?_⟩
 rw [bN]at h
 cases h
 exact B4 (.inr Z) (C5 (C0 Z) D4) (.refl _)
 refine B3<|B8<|sv Z<|A1<|js hz6 fun z7 hz7 hz6=>D0 (fun s=> ∃(y4:Unit) (g7:Unit),z7= .inl y4∧Sb ⟨T [(1,(.ptr (1,u1) 0)),(5,(di x3))],G [((1,u1),some<|.box 27 (F2 p1))]⟩ s) ?_ ?_
 refine A5<|D2 (Lk p1 x3) (fun (x4:Int) (g8:Unit)=>⟨T [(1,(.ptr (1,u1) 0)),(5,(di x3)),(6,(di x4))],G [((1,u1),some<|.box 27 (F2 p1))]⟩) 0 () _ hz7 (E3 Z Z) ?_
 intro x4 g8 z8 hz8 ez8
 unfold Lk at hz8
 refine A3<|B8<|sv Z<|sq Z<|sl Z G_hit Z<|sv Z<|bs hz8 fun _ hv5 hz8=>sd Z (D8 Z Z hv5 Z)<|sv Z<|sd Z (E9 Z hv5 Z)<|sd Z (C8 Z)<|sv Z<|A1<|cc Z hz8 (fun c8 hz8=> ?_)<|fun c8 hz8=> ?_
 refine B3<|A3<|A5<|B8<|sq Z<|sl Z G_hit Z<|sv Z<|bs hz8 fun _ hv6 hz8=>sd Z (D8 Z Z hv6 Z)<|sv Z<|sd Z (E9 Z hv6 Z)<|sv Z<|bs hz8 fun _ hv7 hz8=>sd Z (D8 Z Z hv7 Z)<|sv Z<|sd Z (E9 Z hv7 Z)<|sd Z (C8 Z)<|sv Z<|A1<|cc Z hz8 (fun c9 hz8=> ?_)<|fun c9 hz8=> ?_
 refine A3<|A7 (s0:=⟨T [],G []⟩) (E3 Z Z) ?_
 refine B5<|sv Z<|A1<|B9 ?_
 cases hz8
 obtain rfl:=ez8 _ rfl
 refine ⟨nofun,F8 ?_⟩
 rw [bN]at hz6
 cases hz6
 obtain rfl:=ez6 _ rfl
 refine ⟨nofun,F8 ?_⟩
 rw [bN]at h
 cases h
 exact B4 (.inr Z) (C5 (C0 Z) D4) (.refl _)
 refine B3<|E0<|A7 (s0:=⟨T [(1,(.ptr _ _)),(5,(.d _)),(6,(.d _))],G [((1,u1),some<|.box 27 _)]⟩) (E3 Z Z) ?_
 refine B5<|sv Z<|sv Z<|sv Z<|A1<|D6 ?_
 cases hz8
 exact ⟨Z,(),(E3 Z Z)⟩
 refine C3 Z ?_
 cases hz8
 obtain rfl:=ez8 _ rfl
 refine ⟨nofun,C2 Z<|T4 ?_⟩
 exact ⟨_,(),Z,(E3 Z Z)⟩
 rintro _ ⟨y4,g7,rfl,q3⟩
 rw [bM]at hz6
 refine E0<|A7 q3<|B5<|sv Z<|sv Z<|sv Z<|A1<|D6 ?_
 cases hz6
 exact ⟨Z,(),(E3 Z Z)⟩
 refine C3 Z ?_
 cases hz6
 obtain rfl:=ez6 _ rfl
 refine ⟨nofun,C2 Z<|T4 ?_⟩
 exact ⟨_,(),Z,(E3 Z Z)⟩
 rintro _ ⟨y3,g5,rfl,q4⟩
 rw [bM]at h
 refine A7 q4<|B8<|sv Z<|A1<|B9 ?_
 cases h
 exact B4 (.inr Z) (C5 (C0 Z) D4) (.refl _)
def Vt (p4:(List Int))(x1:(Int×Lane)):Option (Stp (Int×Lane) Lane):=
  cond (decide ((K2 (x1.1+1))< (p4.length:Int))) ((F0 p4 x1.1).bind fun v1=>(F0 p4 (K2 (x1.1+1))).bind fun v2=>(Q4 x1.2.Curve_.Pts [(Spot.mk v1 v2)]).bind fun v3=>some (.go ((K2 (x1.1+2)),(Lane.mk x1.2.Kind (Curve.mk v3) x1.2.Half x1.2.Limit x1.2.Next)))) (some (.out x1.2))
def Qe [Lp](p1:Int)(p2:Int)(p3:(List Int))(p4:(List Int)):Option Lane:=
  (loop (Vt p4) (0,(Lane.mk p1 (Curve.mk []) 1500 p2 p3))).bind fun y1=>cond (p1==3) (some (Lane.mk y1.Kind y1.Curve_ 500 y1.Limit y1.Next)) (some y1)
theorem CD(p1 p2 p3 p4 r)(h:Qe p1 p2 p3 p4=some r):PCall prog 115 [(i64 p1),(i64 p2),(.list (List.map A4 p3)),(.list (List.map A4 p4))] (.agg (J7 r)):=by
 refine D7 (fk func115 ntmps115 (fun r=>if r==5 then [1013]else []) (by with_unfolding_all rfl)) (nl Z) ?_
 unfold Qe at h
 refine A7 (s0:=⟨T [(0,(.d _)),(1,(.d _)),(2,(.d _)),(3,(.d _))],G []⟩) (E3 Z Z) ?_
 refine lr<|fun u1 _=>sm Z<|A1<|lr<|fun u2 _=>sv Z<|sv Z<|sv Z<|sv Z<|sm Z<|V6 Z G_hit [(di p1),(.d .nilS),(di 1500),(di p2),(dl A4 p3)] Z (A1<|A3<|B8<|sv Z<|A1<|bs h fun y1 hy1 h=>D0 (fun s=> ∃g1:Nat,Sb ⟨T [(0,(di p1)),(8,(.ptr (8,u1) 0)),(9,(.ptr (9,u2) 0))],G [((8,u1),some<|.box 42 (((zs 4).set 1 (.d .nilS))++ [(.d .nilS)])),((9,u2),some<|.box 42 ((T6 y1).set 1 (oS y1.Curve_.Pts (36,g1)))),((36,g1),oB 148 2 K4 y1.Curve_.Pts)]⟩ s) ?_ ?_)
 refine A5<|D2 (Vt p4) (fun (x1:(Int×Lane)) (g2:Nat)=>⟨T [(0,(di p1)),(3,(dl A4 p4)),(8,(.ptr (8,u1) 0)),(9,(.ptr (9,u2) 0)),(10,(di x1.1))],G [((8,u1),some<|.box 42 (((zs 4).set 1 (.d .nilS))++ [(.d .nilS)])),((9,u2),some<|.box 42 ((T6 x1.2).set 1 (oS x1.2.Curve_.Pts (36,g2)))),((36,g2),oB 148 2 K4 x1.2.Curve_.Pts)]⟩) (0,(Lane.mk p1 (Curve.mk []) 1500 p2 p3)) 0 _ hy1 (B7 (K8 Z)<|sg Z<|A2 G_hit (.of Z)<|O6 trivial) ?_
 intro x1 g2 z1 hz1 ez1
 unfold Vt at hz1
 refine A3<|B8<|sv Z<|sv Z<|sv Z<|sd Z (C8 Z)<|sv Z<|A1<|cc Z hz1 (fun c1 hz1=> ?_)<|fun c1 hz1=> ?_
 refine B3<|A3<|A5<|Si Z fun u5 _=>sq Z<|sq Z<|B6 (oS x1.2.Curve_.Pts (36,g2)) Z (U6 Z (gq Z) Z) (sv Z<|sv Z<|bs hz1 fun v1 hv1 hz1=>sd Z (D8 Z Z hv1 Z)<|sd Z (E9 Z hv1 Z)<|sv Z<|sv Z<|sv Z<|bs hz1 fun v2 hv2 hz1=>sd Z (D8 Z Z hv2 Z)<|sd Z (E9 Z hv2 Z)<|sv Z<|B6 (dl K4 [(Spot.mk v1 v2)]) Z Z (bs hz1 fun _ hv3 hz1=>G7 K4 (36,g2) x1.2.Curve_.Pts (Spot.mk v1 v2) [] _ (E1<|fun _=>Z) Z (gq Z) hv3 (sq Z<|sp Z Z<|V6 Z (gq Z) ((T6 x1.2).set 1 (.sl (36,u5))) Z (A1<|E0<|A7 (s0:=⟨T [(0,(.d _)),(3,(.d _)),(8,(.ptr _ _)),(9,(.ptr _ _)),(10,(.d _))],G [((8,u1),some<|.box 42 _),((9,u2),some<|.box 42 _),((36,u5),some _)]⟩) (E3 Z Z) ?_))))
 refine B5<|sv Z<|sv Z<|sv Z<|A1<|D6 ?_
 cases hz1
 exact ⟨Z,u5,(B7 (K8 Z)<|A2 G_hit (.of Z)<|A2 (gq Z) (.box (cv<|.cons (.of (T1<|K5 hv3).symm) cw)) (K9 (gq Z) trivial))⟩
 refine C3 Z ?_
 cases hz1
 obtain rfl:=ez1 _ rfl
 refine ⟨nofun,C2 Z<|T4 ?_⟩
 exact ⟨g2,(B7 (K8 Z)<|A2 G_hit (.of Z)<|sg Z<|B0 (gq Z) trivial)⟩
 rintro _ ⟨g1,q1⟩
 refine A7 q1<|A3<|B8<|sv Z<|sv Z<|A1<|cc Z h (fun c2 h=> ?_)<|fun c2 h=> ?_
 refine B5<|sq Z<|V6 Z (gq Z) (((T6 y1).set 1 (oS y1.Curve_.Pts (36,g1))).set 2 (di 500)) Z (A1<|B8<|B6 (Df (((T6 y1).set 1 (oS y1.Curve_.Pts (36,g1))).set 2 (di 500))) Z (C6 Z G_hit Z Z) (U7 _ _ _ _ _ (Cs _) Z Z (gq Z) (nl Z) (((T6 y1).set 1 (oS y1.Curve_.Pts (36,g1))).set 2 (di 500)) Z (A1<|B9 ?_)))
 cases h
 exact B4 (.inr Z) (C5 (L0 Z G_hit (nl Z) Z)<|Lh<|rD<|L9 (U9<|gq Z)<|rD<|rD<|rD N1) (.agg (ca Z<|.cons ⟨U8,Z⟩ (cz Z)))
 refine B3<|B8<|B6 (Df ((T6 y1).set 1 (oS y1.Curve_.Pts (36,g1)))) Z (C6 Z (gq Z) Z Z) (U7 _ _ _ _ _ (Cs _) Z Z G_hit (nl Z) ((T6 y1).set 1 (oS y1.Curve_.Pts (36,g1))) Z (A1<|B9 ?_))
 cases h
 exact B4 (.inr Z) (C5 (L0 Z G_hit (nl Z) Z)<|Lh<|rD<|L9 (U9<|gq Z)<|rD<|rD<|rD N1) (.agg (ca Z<|.cons ⟨U8,Z⟩ (cz Z)))
def Pv [Lp]:Option Map:=
  (Qe 1 1500 [] [0,0,100000,0]).bind fun v1=>(Qe 1 1500 [] [50000,(-50000),50000,50000]).bind fun v2=>some (Map.mk 0 [v1,v2] [(Zone.mk [(Part.mk 0 48000 52000 1),(Part.mk 1 48000 52000 0)] 0)] [] [])
theorem JV(r)(h:Pv=some r):PCall prog 58 [] (.agg (N8 r)):=by
 refine D7 (fk func58 ntmps58 (fun r=>if r==1 then [1000,1002,1004,1007,1009]else []) (by with_unfolding_all rfl)) (nl Z) ?_
 unfold Pv at h
 refine A7 (s0:=⟨T [],G []⟩) (E3 Z Z) ?_
 refine B8<|sm Z<|A1<|B8<|B6 (dl A4 [0,0,100000,0]) Z Z (bs h fun v1 hv1 h=>D1 Z Z (.cons (.refl _) (.cons (.refl _) (.cons DLe.nil A6))) (CD _ _ _ _ _ hv1) (.inl Z) (B6 (dl A4 [50000,(-50000),50000,50000]) Z Z (bs h fun v2 hv2 h=>D1 Z Z (.cons (.refl _) (.cons (.refl _) (.cons DLe.nil A6))) (CD _ _ _ _ _ hv2) (.inl Z) (B6 (dl J7 [v1,v2]) Z (TK J7 ([v1,v2]:List Lane) (fun _=>Z) Z Z ⟨Z,Z,Z,Z,Z,Z,trivial⟩ (fun _=>Z)) (sv Z<|sv Z<|B6 (dl G8 [(Part.mk 0 48000 52000 1),(Part.mk 1 48000 52000 0)]) Z Z (sv Z<|B6 (dl J2 [(Zone.mk [(Part.mk 0 48000 52000 1),(Part.mk 1 48000 52000 0)] 0)]) Z Z (sv Z<|V6 Z G_hit [(di 0),(dl J7 [v1,v2]),(dl J2 [(Zone.mk [(Part.mk 0 48000 52000 1),(Part.mk 1 48000 52000 0)] 0)]),(.d .nilS),(.d .nilS)] Z (A1<|B9 ?_))))))))
 cases h
 exact B4 (.inr Z) (C5 (L0 Z G_hit (nl Z) Z) D4) (.agg (ca Z<|ca Z<|ca Z<|.cons ⟨DLe.nil,Z⟩ (.cons ⟨DLe.nil,Z⟩ .nil)))
def V7 (p1:Int)(p2:Int)(p3:Int):Option Bool:=
  some ((decide (p2≤p1))&& (decide (p1≤p3)))
theorem V2(p1 p2 p3 r)(h:V7 p1 p2 p3=some r):PCall prog 134 [(i64 p1),(i64 p2),(i64 p3)] (bo r):=by
 refine D7 (fk func134 ntmps134 m0 (by with_unfolding_all rfl)) (nl Z) ?_
 unfold V7 at h
 refine A7 (s0:=⟨T [(0,(.d _)),(1,(.d _)),(2,(.d _))],G []⟩) (E3 Z Z) ?_
 refine B8<|sv Z<|A1<|B8<|sv Z<|sv Z<|sv Z<|sv Z<|gt Z (fun _=>Z)<|gt Z (fun _=>Z)<|gt Z (fun w3=>(An (A8 w3) (A8 w3) Z))<|sa Z Z Z<|sv Z<|A1<|B9 ?_
 cases h
 exact B4 (.inr Z) (C5 (C0 Z) D4) (.refl _)
def Ad (p1:RoadsCheck):Option Int:=
  (V7 p1.Map_.Version 0 1099511627776).bind fun v1=>cond (!v1) (some 2) (cond ((p1.Map_.Lanes.length:Int)==0) (some 6) (cond ((((decide ((p1.Map_.Lanes.length:Int)>12))||(decide ((p1.Map_.Zones.length:Int)>12)))||(decide ((p1.Map_.Signals.length:Int)>4)))||(decide ((p1.Map_.Works.length:Int)>8))) (some 8) (some 0)))
theorem Tu(p1 r)(h:Ad p1=some r):PCall prog 65 [(.agg (N8 p1.Map_))] (i64 r):=by
 refine D7 (fk func65 ntmps65 m0 (by with_unfolding_all rfl)) (nl Z) ?_
 unfold Ad at h
 refine A7 (s0:=⟨T [(0,(.d _))],G []⟩) (E3 Z Z) ?_
 refine B8<|sm Z<|sv Z<|A1<|A3<|A5<|B8<|sq Z<|sp Z Z<|sl Z G_hit Z<|bs h fun v1 hv1 h=>D1 Z Z A6 (V2 _ _ _ _ hv1) (.inl Z) (B6 (.d (bo (!v1))) Z Z (sv Z<|A1<|cc Z h (fun c1 h=> ?_)<|fun c1 h=> ?_))
 refine B8<|sv Z<|A1<|B9 ?_
 cases h
 exact B4 (.inr Z) (C5 (C0 Z) D4) (.refl _)
 refine B8<|sq Z<|sp Z Z<|sl Z G_hit Z<|sd Z (C8 Z)<|sv Z<|sv Z<|A1<|cc Z h (fun c2 h=> ?_)<|fun c2 h=> ?_
 refine B8<|sv Z<|A1<|B9 ?_
 cases h
 exact B4 (.inr Z) (C5 (C0 Z) D4) (.refl _)
 refine B8<|sq Z<|sp Z Z<|sl Z G_hit Z<|sd Z (C8 Z)<|sv Z<|sv Z<|gp Z (N7 Z) (fun _=>Z) ?_
 refine T3 _ (.ptr _ _) Z (N7 Z) (fun w2=>(by simp only [A8 w2];rfl)) ?_
 refine gf Z (vl Z G_hit Z)<|gf Z (fun w4=>(C8<|A8 w4))<|gf Z (vb Z Z Z)<|sd Z (X6 Z Z<|fun hc=>A8<|O7 hc)<|sv Z<|gp Z (N7 Z) (fun _=>Z) ?_
 refine T3 _ (.ptr _ _) Z (N7 Z) (fun w7=>(by simp only [A8 w7];rfl)) ?_
 refine gf Z (vl Z G_hit Z)<|gf Z (fun w9=>(C8<|A8 w9))<|gf Z (vb Z Z Z)<|sd Z (X6 Z Z<|fun hc=>A8<|O7 hc)<|sv Z<|gp Z (N7 Z) (fun _=>Z) ?_
 refine T3 _ (.ptr _ _) Z (N7 Z) (fun w12=>(by simp only [A8 w12];rfl)) ?_
 refine gf Z (vl Z G_hit Z)<|gf Z (fun w14=>(C8<|A8 w14))<|gf Z (vb Z Z Z)<|sd Z (X6 Z Z<|fun hc=>A8<|O7 hc)<|sv Z<|A1<|cc Z h (fun c3 h=> ?_)<|fun c3 h=> ?_
 refine A3<|A7 (s0:=⟨T [],G []⟩) (E3 Z Z) ?_
 refine B5<|sv Z<|A1<|B9 ?_
 cases h
 exact B4 (.inr Z) (C5 (C0 Z) D4) (.refl _)
 refine B3<|E0<|A3<|A7 (s0:=⟨T [],G []⟩) (E3 Z Z) ?_
 refine B5<|sv Z<|A1<|B9 ?_
 cases h
 exact B4 (.inr Z) (C5 (C0 Z) D4) (.refl _)
def Jc (p1:Int):Option (Int×Int×Int):=
  cond ((decide (p1<0))||(decide (p1≥4))) (some (0,0,0)) ((F0 ([(0,0,0),(2000,30,90),(1000,20,60),(300,100,300)]:List (Int×Int×Int)) p1).bind fun v1=>some (v1.1,v1.2.1,v1.2.2))
theorem Uq(p1 r)(h:Jc p1=some r):PCall prog 169 [(i64 p1)] (.tup [(i64 r.1),(i64 r.2.1),(i64 r.2.2)]):=by
 refine D7 (fk func169 ntmps169 m0 (by with_unfolding_all rfl)) (nl Z) ?_
 unfold Jc at h
 refine A7 (s0:=⟨T [(0,(.d _))],G []⟩) (E3 Z Z) ?_
 refine B8<|sv Z<|sv Z<|sv Z<|A1<|B8<|sv Z<|sv Z<|sv Z<|sv Z<|sm Z<|V6 Z G_hit [(di 0),(di 0),(di 0),(di 2000),(di 30),(di 90),(di 1000),(di 20),(di 60),(di 300),(di 100),(di 300)] Z (A1<|A3<|B8<|sv Z<|sv Z<|sv Z<|gf Z (fun _=>Z)<|gf Z (vb Z Z Z)<|sd Z (X6 Z Z<|fun hc=>A8<|O7 hc)<|A1<|cc Z h (fun c1 h=> ?_)<|fun c1 h=> ?_)
 refine B8<|sv Z<|sv Z<|sv Z<|A1<|B9 ?_
 cases h
 exact B4 (.inr Z) (CA (C0 Z) (C0 Z) (C0 Z) D4 D4 D4) (.refl _)
 refine B3<|lr<|fun u5 _=>sv Z<|bs h fun v1 hv1 h=>sp Z (Zm Z Z hv1 Z)<|sd Z (XQ (f:=jE) Z G_hit hv1 (fun _=>Z) Z Z)<|sm Z<|V6 Z G_hit [(di v1.1),(di v1.2.1),(di v1.2.2)] Z (A1<|A3<|A7 (s0:=⟨T [(6,(.ptr _ _))],G [((6,u5),some<|.box 249 _)]⟩) (E3 Z Z) ?_)
 refine M8 Z<|sq Z<|sl Z G_hit Z<|sq Z<|sl Z G_hit Z<|sq Z<|sl Z G_hit Z<|sv Z<|sv Z<|sv Z<|A1<|B9 ?_
 cases h
 exact B4 (.inr Z) (CA (C0 Z) (C0 Z) (C0 Z) D4 D4 D4) (.refl _)
def Fg (p1:(List Spot))(x1:Int):Option (Stp Int (Sum Unit Bool)):=
  cond (decide (x1< (p1.length:Int))) ((F0 p1 x1).bind fun v1=>cond ((decide ((SP false v1.X v1.Y)< (-16777216)))||(decide ((SP true v1.X v1.Y)>16777216))) (some (.out (.inr false))) (some (.go (K2 (x1+1))))) (some (.out (.inl ())))
def In [Lp](p1:(List Spot)):Option Bool:=
  thenS (loop (Fg p1) 0) (fun _=>some true) (fun r=>some r)
theorem GQ(p1 r)(h:In p1=some r):PCall prog 233 [(.list (List.map K4 p1))] (bo r):=by
 refine D7 (fk func233 ntmps233 m0 (by with_unfolding_all rfl)) (nl Z) ?_
 unfold In at h
 refine A7 (s0:=⟨T [(0,(.d _))],G []⟩) (E3 Z Z) ?_
 refine B8<|sv Z<|A1<|A3<|B8<|sv Z<|sd Z (C8 Z)<|sv Z<|A1<|js h fun z1 hz1 h=>D0 (fun s=> ∃(y1:Unit) (g1:Unit),z1= .inl y1∧Sb ⟨T [],G []⟩ s) ?_ ?_
 refine A5<|D2 (Fg p1) (fun (x1:Int) (g2:Unit)=>⟨T [(5,(dl K4 p1)),(6,(di (p1.length:Int))),(7,(di x1))],G []⟩) 0 () _ hz1 (E3 Z Z) ?_
 intro x1 g2 z2 hz2 ez2
 unfold Fg at hz2
 refine B8<|sv Z<|A1<|A3<|cc Z hz2 (fun c1 hz2=> ?_)<|fun c1 hz2=> ?_
 refine B3<|A3<|A5<|B8<|bs hz2 fun v1 hv1 hz2=>sd Z (D8 Z Z hv1 Z)<|sd Z (D9 Z hv1 Z Z)<|sm Z<|V6 Z G_hit [(di v1.X),(di v1.Y)] Z (A1<|B8<|sq Z<|sl Z G_hit Z<|sq Z<|sl Z G_hit Z<|sv Z<|sv Z<|sv Z<|gp Z (N7 Z) (fun _=>Z) (gf Z (vl Z G_hit Z)<|gp Z (N7 Z) (fun _=>Z) (gf Z (vl Z G_hit Z) ?_)))
 refine gf Z (fun w5=>(by simp only [A8 w5];rfl)) ?_
 refine gf Z (vb Z Z Z)<|sd Z (X6 Z Z<|fun hc=>A8<|O7 hc)<|A1<|cc Z hz2 (fun c2 hz2=> ?_)<|fun c2 hz2=> ?_
 refine A3<|A7 (s0:=⟨T [],G []⟩) (E3 Z Z) ?_
 refine B5<|sv Z<|A1<|B9 ?_
 cases hz2
 obtain rfl:=ez2 _ rfl
 refine ⟨nofun,F8 ?_⟩
 rw [bN]at h
 cases h
 exact B4 (.inr Z) (C5 (C0 Z) D4) (.refl _)
 refine B3<|E0<|A7 (s0:=⟨T [(5,(.d _)),(6,(.d _)),(7,(.d _))],G []⟩) (E3 Z Z) ?_
 refine B5<|sv Z<|sv Z<|A1<|D6 ?_
 cases hz2
 exact ⟨Z,(),(E3 Z Z)⟩
 refine C3 Z ?_
 cases hz2
 obtain rfl:=ez2 _ rfl
 refine ⟨nofun,C2 Z<|T4 ?_⟩
 exact ⟨_,(),Z,(E3 Z Z)⟩
 rintro _ ⟨y1,g1,rfl,q1⟩
 rw [bM]at h
 refine A7 q1<|B8<|sv Z<|A1<|B9 ?_
 cases h
 exact B4 (.inr Z) (C5 (C0 Z) D4) (.refl _)
def Mi (p1:Spot)(p2:Spot):Option CurveVector:=
  some (CurveVector.mk (K2 (p2.X - p1.X)) (K2 (p2.Y - p1.Y)))
theorem Xj(p1 p2 r)(h:Mi p1 p2=some r):PCall prog 234 [(.agg [(i64 p1.X),(i64 p1.Y)]),(.agg [(i64 p2.X),(i64 p2.Y)])] (.agg [(i64 r.x),(i64 r.y)]):=by
 refine D7 (fk func234 ntmps234 m0 (by with_unfolding_all rfl)) (nl Z) ?_
 unfold Mi at h
 refine A7 (s0:=⟨T [(0,(.d _)),(1,(.d _))],G []⟩) (E3 Z Z) ?_
 refine B8<|sm Z<|sn Z Z<|sm Z<|A1<|B8<|sq Z<|sl Z (gq Z) Z (sq Z<|sl Z (gq Z) Z (sv Z<|sq Z<|sl Z (gq Z) Z (sq Z<|sl Z (gq Z) Z (sv Z<|sv Z<|V6 Z G_hit [(di<|K2 (p2.X - p1.X)),(di<|K2 (p2.Y - p1.Y))] Z (A1<|B9 ?_)))))
 cases h
 exact B4 (.inr Z) (C5 (L0 Z G_hit (nl Z) Z) D4) (.refl _)
def Aw (p1:CurveVector)(p2:CurveVector):Option Int:=
  some (K2 ((K2 (p1.x*p2.x))+ (K2 (p1.y*p2.y))))
theorem Jm(p1 p2 r)(h:Aw p1 p2=some r):PCall prog 236 [(.agg [(i64 p1.x),(i64 p1.y)]),(.agg [(i64 p2.x),(i64 p2.y)])] (i64 r):=by
 refine D7 (fk func236 ntmps236 m0 (by with_unfolding_all rfl)) (nl Z) ?_
 unfold Aw at h
 refine A7 (s0:=⟨T [(0,(.d _)),(1,(.d _))],G []⟩) (E3 Z Z) ?_
 refine B8<|sm Z<|sn Z Z<|sv Z<|A1<|B8<|sq Z<|sl Z (gq Z) Z (sq Z<|sl Z G_hit Z<|sv Z<|sq Z<|sl Z (gq Z) Z (sq Z<|sl Z G_hit Z<|sv Z<|sv Z<|sv Z<|A1<|B9 ?_))
 cases h
 exact B4 (.inr Z) (C5 (C0 Z) D4) (.refl _)
def Jr (p1:Int)(x1:(Int×Int)):Option (Stp (Int×Int) Int):=
  cond (decide (x1.1<x1.2)) (cond (decide ((K2 ((K2 ((K2 (x1.1+x1.2)).tdiv 2))* (K2 ((K2 (x1.1+x1.2)).tdiv 2))))<p1)) (some (.go ((K2 ((K2 ((K2 (x1.1+x1.2)).tdiv 2))+1)),x1.2))) (some (.go (x1.1,(K2 ((K2 (x1.1+x1.2)).tdiv 2)))))) (some (.out x1.1))
def Fh [Lp](p1:Int):Option (Int×Bool):=
  (loop (Jr p1) (0,67108864)).bind fun y1=>some (y1,((K2 (y1*y1))==p1))
theorem Xk(p1 r)(h:Fh p1=some r):PCall prog 235 [(i64 p1)] (.tup [(i64 r.1),(bo r.2)]):=by
 refine D7 (fk func235 ntmps235 m0 (by with_unfolding_all rfl)) (nl Z) ?_
 unfold Fh at h
 refine A7 (s0:=⟨T [(0,(.d _))],G []⟩) (E3 Z Z) ?_
 refine B8<|sv Z<|sv Z<|A1<|B8<|sv Z<|sv Z<|A1<|A3<|bs h fun y1 hy1 h=>D0 (fun s=> ∃g1:Unit,Sb ⟨T [(0,(di p1)),(4,(di y1))],G []⟩ s) ?_ ?_
 refine A5<|D2 (Jr p1) (fun (x1:(Int×Int)) (g2:Unit)=>⟨T [(0,(di p1)),(4,(di x1.1)),(5,(di x1.2))],G []⟩) (0,67108864) () _ hy1 (E3 Z Z) ?_
 intro x1 g2 z1 hz1 ez1
 unfold Jr at hz1
 refine A3<|B8<|sv Z<|sv Z<|sv Z<|A1<|cc Z hz1 (fun c1 hz1=> ?_)<|fun c1 hz1=> ?_
 refine B3<|A5<|B8<|sv Z<|sv Z<|sv Z<|sv Z<|sv Z<|A1<|B8<|sv Z<|sv Z<|sv Z<|sv Z<|sv Z<|A1<|cc Z hz1 (fun c2 hz1=> ?_)<|fun c2 hz1=> ?_
 refine B5<|sv Z<|sv Z<|sv Z<|A1<|E0<|D6 ?_
 cases hz1
 exact ⟨Z,(),(E3 Z Z)⟩
 refine B5<|sv Z<|sv Z<|A1<|E0<|D6 ?_
 cases hz1
 exact ⟨Z,(),(E3 Z Z)⟩
 refine C3 Z ?_
 cases hz1
 obtain rfl:=ez1 _ rfl
 refine ⟨nofun,C2 Z<|T4 ?_⟩
 exact ⟨(),(E3 Z Z)⟩
 rintro _ ⟨g1,q1⟩
 refine A7 q1<|B8<|sv Z<|sv Z<|sv Z<|sv Z<|sv Z<|sv Z<|sv Z<|sv Z<|A1<|B9 ?_
 cases h
 exact B4 (.inr Z) (My (C0 Z) (C0 Z) D4 D4) (.refl _)
def X4 [Lp](p1:Curve)(x1:(Int×CurveVector)):Option (Stp (Int×CurveVector) (Sum Unit Int)):=
  cond (decide (x1.1< (K2 ((p1.Pts.length:Int) - 1)))) ((F0 p1.Pts x1.1).bind fun v2=>(F0 p1.Pts (K2 (x1.1+1))).bind fun v3=>(Mi v2 v3).bind fun v4=>(Aw v4 v4).bind fun v5=>(Fh v5).bind fun v6=>cond (!v6.2) (some (.out (.inr 3))) (cond ((decide (v6.1<1000))||(decide (v6.1>1048576))) (some (.out (.inr 2))) (((cond (decide (x1.1>0)) (Aw x1.2 v4) (some default))).bind fun v7=>cond ((decide (x1.1>0))&& (decide (v7≤0))) (some (.out (.inr 12))) (some (.go ((K2 (x1.1+1)),v4)))))) (some (.out (.inl ())))
def Et [Lp](p1:Curve):Option Int:=
  cond (decide ((p1.Pts.length:Int)<2)) (some 6) (cond (decide ((p1.Pts.length:Int)>16)) (some 5) ((In p1.Pts).bind fun v1=>cond (!v1) (some 2) (thenS (loop (X4 p1) (0,(CurveVector.mk 0 0))) (fun _=>some 0) (fun r=>some r))))
theorem Vu(p1 r)(h:Et p1=some r):PCall prog 170 [(.agg [(.list (List.map K4 p1.Pts))])] (i64 r):=by
 refine D7 (fk func170 ntmps170 m0 (by with_unfolding_all rfl)) (nl Z) ?_
 unfold Et at h
 refine A7 (s0:=⟨T [(0,(.d _))],G []⟩) (E3 Z Z) ?_
 refine lr<|fun u1 _=>sm Z<|sv Z<|A1<|A3<|A5<|B8<|sq Z<|sl Z G_hit Z<|sd Z (C8 Z)<|sv Z<|sv Z<|A1<|cc Z h (fun c1 h=> ?_)<|fun c1 h=> ?_
 refine B8<|sv Z<|A1<|B9 ?_
 cases h
 exact B4 (.inr Z) (C5 (C0 Z) D4) (.refl _)
 refine B8<|sq Z<|sl Z G_hit Z<|sd Z (C8 Z)<|sv Z<|sv Z<|A1<|cc Z h (fun c2 h=> ?_)<|fun c2 h=> ?_
 refine B8<|sv Z<|A1<|B9 ?_
 cases h
 exact B4 (.inr Z) (C5 (C0 Z) D4) (.refl _)
 refine B8<|sq Z<|sl Z G_hit Z<|bs h fun v1 hv1 h=>D1 Z Z A6 (GQ _ _ hv1) (.inl Z) (B6 (.d (bo (!v1))) Z Z (sv Z<|A1<|cc Z h (fun c3 h=> ?_)<|fun c3 h=> ?_))
 refine B8<|sv Z<|A1<|B9 ?_
 cases h
 exact B4 (.inr Z) (C5 (C0 Z) D4) (.refl _)
 refine B3<|E0<|lr<|fun u8 _=>sm Z<|A1<|A3<|B8<|sq Z<|sl Z (gq Z) Z (sd Z (C8 Z)<|sv Z<|sv Z<|A1<|js h fun z1 hz1 h=>D0 (fun s=> ∃(y1:Unit) (g1:Unit),z1= .inl y1∧Sb ⟨T [],G []⟩ s) ?_ ?_)
 refine A5<|D2 (X4 p1) (fun (x1:(Int×CurveVector)) (g2:Unit)=>⟨T [(1,(.ptr (1,u1) 0)),(3,(.ptr (3,u8) 0)),(26,(di<|K2 ((p1.Pts.length:Int) - 1))),(27,(di x1.1))],G [((1,u1),some<|.box 39 [(dl K4 p1.Pts)]),((3,u8),some<|.box 253 [(di x1.2.x),(di x1.2.y)])]⟩) (0,(CurveVector.mk 0 0)) () _ hz1 (E3 Z Z) ?_
 intro x1 g2 z2 hz2 ez2
 unfold X4 at hz2
 refine B8<|sv Z<|A1<|A3<|cc Z hz2 (fun c4 hz2=> ?_)<|fun c4 hz2=> ?_
 refine B3<|A3<|A5<|B8<|sv Z<|sv Z<|A1<|A3<|Si Z fun u12 _=>sq Z<|sl Z G_hit Z<|sv Z<|bs hz2 fun _ hv2 hz2=>sd Z (D8 Z Z hv2 Z)<|sd Z (D9 Z hv2 Z Z)<|sq Z<|sl Z G_hit Z<|sv Z<|sv Z<|bs hz2 fun _ hv3 hz2=>sd Z (D8 Z Z hv3 Z)<|sd Z (D9 Z hv3 Z Z)<|bs hz2 fun v4 hv4 hz2=>D1 Z Z A6 (Xj _ _ _ hv4) (.inl Z) (sm Z<|V6 Z G_hit [(di v4.x),(di v4.y)] Z (A1<|A3<|A7 (s0:=⟨T [(1,(.ptr _ _)),(3,(.ptr _ _)),(4,(.d _)),(5,(.ptr _ _)),(26,(.d _)),(27,(.d _))],G [((1,u1),some<|.box 39 _),((3,u8),some<|.box 253 _),((5,u12),some<|.box 253 _)]⟩) (E3 Z Z) ?_))
 refine B5<|sd Z (C6 Z (gq Z) Z Z)<|sd Z (C6 Z (gq Z) Z Z)<|bs hz2 fun _ hv5 hz2=>D1 Z Z A6 (Jm _ _ _ hv5) (.inl Z) (bs hz2 fun v6 hv6 hz2=>D1 Z Z A6 (Xk _ _ hv6) (.inl Z) (sv Z<|sv Z<|sv Z<|sv Z<|sv Z<|A1<|A3<|A5<|B8<|sv Z<|B6 (.d (bo (!v6.2))) Z Z (sv Z<|A1<|cc Z hz2 (fun c5 hz2=> ?_)<|fun c5 hz2=> ?_)))
 refine B8<|sv Z<|A1<|B9 ?_
 cases hz2
 obtain rfl:=ez2 _ rfl
 refine ⟨nofun,F8 ?_⟩
 rw [bN]at h
 cases h
 exact B4 (.inr Z) (C5 (C0 Z) D4) (.refl _)
 refine B8<|sv Z<|sv Z<|sv Z<|gf Z (fun _=>Z)<|gf Z (vb Z Z Z)<|sd Z (X6 Z Z<|fun hc=>A8<|O7 hc)<|sv Z<|A1<|cc Z hz2 (fun c6 hz2=> ?_)<|fun c6 hz2=> ?_
 refine A3<|A7 (s0:=⟨T [],G []⟩) (E3 Z Z) ?_
 refine B5<|sv Z<|A1<|B9 ?_
 cases hz2
 obtain rfl:=ez2 _ rfl
 refine ⟨nofun,F8 ?_⟩
 rw [bN]at h
 cases h
 exact B4 (.inr Z) (C5 (C0 Z) D4) (.refl _)
 refine A3<|A7 (s0:=⟨T [(1,(.ptr _ _)),(3,(.ptr _ _)),(4,(.d _)),(5,(.ptr _ _)),(26,(.d _)),(27,(.d _))],G [((1,u1),some<|.box 39 _),((3,u8),some<|.box 253 _),((5,u12),some<|.box 253 _)]⟩) (E3 Z Z) ?_
 refine B5<|sv Z<|sv Z<|sv Z<|gt Z (fun _=>(C6 Z (gq Z) Z Z))<|gt Z (fun _=>(C6 Z (gq Z) Z Z))<|bs hz2 fun v7 hv7 hz2=> ?_
 refine N0 _ (i64 v7) (L5 Z) (fun w5=>⟨_,[(.d (.agg [(i64 x1.2.x),(i64 x1.2.y)])),(.d (.agg [(i64 v4.x),(i64 v4.y)]))],_,_,(by simp only [A8 w5];rfl),Z,A6,Jm _ _ _<|H4 w5 hv7,(.inl Z)⟩) ?_
 refine gt Z (vb Z Z Z)<|sa Z Z Z<|sv Z<|A1<|cc Z hz2 (fun c7 hz2=> ?_)<|fun c7 hz2=> ?_
 refine B8<|sv Z<|A1<|B9 ?_
 cases hz2
 obtain rfl:=ez2 _ rfl
 refine ⟨nofun,F8 ?_⟩
 rw [bN]at h
 cases h
 exact B4 (.inr Z) (C5 (C0 Z) D4) (.refl _)
 refine B3<|E0<|B5<|sd Z (C6 Z (gq Z) Z Z)<|V6 Z (gq Z) [(di v4.x),(di v4.y)] Z (A1<|E0<|B5<|sv Z<|sv Z<|A1<|D6 ?_)
 cases hz2
 exact ⟨Z,(),(E3 Z Z)⟩
 refine C3 Z ?_
 cases hz2
 obtain rfl:=ez2 _ rfl
 refine ⟨nofun,C2 Z<|T4 ?_⟩
 exact ⟨_,(),Z,(E3 Z Z)⟩
 rintro _ ⟨y1,g1,rfl,q1⟩
 rw [bM]at h
 refine A7 q1<|B8<|sv Z<|A1<|B9 ?_
 cases h
 exact B4 (.inr Z) (C5 (C0 Z) D4) (.refl _)
def Ca (p1:(List Int))(p3:Int)(x1:(Int×Int)):Option (Stp (Int×Int) (Sum Unit Bool)):=
  cond (decide (x1.2< (p1.length:Int))) ((F0 p1 x1.2).bind fun v1=>cond ((decide (v1<x1.1))||(decide (v1≥p3))) (some (.out (.inr false))) (some (.go ((K2 (v1+1)),(K2 (x1.2+1)))))) (some (.out (.inl ())))
def Bk [Lp](p1:(List Int))(p2:Int)(p3:Int):Option Bool:=
  thenS (loop (Ca p1 p3) (p2,0)) (fun _=>some true) (fun r=>some r)
theorem Ni(p1 p2 p3 r)(h:Bk p1 p2 p3=some r):PCall prog 171 [(.list (List.map A4 p1)),(i64 p2),(i64 p3)] (bo r):=by
 refine D7 (fk func171 ntmps171 m0 (by with_unfolding_all rfl)) (nl Z) ?_
 unfold Bk at h
 refine A7 (s0:=⟨T [(0,(.d _)),(1,(.d _)),(2,(.d _))],G []⟩) (E3 Z Z) ?_
 refine B8<|sv Z<|A1<|A3<|B8<|sv Z<|sd Z (C8 Z)<|sv Z<|A1<|js h fun z1 hz1 h=>D0 (fun s=> ∃(y1:Unit) (g1:Unit),z1= .inl y1∧Sb ⟨T [],G []⟩ s) ?_ ?_
 refine A5<|D2 (Ca p1 p3) (fun (x1:(Int×Int)) (g2:Unit)=>⟨T [(1,(di x1.1)),(2,(di p3)),(9,(dl A4 p1)),(10,(di (p1.length:Int))),(11,(di x1.2))],G []⟩) (p2,0) () _ hz1 (E3 Z Z) ?_
 intro x1 g2 z2 hz2 ez2
 unfold Ca at hz2
 refine B8<|sv Z<|A1<|A3<|cc Z hz2 (fun c1 hz2=> ?_)<|fun c1 hz2=> ?_
 refine B3<|A3<|A5<|B8<|bs hz2 fun _ hv1 hz2=>sd Z (D8 Z Z hv1 Z)<|sd Z (E9 Z hv1 Z)<|sv Z<|A1<|A3<|B8<|sv Z<|sv Z<|sv Z<|sv Z<|gf Z (fun _=>Z)<|gf Z (fun _=>Z)<|gf Z (fun w3=>(An (A8 w3) (A8 w3) Z))<|sd Z (X6 Z Z<|fun hc=>A8<|O7 hc)<|A1<|cc Z hz2 (fun c2 hz2=> ?_)<|fun c2 hz2=> ?_
 refine B8<|sv Z<|A1<|B9 ?_
 cases hz2
 obtain rfl:=ez2 _ rfl
 refine ⟨nofun,F8 ?_⟩
 rw [bN]at h
 cases h
 exact B4 (.inr Z) (C5 (C0 Z) D4) (.refl _)
 refine B3<|B5<|sv Z<|sv Z<|sv Z<|A1<|E0<|B5<|sv Z<|sv Z<|A1<|D6 ?_
 cases hz2
 exact ⟨Z,(),(E3 Z Z)⟩
 refine C3 Z ?_
 cases hz2
 obtain rfl:=ez2 _ rfl
 refine ⟨nofun,C2 Z<|T4 ?_⟩
 exact ⟨_,(),Z,(E3 Z Z)⟩
 rintro _ ⟨y1,g1,rfl,q1⟩
 rw [bM]at h
 refine A7 q1<|B8<|sv Z<|A1<|B9 ?_
 cases h
 exact B4 (.inr Z) (C5 (C0 Z) D4) (.refl _)
def P8 [Lp](p1:RoadsCheck)(x1:Int):Option (Stp Int (Sum Unit Int)):=
  cond (decide (x1< (p1.Map_.Lanes.length:Int))) ((F0 p1.Map_.Lanes x1).bind fun v1=>(Jc v1.Kind).bind fun v2=>cond (v2.1==0) (some (.out (.inr 4))) ((Et v1.Curve_).bind fun v3=>cond (v3 !=0) (some (.out (.inr v3))) ((V7 v1.Half 200 4000).bind fun v4=>((cond (!(!v4)) (V7 v1.Limit 1 v2.1) (some default))).bind fun v5=>cond ((!v4)||(!v5)) (some (.out (.inr 2))) (cond (decide ((v1.Next.length:Int)>3)) (some (.out (.inr 8))) ((Bk v1.Next (K2 (x1+1)) (p1.Map_.Lanes.length:Int)).bind fun v6=>cond (!v6) (some (.out (.inr 11))) (some (.go (K2 (x1+1))))))))) (some (.out (.inl ())))
def U3 [Lp](p1:RoadsCheck):Option Int:=
  thenS (loop (P8 p1) 0) (fun _=>some 0) (fun r=>some r)
theorem Vv(p1 r)(h:U3 p1=some r):PCall prog 66 [(.agg (N8 p1.Map_))] (i64 r):=by
 refine D7 (fk func66 ntmps66 m0 (by with_unfolding_all rfl)) (nl Z) ?_
 unfold U3 at h
 refine A7 (s0:=⟨T [(0,(.d _))],G []⟩) (E3 Z Z) ?_
 refine lr<|fun u1 _=>sm Z<|sv Z<|A1<|A3<|B8<|sq Z<|sp Z Z<|sl Z G_hit Z<|sd Z (C8 Z)<|sv Z<|A1<|js h fun z1 hz1 h=>D0 (fun s=> ∃(y1:Unit) (g1:Unit),z1= .inl y1∧Sb ⟨T [],G []⟩ s) ?_ ?_
 refine A5<|D2 (P8 p1) (fun (x1:Int) (g2:Unit)=>⟨T [(1,(.ptr (1,u1) 0)),(11,(dl J7 p1.Map_.Lanes)),(12,(di (p1.Map_.Lanes.length:Int))),(13,(di x1))],G [((1,u1),some<|.box 105 (F2 p1.Map_))]⟩) 0 () _ hz1 (E3 Z Z) ?_
 intro x1 g2 z2 hz2 ez2
 unfold P8 at hz2
 refine B8<|sv Z<|A1<|A3<|cc Z hz2 (fun c1 hz2=> ?_)<|fun c1 hz2=> ?_
 refine B3<|A3<|A5<|lr<|fun u4 _=>sv Z<|bs hz2 fun v1 hv1 hz2=>sd Z (D8 Z Z hv1 Z)<|sd Z (D9 Z hv1 Z Z)<|sm Z<|sv Z<|V6 Z G_hit (T6 v1) Z (A1<|B8<|sq Z<|sl Z G_hit Z<|bs hz2 fun v2 hv2 hz2=>D1 Z Z A6 (Uq _ _ hv2) (.inl Z) (sv Z<|sv Z<|sv Z<|sv Z<|sv Z<|sv Z<|sv Z<|A1<|A3<|A3<|A7 (s0:=⟨T [(1,(.ptr _ _)),(3,(.d _)),(4,(.ptr _ _)),(5,(.d _)),(11,(.d _)),(12,(.d _)),(13,(.d _))],G [((1,u1),some<|.box 105 _),((4,u4),some<|.box 42 _)]⟩) (E3 Z Z) ?_))
 refine B5<|sv Z<|sv Z<|A1<|cc Z hz2 (fun c2 hz2=> ?_)<|fun c2 hz2=> ?_
 refine B8<|sv Z<|A1<|B9 ?_
 cases hz2
 obtain rfl:=ez2 _ rfl
 refine ⟨nofun,F8 ?_⟩
 rw [bN]at h
 cases h
 exact B4 (.inr Z) (C5 (C0 Z) D4) (.refl _)
 refine B3<|A3<|B8<|sq Z<|sd Z (C6 Z (gq Z) Z Z)<|bs hz2 fun _ hv3 hz2=>D1 Z Z A6 (Vu _ _ hv3) (.inl Z) (sv Z<|A1<|B8<|sv Z<|sv Z<|A1<|cc Z hz2 (fun c3 hz2=> ?_)<|fun c3 hz2=> ?_)
 refine B8<|sv Z<|sv Z<|A1<|B9 ?_
 cases hz2
 obtain rfl:=ez2 _ rfl
 refine ⟨nofun,F8 ?_⟩
 rw [bN]at h
 cases h
 exact B4 (.inr Z) (C5 (C0 Z) D4) (.refl _)
 refine B3<|A5<|B8<|sq Z<|sl Z (gq Z) Z (bs hz2 fun v4 hv4 hz2=>D1 Z Z A6 (V2 _ _ _ _ hv4) (.inl Z) (B6 (.d (bo (!v4))) Z Z (sv Z<|gp Z (N7 Z) (fun _=>Z) (gf Z (vl Z (gq Z) Z)<|gf Z (fun _=>Z)<|bs hz2 fun v5 hv5 hz2=> ?_))))
 refine N0 _ (bo v5) (N7 Z) (fun w4=>⟨_,[(di v1.Limit),(di 1),(di v2.1)],_,_,(by simp only [A8 w4];rfl),Z,A6,V2 _ _ _ _<|H4 w4 hv5,(.inl Z)⟩) ?_
 refine T3 _ (.d (bo (!v5))) Z (N7 Z) (fun w5=>(by simp only [A8 w5];rfl)) ?_
 refine sd Z (X6 Z Z<|fun hc=>A8<|O7 hc)<|sv Z<|A1<|cc Z hz2 (fun c4 hz2=> ?_)<|fun c4 hz2=> ?_
 refine A3<|A7 (s0:=⟨T [],G []⟩) (E3 Z Z) ?_
 refine B5<|sv Z<|A1<|B9 ?_
 cases hz2
 obtain rfl:=ez2 _ rfl
 refine ⟨nofun,F8 ?_⟩
 rw [bN]at h
 cases h
 exact B4 (.inr Z) (C5 (C0 Z) D4) (.refl _)
 refine A3<|A7 (s0:=⟨T [(1,(.ptr _ _)),(3,(.d _)),(4,(.ptr _ _)),(11,(.d _)),(12,(.d _)),(13,(.d _))],G [((1,u1),some<|.box 105 _),((4,u4),some<|.box 42 _)]⟩) (E3 Z Z) ?_
 refine B5<|sq Z<|sl Z (gq Z) Z (sd Z (C8 Z)<|sv Z<|sv Z<|A1<|cc Z hz2 (fun c5 hz2=> ?_)<|fun c5 hz2=> ?_)
 refine B8<|sv Z<|A1<|B9 ?_
 cases hz2
 obtain rfl:=ez2 _ rfl
 refine ⟨nofun,F8 ?_⟩
 rw [bN]at h
 cases h
 exact B4 (.inr Z) (C5 (C0 Z) D4) (.refl _)
 refine B8<|sq Z<|sl Z (gq Z) Z (sv Z<|sv Z<|sq Z<|sp Z Z<|sl Z G_hit Z<|sd Z (C8 Z)<|bs hz2 fun v6 hv6 hz2=>D1 Z Z A6 (Ni _ _ _ _ hv6) (.inl Z) (B6 (.d (bo (!v6))) Z Z (sv Z<|A1<|cc Z hz2 (fun c6 hz2=> ?_)<|fun c6 hz2=> ?_)))
 refine A3<|A7 (s0:=⟨T [],G []⟩) (E3 Z Z) ?_
 refine B5<|sv Z<|A1<|B9 ?_
 cases hz2
 obtain rfl:=ez2 _ rfl
 refine ⟨nofun,F8 ?_⟩
 rw [bN]at h
 cases h
 exact B4 (.inr Z) (C5 (C0 Z) D4) (.refl _)
 refine B3<|E0<|E0<|A7 (s0:=⟨T [(1,(.ptr _ _)),(11,(.d _)),(12,(.d _)),(13,(.d _))],G [((1,u1),some<|.box 105 _)]⟩) (E3 Z Z) ?_
 refine B5<|sv Z<|sv Z<|A1<|D6 ?_
 cases hz2
 exact ⟨Z,(),(E3 Z Z)⟩
 refine C3 Z ?_
 cases hz2
 obtain rfl:=ez2 _ rfl
 refine ⟨nofun,C2 Z<|T4 ?_⟩
 exact ⟨_,(),Z,(E3 Z Z)⟩
 rintro _ ⟨y1,g1,rfl,q1⟩
 rw [bM]at h
 refine A7 q1<|B8<|sv Z<|A1<|B9 ?_
 cases h
 exact B4 (.inr Z) (C5 (C0 Z) D4) (.refl _)
def X0 (p1:RoadsCheck)(v1:Lane)(v2:Spot)(x2:Int):Option (Stp Int (Sum Unit Int)):=
  cond (decide (x2< (v1.Next.length:Int))) ((F0 v1.Next x2).bind fun v3=>(F0 p1.Map_.Lanes v3).bind fun v4=>cond (v4.Kind !=v1.Kind) (some (.out (.inr 4))) ((F0 p1.Map_.Lanes v3).bind fun v5=>(F0 v5.Curve_.Pts 0).bind fun v6=>cond (!(v6.X==v2.X&& (v6.Y==v2.Y&&true))) (some (.out (.inr 3))) (some (.go (K2 (x2+1)))))) (some (.out (.inl ())))
def O8 [Lp](p1:RoadsCheck)(x1:Int):Option (Stp Int (Sum Unit Int)):=
  cond (decide (x1< (p1.Map_.Lanes.length:Int))) ((F0 p1.Map_.Lanes x1).bind fun v1=>(F0 v1.Curve_.Pts (K2 ((v1.Curve_.Pts.length:Int) - 1))).bind fun v2=>thenS (loop (X0 p1 v1 v2) 0) (fun _=>some (.go (K2 (x1+1)))) (fun r=>some (.out (.inr r)))) (some (.out (.inl ())))
def S7 [Lp](p1:RoadsCheck):Option Int:=
  thenS (loop (O8 p1) 0) (fun _=>some 0) (fun r=>some r)
theorem Ux(p1 r)(h:S7 p1=some r):PCall prog 67 [(.agg (N8 p1.Map_))] (i64 r):=by
 refine D7 (fk func67 ntmps67 m0 (by with_unfolding_all rfl)) (nl Z) ?_
 unfold S7 at h
 refine A7 (s0:=⟨T [(0,(.d _))],G []⟩) (E3 Z Z) ?_
 refine lr<|fun u1 _=>sm Z<|sv Z<|A1<|A3<|B8<|sq Z<|sp Z Z<|sl Z G_hit Z<|sd Z (C8 Z)<|sv Z<|A1<|js h fun z1 hz1 h=>D0 (fun s=> ∃(y1:Unit) (g1:Unit),z1= .inl y1∧Sb ⟨T [],G []⟩ s) ?_ ?_
 refine A5<|D2 (O8 p1) (fun (x1:Int) (g2:Unit)=>⟨T [(1,(.ptr (1,u1) 0)),(10,(dl J7 p1.Map_.Lanes)),(11,(di (p1.Map_.Lanes.length:Int))),(12,(di x1))],G [((1,u1),some<|.box 105 (F2 p1.Map_))]⟩) 0 () _ hz1 (E3 Z Z) ?_
 intro x1 g2 z2 hz2 ez2
 unfold O8 at hz2
 refine B8<|sv Z<|A1<|A3<|cc Z hz2 (fun c1 hz2=> ?_)<|fun c1 hz2=> ?_
 refine B3<|A3<|A5<|lr<|fun u4 _=>bs hz2 fun v1 hv1 hz2=>sd Z (D8 Z Z hv1 Z)<|sd Z (D9 Z hv1 Z Z)<|sm Z<|V6 Z G_hit (T6 v1) Z (A1<|lr<|fun u5 _=>sq Z<|sq Z<|sl Z G_hit Z<|sq Z<|sp Z Z<|sl Z G_hit Z<|sd Z (C8 Z)<|sv Z<|bs hz2 fun v2 hv2 hz2=>sd Z (D8 Z Z hv2 Z)<|sd Z (D9 Z hv2 Z Z)<|sm Z<|V6 Z G_hit [(di v2.X),(di v2.Y)] Z (A1<|A3<|A7 (s0:=⟨T [(1,(.ptr _ _)),(4,(.ptr _ _)),(5,(.ptr _ _)),(10,(.d _)),(11,(.d _)),(12,(.d _))],G [((1,u1),some<|.box 105 _),((4,u4),some<|.box 42 _),((5,u5),some<|.box 148 _)]⟩) (E3 Z Z) ?_))
 refine B5<|sq Z<|sl Z (gq Z) Z (sd Z (C8 Z)<|sv Z<|A1<|js hz2 fun z3 hz3 hz2=>D0 (fun s=> ∃(y2:Unit) (g3:Unit),z3= .inl y2∧Sb ⟨T [(1,(.ptr (1,u1) 0)),(10,(dl J7 p1.Map_.Lanes)),(11,(di (p1.Map_.Lanes.length:Int))),(12,(di x1))],G [((1,u1),some<|.box 105 (F2 p1.Map_))]⟩ s) ?_ ?_)
 refine A5<|D2 (X0 p1 v1 v2) (fun (x2:Int) (g4:Unit)=>⟨T [(1,(.ptr (1,u1) 0)),(4,(.ptr (4,u4) 0)),(5,(.ptr (5,u5) 0)),(10,(dl J7 p1.Map_.Lanes)),(11,(di (p1.Map_.Lanes.length:Int))),(12,(di x1)),(27,(dl A4 v1.Next)),(28,(di (v1.Next.length:Int))),(29,(di x2))],G [((1,u1),some<|.box 105 (F2 p1.Map_)),((4,u4),some<|.box 42 (T6 v1)),((5,u5),some<|.box 148 [(di v2.X),(di v2.Y)])]⟩) 0 () _ hz3 (E3 Z Z) ?_
 intro x2 g4 z4 hz4 ez4
 unfold X0 at hz4
 refine B8<|sv Z<|A1<|A3<|cc Z hz4 (fun c2 hz4=> ?_)<|fun c2 hz4=> ?_
 refine B3<|A3<|A5<|B8<|bs hz4 fun _ hv3 hz4=>sd Z (D8 Z Z hv3 Z)<|sd Z (E9 Z hv3 Z)<|sv Z<|A1<|A3<|A3<|M8 Z<|sq Z<|sq Z<|sl Z G_hit Z<|sv Z<|bs hz4 fun _ hv4 hz4=>sd Z (D8 Z Z hv4 Z)<|sv Z<|sd Z (E9 Z hv4 Z)<|sq Z<|sl Z (gq Z) Z (sv Z<|A1<|cc Z hz4 (fun c3 hz4=> ?_)<|fun c3 hz4=> ?_)
 refine A3<|A7 (s0:=⟨T [],G []⟩) (E3 Z Z) ?_
 refine B5<|sv Z<|A1<|B9 ?_
 cases hz4
 obtain rfl:=ez4 _ rfl
 refine ⟨nofun,F8 ?_⟩
 rw [bN]at hz2
 cases hz2
 obtain rfl:=ez2 _ rfl
 refine ⟨nofun,F8 ?_⟩
 rw [bN]at h
 cases h
 exact B4 (.inr Z) (C5 (C0 Z) D4) (.refl _)
 refine B3<|A3<|A7 (s0:=⟨T [(1,(.ptr _ _)),(4,(.ptr _ _)),(5,(.ptr _ _)),(7,(.d _)),(10,(.d _)),(11,(.d _)),(12,(.d _)),(27,(.d _)),(28,(.d _)),(29,(.d _))],G [((1,u1),some<|.box 105 _),((4,u4),some<|.box 42 _),((5,u5),some<|.box 148 _)]⟩) (E3 Z Z) ?_
 refine M8 Z<|sq Z<|sq Z<|sl Z G_hit Z<|sv Z<|bs hz4 fun _ hv5 hz4=>sd Z (D8 Z Z hv5 Z)<|sv Z<|sv Z<|sd Z (E9 Z hv5 Z)<|bs hz4 fun v6 hv6 hz4=>sd Z (D8 Z Z hv6 Z)<|sd Z (D9 Z hv6 Z Z)<|sd Z (C6 Z (gq Z) Z Z)<|B6 (.d (bo (!(v6.X==v2.X&& (v6.Y==v2.Y&&true))))) Z Z (A1<|cc Z hz4 (fun c4 hz4=> ?_)<|fun c4 hz4=> ?_)
 refine A3<|A7 (s0:=⟨T [],G []⟩) (E3 Z Z) ?_
 refine B5<|sv Z<|A1<|B9 ?_
 cases hz4
 obtain rfl:=ez4 _ rfl
 refine ⟨nofun,F8 ?_⟩
 rw [bN]at hz2
 cases hz2
 obtain rfl:=ez2 _ rfl
 refine ⟨nofun,F8 ?_⟩
 rw [bN]at h
 cases h
 exact B4 (.inr Z) (C5 (C0 Z) D4) (.refl _)
 refine B3<|E0<|A7 (s0:=⟨T [(1,(.ptr _ _)),(4,(.ptr _ _)),(5,(.ptr _ _)),(10,(.d _)),(11,(.d _)),(12,(.d _)),(27,(.d _)),(28,(.d _)),(29,(.d _))],G [((1,u1),some<|.box 105 _),((4,u4),some<|.box 42 _),((5,u5),some<|.box 148 _)]⟩) (E3 Z Z) ?_
 refine B5<|sv Z<|sv Z<|A1<|D6 ?_
 cases hz4
 exact ⟨Z,(),(E3 Z Z)⟩
 refine C3 Z ?_
 cases hz4
 obtain rfl:=ez4 _ rfl
 refine ⟨nofun,C2 Z<|T4 ?_⟩
 exact ⟨_,(),Z,(E3 Z Z)⟩
 rintro _ ⟨y2,g3,rfl,q1⟩
 rw [bM]at hz2
 refine E0<|A7 q1<|B5<|sv Z<|sv Z<|A1<|D6 ?_
 cases hz2
 exact ⟨Z,(),(E3 Z Z)⟩
 refine C3 Z ?_
 cases hz2
 obtain rfl:=ez2 _ rfl
 refine ⟨nofun,C2 Z<|T4 ?_⟩
 exact ⟨_,(),Z,(E3 Z Z)⟩
 rintro _ ⟨y1,g1,rfl,q2⟩
 rw [bM]at h
 refine A7 q2<|B8<|sv Z<|A1<|B9 ?_
 cases h
 exact B4 (.inr Z) (C5 (C0 Z) D4) (.refl _)
def Dy (p1:Phase):Option Bool:=
  (V7 p1.Ticks 1 10000).bind fun v1=>some (!v1)
theorem Sk(p1 r)(h:Dy p1=some r):PCall prog 173 [(.agg [(i64 p1.Ticks),(.list (List.map A4 p1.Green))])] (bo r):=by
 refine D7 (fk func173 ntmps173 m0 (by with_unfolding_all rfl)) (nl Z) ?_
 unfold Dy at h
 refine A7 (s0:=⟨T [(0,(.d _))],G []⟩) (E3 Z Z) ?_
 refine B8<|sm Z<|sv Z<|A1<|B8<|sq Z<|sl Z G_hit Z<|bs h fun v1 hv1 h=>D1 Z Z A6 (V2 _ _ _ _ hv1) (.inl Z) (B6 (.d (bo (!v1))) Z Z (sv Z<|A1<|B9 ?_))
 cases h
 exact B4 (.inr Z) (C5 (C0 Z) D4) (.refl _)
def J1 (p1:(List Phase))(x1:Int):Option (Stp Int (Sum Unit Int)):=
  cond (decide (x1< (p1.length:Int))) ((F0 p1 x1).bind fun v1=>(Dy v1).bind fun v2=>cond v2 (some (.out (.inr x1))) (some (.go (K2 (x1+1))))) (some (.out (.inl ())))
def F7 [Lp](p1:(List Phase)):Option Int:=
  thenS (loop (J1 p1) 0) (fun _=>some (-1)) (fun r=>some r)
theorem Cp(p1 r)(h:F7 p1=some r):PCall prog 237 [(.list (List.map G2 p1)),(.fn (.func 173) [] [])] (i64 r):=by
 refine D7 (fk func237 ntmps237 m0 (by with_unfolding_all rfl)) (nl Z) ?_
 unfold F7 at h
 refine A7 (s0:=⟨T [(0,(.d _)),(1,(.d _))],G []⟩) (E3 Z Z) ?_
 refine B8<|sv Z<|A1<|A3<|B8<|sv Z<|sd Z (C8 Z)<|sv Z<|A1<|js h fun z1 hz1 h=>D0 (fun s=> ∃(y1:Unit) (g1:Unit),z1= .inl y1∧Sb ⟨T [],G []⟩ s) ?_ ?_
 refine A5<|D2 (J1 p1) (fun (x1:Int) (g2:Unit)=>⟨T [(0,(dl G2 p1)),(1,(.d (.fn (.func 173) [] []))),(7,(di (p1.length:Int))),(8,(di x1))],G []⟩) 0 () _ hz1 (E3 Z Z) ?_
 intro x1 g2 z2 hz2 ez2
 unfold J1 at hz2
 refine B8<|sv Z<|A1<|A3<|cc Z hz2 (fun c1 hz2=> ?_)<|fun c1 hz2=> ?_
 refine B3<|A3<|A5<|B8<|sv Z<|sv Z<|A1<|B8<|sv Z<|sv Z<|sv Z<|bs hz2 fun _ hv1 hz2=>sd Z (D8 Z Z hv1 Z)<|sd Z (D9 Z hv1 Z Z)<|bs hz2 fun _ hv2 hz2=>D1 Z Z A6 (Sk _ _ hv2) (.inl Z) (A1<|cc Z hz2 (fun c2 hz2=> ?_)<|fun c2 hz2=> ?_)
 refine B8<|sv Z<|sv Z<|A1<|B9 ?_
 cases hz2
 obtain rfl:=ez2 _ rfl
 refine ⟨nofun,F8 ?_⟩
 rw [bN]at h
 cases h
 exact B4 (.inr Z) (C5 (C0 Z) D4) (.refl _)
 refine B3<|E0<|B5<|sv Z<|sv Z<|A1<|D6 ?_
 cases hz2
 exact ⟨Z,(),(E3 Z Z)⟩
 refine C3 Z ?_
 cases hz2
 obtain rfl:=ez2 _ rfl
 refine ⟨nofun,C2 Z<|T4 ?_⟩
 exact ⟨_,(),Z,(E3 Z Z)⟩
 rintro _ ⟨y1,g1,rfl,q1⟩
 rw [bM]at h
 refine A7 q1<|B8<|sv Z<|A1<|B9 ?_
 cases h
 exact B4 (.inr Z) (C5 (C0 Z) D4) (.refl _)
def F1 [Lp](p1:(List Phase)):Option Bool:=
  (F7 p1).bind fun v1=>some (decide (v1≥0))
theorem Bo(p1 r)(h:F1 p1=some r):PCall prog 172 [(.list (List.map G2 p1)),(.fn (.func 173) [] [])] (bo r):=by
 refine D7 (fk func172 ntmps172 m0 (by with_unfolding_all rfl)) (nl Z) ?_
 unfold F1 at h
 refine A7 (s0:=⟨T [(0,(.d _)),(1,(.d _))],G []⟩) (E3 Z Z) ?_
 refine B8<|sv Z<|A1<|B8<|sv Z<|sv Z<|bs h fun _ hv1 h=>D1 Z Z A6 (Cp _ _ hv1) (.inl Z) (sv Z<|sv Z<|A1<|B9 ?_)
 cases h
 exact B4 (.inr Z) (C5 (C0 Z) D4) (.refl _)
def R4 [Lp](p1:Phase)(p2:RoadsCheck):Option Bool:=
  (Bk p1.Green 0 (p2.Map_.Lanes.length:Int)).bind fun v1=>some (!v1)
theorem Qh(p1 p2 r)(h:R4 p1 p2=some r):PCall prog 174 [(.agg [(i64 p1.Ticks),(.list (List.map A4 p1.Green))]),(.bp (N8 p2.Map_) 0)] (bo r):=by
 refine D7 (fk func174 ntmps174 m0 (by with_unfolding_all rfl)) (nl Z) ?_
 unfold R4 at h
 refine A7 (s0:=⟨T [(0,(.d _)),(1,(.d _))],G []⟩) (E3 Z Z) ?_
 refine B8<|sm Z<|sv Z<|A1<|B8<|sq Z<|sl Z G_hit Z<|sv Z<|sv Z<|sv Z<|sd Z (C8 Z)<|bs h fun v1 hv1 h=>D1 Z Z A6 (Ni _ _ _ _ hv1) (.inl Z) (B6 (.d (bo (!v1))) Z Z (sv Z<|A1<|B9 ?_))
 cases h
 exact B4 (.inr Z) (C5 (C0 Z) D4) (.refl _)
def E6 [Lp](p1:(List Phase))(p2:RoadsCheck)(x1:Int):Option (Stp Int (Sum Unit Int)):=
  cond (decide (x1< (p1.length:Int))) ((F0 p1 x1).bind fun v1=>(R4 v1 p2).bind fun v2=>cond v2 (some (.out (.inr x1))) (some (.go (K2 (x1+1))))) (some (.out (.inl ())))
def F6 [Lp](p1:(List Phase))(p2:RoadsCheck):Option Int:=
  thenS (loop (E6 p1 p2) 0) (fun _=>some (-1)) (fun r=>some r)
theorem Cb(p1 p2 r)(h:F6 p1 p2=some r):PCall prog 237 [(.list (List.map G2 p1)),(.fn (.func 174) [] [(.bp (N8 p2.Map_) 0)])] (i64 r):=by
 refine D7 (fk func237 ntmps237 m0 (by with_unfolding_all rfl)) (nl Z) ?_
 unfold F6 at h
 refine A7 (s0:=⟨T [(0,(.d _)),(1,(.d _))],G []⟩) (E3 Z Z) ?_
 refine B8<|sv Z<|A1<|A3<|B8<|sv Z<|sd Z (C8 Z)<|sv Z<|A1<|js h fun z1 hz1 h=>D0 (fun s=> ∃(y1:Unit) (g1:Unit),z1= .inl y1∧Sb ⟨T [],G []⟩ s) ?_ ?_
 refine A5<|D2 (E6 p1 p2) (fun (x1:Int) (g2:Unit)=>⟨T [(0,(dl G2 p1)),(1,(.d (.fn (.func 174) [] [(.bp (N8 p2.Map_) 0)]))),(7,(di (p1.length:Int))),(8,(di x1))],G []⟩) 0 () _ hz1 (E3 Z Z) ?_
 intro x1 g2 z2 hz2 ez2
 unfold E6 at hz2
 refine B8<|sv Z<|A1<|A3<|cc Z hz2 (fun c1 hz2=> ?_)<|fun c1 hz2=> ?_
 refine B3<|A3<|A5<|B8<|sv Z<|sv Z<|A1<|B8<|sv Z<|sv Z<|sv Z<|bs hz2 fun _ hv1 hz2=>sd Z (D8 Z Z hv1 Z)<|sd Z (D9 Z hv1 Z Z)<|bs hz2 fun _ hv2 hz2=>D1 Z Z A6 (Qh _ _ _ hv2) (.inl Z) (A1<|cc Z hz2 (fun c2 hz2=> ?_)<|fun c2 hz2=> ?_)
 refine B8<|sv Z<|sv Z<|A1<|B9 ?_
 cases hz2
 obtain rfl:=ez2 _ rfl
 refine ⟨nofun,F8 ?_⟩
 rw [bN]at h
 cases h
 exact B4 (.inr Z) (C5 (C0 Z) D4) (.refl _)
 refine B3<|E0<|B5<|sv Z<|sv Z<|A1<|D6 ?_
 cases hz2
 exact ⟨Z,(),(E3 Z Z)⟩
 refine C3 Z ?_
 cases hz2
 obtain rfl:=ez2 _ rfl
 refine ⟨nofun,C2 Z<|T4 ?_⟩
 exact ⟨_,(),Z,(E3 Z Z)⟩
 rintro _ ⟨y1,g1,rfl,q1⟩
 rw [bM]at h
 refine A7 q1<|B8<|sv Z<|A1<|B9 ?_
 cases h
 exact B4 (.inr Z) (C5 (C0 Z) D4) (.refl _)
def E7 [Lp](p1:(List Phase))(p2:RoadsCheck):Option Bool:=
  (F6 p1 p2).bind fun v1=>some (decide (v1≥0))
theorem Bl(p1 p2 r)(h:E7 p1 p2=some r):PCall prog 172 [(.list (List.map G2 p1)),(.fn (.func 174) [] [(.bp (N8 p2.Map_) 0)])] (bo r):=by
 refine D7 (fk func172 ntmps172 m0 (by with_unfolding_all rfl)) (nl Z) ?_
 unfold E7 at h
 refine A7 (s0:=⟨T [(0,(.d _)),(1,(.d _))],G []⟩) (E3 Z Z) ?_
 refine B8<|sv Z<|A1<|B8<|sv Z<|sv Z<|bs h fun _ hv1 h=>D1 Z Z A6 (Cb _ _ _ hv1) (.inl Z) (sv Z<|sv Z<|A1<|B9 ?_)
 cases h
 exact B4 (.inr Z) (C5 (C0 Z) D4) (.refl _)
def O1 [Lp](p1:RoadsCheck)(x1:Int):Option (Stp Int (Sum Unit Int)):=
  cond (decide (x1< (p1.Map_.Signals.length:Int))) ((F0 p1.Map_.Signals x1).bind fun v1=>cond ((v1.Phases.length:Int)==0) (some (.out (.inr 6))) (cond (decide ((v1.Phases.length:Int)>6)) (some (.out (.inr 8))) ((V7 v1.Offset 0 1099511627776).bind fun v2=>cond (!v2) (some (.out (.inr 2))) ((F1 v1.Phases).bind fun v3=>cond v3 (some (.out (.inr 2))) ((E7 v1.Phases p1).bind fun v4=>cond v4 (some (.out (.inr 11))) (some (.go (K2 (x1+1))))))))) (some (.out (.inl ())))
def R2 [Lp](p1:RoadsCheck):Option Int:=
  thenS (loop (O1 p1) 0) (fun _=>some 0) (fun r=>some r)
theorem Tv(p1 r)(h:R2 p1=some r):PCall prog 68 [(.agg (N8 p1.Map_))] (i64 r):=by
 refine D7 (fk func68 ntmps68 m0 (by with_unfolding_all rfl)) (nl Z) ?_
 unfold R2 at h
 refine A7 (s0:=⟨T [(0,(.d _))],G []⟩) (E3 Z Z) ?_
 refine lr<|fun u1 _=>sm Z<|sv Z<|A1<|A3<|B8<|sq Z<|sp Z Z<|sl Z G_hit Z<|sd Z (C8 Z)<|sv Z<|A1<|js h fun z1 hz1 h=>D0 (fun s=> ∃(y1:Unit) (g1:Unit),z1= .inl y1∧Sb ⟨T [],G []⟩ s) ?_ ?_
 refine A5<|D2 (O1 p1) (fun (x1:Int) (g2:Unit)=>⟨T [(1,(.ptr (1,u1) 0)),(8,(dl J9 p1.Map_.Signals)),(9,(di (p1.Map_.Signals.length:Int))),(10,(di x1))],G [((1,u1),some<|.box 105 (F2 p1.Map_))]⟩) 0 () _ hz1 (E3 Z Z) ?_
 intro x1 g2 z2 hz2 ez2
 unfold O1 at hz2
 refine B8<|sv Z<|A1<|A3<|cc Z hz2 (fun c1 hz2=> ?_)<|fun c1 hz2=> ?_
 refine B3<|A3<|A5<|lr<|fun u4 _=>bs hz2 fun v1 hv1 hz2=>sd Z (D8 Z Z hv1 Z)<|sd Z (D9 Z hv1 Z Z)<|sm Z<|V6 Z G_hit [(di v1.Offset),(dl G2 v1.Phases)] Z (A1<|B8<|sq Z<|sl Z G_hit Z<|sd Z (C8 Z)<|sv Z<|A1<|A5<|B8<|sv Z<|sv Z<|sv Z<|A1<|cc Z hz2 (fun c2 hz2=> ?_)<|fun c2 hz2=> ?_)
 refine B8<|sv Z<|A1<|B9 ?_
 cases hz2
 obtain rfl:=ez2 _ rfl
 refine ⟨nofun,F8 ?_⟩
 rw [bN]at h
 cases h
 exact B4 (.inr Z) (C5 (C0 Z) D4) (.refl _)
 refine B8<|sv Z<|sv Z<|sv Z<|A1<|cc Z hz2 (fun c3 hz2=> ?_)<|fun c3 hz2=> ?_
 refine B8<|sv Z<|A1<|B9 ?_
 cases hz2
 obtain rfl:=ez2 _ rfl
 refine ⟨nofun,F8 ?_⟩
 rw [bN]at h
 cases h
 exact B4 (.inr Z) (C5 (C0 Z) D4) (.refl _)
 refine B8<|sq Z<|sl Z G_hit Z<|bs hz2 fun v2 hv2 hz2=>D1 Z Z A6 (V2 _ _ _ _ hv2) (.inl Z) (B6 (.d (bo (!v2))) Z Z (sv Z<|A1<|cc Z hz2 (fun c4 hz2=> ?_)<|fun c4 hz2=> ?_))
 refine A3<|A7 (s0:=⟨T [],G []⟩) (E3 Z Z) ?_
 refine B5<|sv Z<|A1<|B9 ?_
 cases hz2
 obtain rfl:=ez2 _ rfl
 refine ⟨nofun,F8 ?_⟩
 rw [bN]at h
 cases h
 exact B4 (.inr Z) (C5 (C0 Z) D4) (.refl _)
 refine A3<|A7 (s0:=⟨T [(1,(.ptr _ _)),(4,(.ptr _ _)),(8,(.d _)),(9,(.d _)),(10,(.d _))],G [((1,u1),some<|.box 105 _),((4,u4),some<|.box 48 _)]⟩) (E3 Z Z) ?_
 refine B5<|sq Z<|sl Z (gq Z) Z (bs hz2 fun _ hv3 hz2=>D1 Z Z A6 (Bo _ _ hv3) (.inl Z) (sv Z<|A1<|cc Z hz2 (fun c5 hz2=> ?_)<|fun c5 hz2=> ?_))
 refine B8<|sv Z<|A1<|B9 ?_
 cases hz2
 obtain rfl:=ez2 _ rfl
 refine ⟨nofun,F8 ?_⟩
 rw [bN]at h
 cases h
 exact B4 (.inr Z) (C5 (C0 Z) D4) (.refl _)
 refine B8<|sq Z<|sl Z (gq Z) Z (B6 (.fn _ _ _) Z Z (bs hz2 fun _ hv4 hz2=>D1 Z (rD<|L9 (HV N1<|L9 (Sh G_hit<|rD<|rD<|rD<|rD<|rD N1) N1) N1) A6 (Bl _ _ _ hv4) (.inr Z) (sv Z<|A1<|cc Z hz2 (fun c6 hz2=> ?_)<|fun c6 hz2=> ?_)))
 refine B8<|sv Z<|A1<|B9 ?_
 cases hz2
 obtain rfl:=ez2 _ rfl
 refine ⟨nofun,F8 ?_⟩
 rw [bN]at h
 cases h
 exact B4 (.inr Z) (C5 (C0 Z) D4) (.refl _)
 refine B3<|E0<|E0<|B5<|sv Z<|sv Z<|A1<|D6 ?_
 cases hz2
 exact ⟨Z,(),(E3 Z Z)⟩
 refine C3 Z ?_
 cases hz2
 obtain rfl:=ez2 _ rfl
 refine ⟨nofun,C2 Z<|T4 ?_⟩
 exact ⟨_,(),Z,(E3 Z Z)⟩
 rintro _ ⟨y1,g1,rfl,q1⟩
 rw [bM]at h
 refine A7 q1<|B8<|sv Z<|A1<|B9 ?_
 cases h
 exact B4 (.inr Z) (C5 (C0 Z) D4) (.refl _)
/-- kerbstone/curve.pieces$1 -/
def Rs:AC:=(.seq (.reg [oo 3 (.mv (ci 0))]) (.seq (.reg [oo 8 (.fieldA 0 (.t 1)),oo 9 (.load 1 false (.t 8)),oo 10 (.len (.t 9)),oo 11 (.bin .sub (.t 10) (ci 1)),oo 12 (.mv (ci 0))]) (.block 0 (.loop (.seq (.reg [oo 13 (.bin .lss (.t 12) (.t 11))]) (.seq (.cond (.t 13) .skip (.exit 0)) (.seq (.block 1 (.seq (.reg [oo 14 (.mv (.t 12)),oo 4 (.mv (.t 14))]) (.seq (.draw [oo 15 (.fieldA 0 (.t 1)),oo 16 (.load 1 false (.t 15)),oo 17 (.mv (.t 4)),oo 18 (.idxS 2 (.t 16) (.t 17)),oo 19 (.load 2 true (.t 18)),oo 20 (.fieldA 0 (.t 1)),oo 21 (.load 1 false (.t 20)),oo 22 (.mv (.t 4)),oo 23 (.bin .add (.t 22) (ci 1)),oo 24 (.idxS 2 (.t 21) (.t 23)),oo 25 (.load 2 true (.t 24)),oo 26 (.call (cf 234) [(.t 19),(.t 25)]),oo 5 (.alloc 253 [z0,z0]),oe (.store 2 (.t 5) (.t 26))] []) (.seq (.reg [oo 28 (.load 2 true (.t 5)),oo 29 (.load 2 true (.t 5)),oo 30 (.call (cf 236) [(.t 28),(.t 29)]),oo 31 (.call (cf 235) [(.t 30)]),oo 27 (.mv (.t 31)),oo 32 (.ext (.t 27) 0),oo 33 (.ext (.t 27) 1),oo 6 (.mv (.t 32)),oo 7 (.mv (.t 33))]) (.seq (.seq (.drawB [oo 34 (.mv (.t 0)),oo 35 (.mv (.t 4)),oo 36 (.fieldA 0 (.t 1)),oo 37 (.load 1 false (.t 36)),oo 38 (.mv (.t 4)),oo 39 (.idxS 2 (.t 37) (.t 38)),oo 40 (.load 2 true (.t 39)),oo 41 (.load 2 true (.t 5)),oo 42 (.mv (.t 6)),oo 43 (.mv (.t 3)),oo 44 (.build [z0,z0,z0,z0,z0,z0] [(0,2,(.t 40)),(2,2,(.t 41)),(4,1,(.t 42)),(5,1,(.t 43))]),oo 45 (.icall (.t 34) [(.t 35),(.t 44)]),oo 46 (.un .not (.t 45))] 11 []) (.cond (.t 46) .ret .skip)) (.reg [oo 47 (.mv (.t 3)),oo 48 (.mv (.t 6)),oo 49 (.bin .add (.t 47) (.t 48)),oo 3 (.mv (.t 49))])))))) (.reg [oo 50 (.bin .add (.t 12) (ci 1)),oo 12 (.mv (.t 50))]))))))))
theorem Zo:FnOK prog 271 51 [] Rs:=⟨_,_,func271,rfl,ntmps271,by kernel_rfl,⟨fun r=>if r==6 then [11]else [],by kernel_rfl⟩,by kernel_rfl⟩
/-- The pieces of a chain of points, from a number on. -/
def Hd [Lp](pts:List Spot):Nat→Nat→Int→Option (List (Int×CurvePiece))
  |0,_,_=>some []
  |n+1,i,start=>(pts[i]?).bind fun p=>(pts[i+1]?).bind fun q=>(Mi p q).bind fun v=>(Aw v v).bind fun d=>(Fh d).bind fun r=>
   (Hd pts n (i+1) (K2 (start+r.1))).bind fun l=>some (((i:Int),CurvePiece.mk p v r.1 start)::l)
def Rt [Lp](pts:List Spot):Option (List (Int×CurvePiece)):=if pts.length≤1000000 then Hd pts (pts.length - 1) 0 0 else none
/-- kerbstone/curve.pieces -/
def Ur:AC:=(.seq (.reg [oo 1 (.box 39 true (.t 0)),oo 2 (.mv (.c (.v .nilFunc)))]) (.seq (.reg [oo 3 (.mkfn (.func 271) [] [(.t 1)]),oo 2 (.mv (.t 3))]) .ret))
theorem CO:FnOK prog 257 4 [.t 2] Ur:=⟨_,_,func257,rfl,ntmps257,by kernel_rfl,⟨fun _=> [],by kernel_rfl⟩,by kernel_rfl⟩
abbrev JW (a:Int×CurvePiece):List D:= [i64 a.1, .agg [i64 a.2.p.X,i64 a.2.p.Y,i64 a.2.v.x,i64 a.2.v.y,i64 a.2.l,i64 a.2.start]]
theorem MQ (c:Curve):PCall prog 257 [.agg [.list (List.map K4 c.Pts)]] (.fn (.func 271) [] [.bp [.list (List.map K4 c.Pts)] 0]):=by
  refine WG CO (by simp) ?_
  unfold Ur
  refine Mg<|Sg fun _ _=> ?_
  refine PD (.ptr _ _) _ Z Z ?_
  refine P6 (.d _) Z Z ?_
  refine Lg ?_
  refine Mg<|Sg fun u' hu'=> ?_
  refine P6 (.fn _ _ _) Z Z ?_
  refine P6 (.fn _ _ _) Z Z ?_
  refine Lg ?_
  refine OZ ⟨.inr Z,?_⟩
  refine C5 (C0 (v:= .fn _ _ _) Z) ?_
  exact HV N1<|L9 (Sh (by simp only [Al,if_true];rfl)<|L9 D4 N1) N1
theorem XX (ps:List Spot)(n:Int)(i:Nat)(p:Spot)(hn:n=i)(h:ps[i]? =some p):(List.map K4 ps)[n.toNat]? =some (K4 p):=by
  subst hn
  rw [bO,lI,h];rfl
theorem PN {n:Int}(h: -9223372036854775808≤n∧n≤9223372036854775807):K2 n=n:=Go.IntWalk.i64_in n h
theorem CP (pts:List Spot): ∀n i s L,Hd pts n i s=some L→L.length=n:=by
  intro n
  induction n with
  |zero=>intro i s L h;cases h;rfl
  |succ n ih=>
   intro i s L h
   rw [Hd]at h
   obtain ⟨p,hp,h⟩:=bind_some h
   obtain ⟨q,hq,h⟩:=bind_some h
   obtain ⟨v,hv,h⟩:=bind_some h
   obtain ⟨d,hd,h⟩:=bind_some h
   obtain ⟨r,hr,h⟩:=bind_some h
   obtain ⟨l,hl,h⟩:=bind_some h
   cases h
   rw [lJ,ih _ _ _ hl]
theorem MR {pts:List Spot}{L:List (Int×CurvePiece)}(h:Rt pts=some L):WW prog (.fn (.func 271) [] [.bp [.list (List.map K4 pts)] 0]) (L.map JW):=by
  unfold Rt at h
  split at h
  case isFalse=>cases h
  rename_i hlen
  refine ⟨271,[],_,Z,?_⟩
  intro k h0 Inv Stop hi0 hy
  refine LS Zo (by simp) ?_
  unfold Rs
  refine Mg<|Sg fun u hu=> ?_
  refine P6 (.d _) Z Z ?_
  refine Lg ?_
  refine Mg<|Sg fun u hu=> ?_
  refine P6 (.d _) Z Z ?_
  refine P6 (.d _) Z Z ?_
  refine P6 (.d (i64 pts.length)) Z (C8 (f:=K4) Z) ?_
  refine P6 (.d _) Z Z ?_
  refine P6 (.d _) Z Z ?_
  refine Lg ?_
  refine EM ?_
  refine WJ (α:=Nat×Int×E8) (fun x=>⟨T [(0, .yld k),(1, .d (.bp [.list (List.map K4 pts)] 0)),(3, .d (i64 x.2.1)),(11, .d (i64<|K2 (pts.length - 1))),(12, .d (i64 x.1))],x.2.2⟩) (fun x=>pts.length - x.1)
    (fun x=>Inv x.1 x.2.2∧x.1≤pts.length - 1∧Hd pts (pts.length - 1 - x.1) x.1 x.2.1=some (L.drop x.1)) (0,0,h0) ⟨hi0,by omega,h⟩ (WP ⟨rfl,rfl,rfl,rfl,rfl,trivial⟩ fun _ _ h=>h) ?_
  rintro ⟨i,start,hh⟩ ⟨hinv,hi,hgo⟩
  dsimp only at hinv hi hgo ⊢
  refine Mg<|Sg fun u hu=> ?_
  refine P6 (.d _) Z Z ?_
  refine Lg ?_
  refine Mg ?_
  refine WK Z (fun hlt=> ?_)<|fun hlt=> ?_
  ·refine JJ ?_
   have hlen1:K2 ((pts.length:Int) - 1)=pts.length - 1:=PN (by omega)
   rw [hlen1]at hlt
   have hi1:i+1<pts.length:=by omega
   have hw1:IntKind.i64.wrap ((i:Int)+1)=(i:Int)+1:=PN (by omega)
   obtain ⟨m,hm⟩: ∃m,pts.length - 1 - i=m+1:=⟨pts.length - 1 - i - 1,by omega⟩
   rw [hm,Hd]at hgo
   obtain ⟨p,hp,hgo⟩:=bind_some hgo
   obtain ⟨q,hq,hgo⟩:=bind_some hgo
   obtain ⟨v,hv,hgo⟩:=bind_some hgo
   obtain ⟨d,hd,hgo⟩:=bind_some hgo
   obtain ⟨r,hr,hgo⟩:=bind_some hgo
   obtain ⟨l,hl,hgo⟩:=bind_some hgo
   have hgo:((i:Int),CurvePiece.mk p v r.1 start)::l=L.drop i:=lC hgo
   have hLi:L[i]? =some ((i:Int),CurvePiece.mk p v r.1 start):=by
     have:=congrArg (fun z=>z[0]?) hgo
     simpa using this.symm
   have hLd:L.drop (i+1)=l:=by
     have:=congrArg (fun z=>z.drop 1) hgo
     simpa using this.symm
   have hin: ∀(p:Spot) (n:Int) (j:Nat),n=j→pts[j]? =some p→(List.map K4 pts)[n.toNat]? =some (K4 p):=fun p n j=>XX pts n j p
   refine Mg ?_
   refine EM ?_
   refine Mg<|Sg fun u hu=> ?_
   refine P6 (.d _) Z Z ?_
   refine P6 (.d _) Z Z ?_
   refine Lg ?_
   refine Mg<|RA Z fun u hu=> ?_
   refine P6 (.d _) Z Z ?_
   refine P6 (.d _) Z Z ?_
   refine P6 (.d _) Z Z ?_
   refine PE _ _ _ _ Z Z (Int.natCast_nonneg i) (hin p _ i Z hp) Z ?_
   refine AX _ _ _ _ _ Z (hin p _ i Z hp) (by simp) Z ?_
   refine P6 (.d _) Z Z ?_
   refine P6 (.d _) Z Z ?_
   refine P6 (.d _) Z Z ?_
   refine P6 (.d _) Z Z ?_
   refine PE _ _ _ _ Z Z (by rw [hw1];omega) (hin q _ (i+1) (by rw [hw1];rfl) hq) Z ?_
   refine AX _ _ _ _ _ Z (hin q _ (i+1) (by rw [hw1];rfl) hq) (by simp) Z ?_
   refine DG Z Z (Xj p q _ hv) (.inl Z) ?_
   refine PD (.ptr _ _) _ Z Z ?_
   refine LW _ _ _ _ _ Z Z Z (by simp only [Al,if_true];rfl) (by simp) ?_
   refine Lg ?_
   refine Mg<|Sg fun u' hu'=> ?_
   refine EQ _ _ _ _ (.d (.agg [i64 v.x,i64 v.y])) Z (by simp only [Al,if_true];rfl) (by simp [Ik]) Z ?_
   refine EQ _ _ _ _ (.d (.agg [i64 v.x,i64 v.y])) Z (by simp only [Al,if_true];rfl) (by simp [Ik]) Z ?_
   refine DG Z Z (Jm v v _ hd) (.inl Z) ?_
   refine DG Z Z (Xk d _ hr) (.inl Z) ?_
   refine P6 (.d _) Z Z ?_
   refine P6 (.d _) Z Z ?_
   refine P6 (.d _) Z Z ?_
   refine P6 (.d _) Z Z ?_
   refine P6 (.d _) Z Z ?_
   refine Lg ?_
   refine Mg<|Mg ?_
   refine WF Z fun _ _=> ?_
   simp only [List.take,List.drop]
   refine P6 (.yld _) Z Z ?_
   refine P6 (.d _) Z Z ?_
   refine P6 (.d _) Z Z ?_
   refine P6 (.d _) Z Z ?_
   refine P6 (.d _) Z Z ?_
   refine PE _ _ _ _ Z Z (Int.natCast_nonneg i) (hin p _ i Z hp) Z ?_
   refine AX _ _ _ _ _ Z (hin p _ i Z hp) (by simp) Z ?_
   refine EQ _ _ _ _ (.d (.agg [i64 v.x,i64 v.y])) Z (by simp only [Al,if_true];rfl) (by simp [Ik]) Z ?_
   refine P6 (.d _) Z Z ?_
   refine P6 (.d _) Z Z ?_
   refine P6 (.d _) Z Z ?_
   refine Lg ?_
   intro u3 hu3
   refine WQ k ((JW ((i:Int),CurvePiece.mk p v r.1 start)).map .d) Z Z ?_
   refine YCall.weak (RC hu<|RC hu fun _ _ h=>h) ((hy i hh _ (by rw [lI,hLi];rfl) hinv).mono ?_)
   rintro v' h' (⟨rfl,hin⟩|⟨rfl,hst⟩)
   ·intro u4 hu4
    refine P6 (.d _) Z Z ?_
    refine Lg ?_
    refine Zd (t:=false) Z (fun h=>by cases h) (fun _=> ?_)
    refine JJ ?_
    refine Sg fun u hu=> ?_
    refine P6 (.d _) Z Z ?_
    refine P6 (.d _) Z Z ?_
    refine P6 (.d _) Z Z ?_
    refine P6 (.d _) Z Z ?_
    refine Lg ?_
    refine Sg fun u hu=> ?_
    refine P6 (.d _) Z Z ?_
    refine P6 (.d _) Z Z ?_
    refine Lg ?_
    refine ⟨(i+1,K2 (start+r.1),h'),⟨hin,by dsimp only;omega,?_⟩,by dsimp only;omega,WP ⟨rfl,rfl,rfl,rfl,?_,trivial⟩ fun _ _ h=>h⟩
    ·dsimp only
     rw [hLd,show pts.length - 1 - (i+1)=m by omega];exact hl
    ·show AV.d (i64 (IntKind.i64.wrap ((i:Int)+1)))=_
     rw [hw1];rfl
   ·intro u4 hu4
    refine P6 (.d _) Z Z ?_
    refine Lg ?_
    refine Zd (t:=true) Z (fun _=> ?_) (fun h=>by cases h)
    refine OZ ?_
    dsimp only
    exact ⟨Or.inr trivial,AV.tup [],Z,Or.inr hst⟩
  ·refine QY ?_
   have hlen1:1≤pts.length→K2 ((pts.length:Int) - 1)=pts.length - 1:=fun _=>PN (by omega)
   have:i=pts.length - 1:=by
     by_cases h:1≤pts.length
     ·rw [hlen1 h]at hlt;omega
     ·omega
   subst this
   rw [Nat.sub_self,Hd]at hgo
   have hL:(L.map JW).length=pts.length - 1:=by
     have h1:L.drop (pts.length - 1)= []:=(lC hgo).symm
     have h2:=List.drop_eq_nil_iff.1 h1
     rw [lQ]
     refine Nat.le_antisymm h2 ?_
     exact Nat.le_of_eq (CP _ _ _ _ _ h).symm
   exact ⟨.inl Z,_,Z, .inl (by rw [hL];exact hinv)⟩
def Ee (x1:(List Int))(a1:(Int×CurvePiece)):Option (Stp (List Int) (List Int)):=
  (Q4 x1 [a1.2.l]).bind fun v3=>some (.go v3)
def Eu [Lp](p1:Curve):Option (List Int):=
  (Et p1).bind fun v1=>cond (v1 !=0) (some []) (((Rt p1.Pts).bind fun v2=>loopL (Ee) (fun (x1:(List Int))=>x1) v2 []).bind fun y1=>some y1)
theorem CQ(p1 r)(h:Eu p1=some r):PCall prog 268 [(.agg [(.list (List.map K4 p1.Pts))])] (.list (List.map A4 r)):=by
 refine D7 (fk func268 ntmps268 (fun r=>if r==6 then [1003]else []) (by with_unfolding_all rfl)) (nl Z) ?_
 unfold Eu at h
 refine A7 (s0:=⟨T [(0,(.d _))],G []⟩) (E3 Z Z) ?_
 refine B8<|sm Z<|sv Z<|A1<|A3<|B8<|sd Z (C6 Z G_hit Z Z)<|bs h fun _ hv1 h=>D1 Z Z A6 (Vu _ _ hv1) (.inl Z) (sv Z<|A1<|cc Z h (fun c1 h=> ?_)<|fun c1 h=> ?_)
 refine B8<|sv Z<|A1<|B9 ?_
 cases h
 exact B4 (.inr Z) (C5 (C0 Z) D4) DLe.nil
 refine B3<|lr<|fun u4 _=>sm Z<|A1<|A3<|B8<|sd Z (C6 Z (gq Z) Z Z)<|D1 Z Z A6 (MQ p1) (.inl Z) (A1<|bs h fun y1 hy1 h=>D0 (fun s=> ∃g1:Nat,Sb ⟨T [(3,(.ptr (3,u4) 0))],G [((3,u4),some<|.box 75 [(oS y1 (17,g1))]),((17,g1),oB 2 1 A4 y1)]⟩ s) ?_ ?_)
 refine A5<|bs hy1 fun v2 hv2 hy1=>A7 (s0:=⟨T [(3,(.ptr _ _)),(10,(.d _))],G [((3,u4),some<|.box 75 _)]⟩) (E3 Z Z) ?_
 refine WX (.fn (.func 271) [] [(.bp [(.list (List.map K4 p1.Pts))] 0)]) JW v2 (Ee) (fun (x1:(List Int))=>x1) (fun (x1:(List Int)) (g2:Nat)=> [((3,u4),some<|.box 75 [(oS x1 (17,g2))]),((17,g2),oB 2 1 A4 x1)]) [] 0 _ Z (MR hv2) (fun _=>Z) hy1 (B7 trivial<|A2 G_hit (.of Z)<|O6 trivial) nofun ?_ ?_
 intro u7 hu7 hku7
 refine ⟨fun x1 g2=>(A9 Z<|A9 Z Z),?_⟩
 intro r1 x1 g2 a1 z1 hrr1 hz1 ez1
 unfold Ee at hz1
 show Gl _ _ _ _ _ _ ⟨T [(12,(.d (.agg (MO a1.2)))),(11,(di a1.1)),(3,(.ptr (3,u4) 0)),(10,(.d (.fn (.func 271) [] [(.bp [(.list (List.map K4 p1.Pts))] 0)])))],G [((1000000,u7),some (.obj (T [(3,(.ptr (3,u4) 0)),(10,(.d (.fn (.func 271) [] [(.bp [(.list (List.map K4 p1.Pts))] 0)])))]) r1)),((3,u4),some (.box 75 [(oS x1 (17,g2))])),((17,g2),oB 2 1 A4 x1)]⟩
 refine B5<|sm Z<|V6 Z G_hit (MP a1.2) Z (A1<|T4<|fY (gq Z) ?_)
 refine A5<|M6 fun u9 _=>B6 (oS x1 (17,g2)) Z (U6 Z (gq Z) Z) (sq Z<|sl Z (gq Z) Z (B6 (dl A4 [a1.2.l]) Z Z (bs hz1 fun _ hv3 hz1=>G7 A4 (17,g2) x1 a1.2.l [] _ (E1<|fun _=>Z) Z (gq Z) hv3 (V6 Z (gq Z) [(.sl (17,u9))] Z (A1<|E0<|D6 ?_)))))
 cases hz1
 exact fZ (gq Z) u9 (A2 G_hit (.box (.cons (.of (T1<|K5 hv3).symm) .nil))<|K9 (gq Z) trivial)
 rintro x1 g2 _ rfl qx1
 refine E0<|T4 ?_
 exact ⟨g2,(Sb.after qx1<|B7 ⟨.of Z,trivial⟩<|A2 G_hit (.of Z)<|B0 (gq Z) trivial)⟩
 rintro _ ⟨g1,q1⟩
 refine A7 q1<|B8<|B6 (oS y1 (17,g1)) Z (U6 Z G_hit Z) (B6 (oS y1 (17,g1)) Z Z (A1<|B9 ?_))
 cases h
 exact B4 (.inr Z) (C5 (C0 Z)<|U9<|gq Z) U8
def Ao (v1:(List Int))(x1:(Int×Int)):Option (Stp (Int×Int) Int):=
  cond (decide (x1.2< (v1.length:Int))) ((F0 v1 x1.2).bind fun v2=>some (.go ((K2 (x1.1+v2)),(K2 (x1.2+1))))) (some (.out x1.1))
def Ev [Lp](p1:Curve):Option Int:=
  (Eu p1).bind fun v1=>(loop (Ao v1) (0,0)).bind fun y1=>some y1
theorem CR(p1 r)(h:Ev p1=some r):PCall prog 232 [(.agg [(.list (List.map K4 p1.Pts))])] (i64 r):=by
 refine D7 (fk func232 ntmps232 m0 (by with_unfolding_all rfl)) (nl Z) ?_
 unfold Ev at h
 refine A7 (s0:=⟨T [(0,(.d _))],G []⟩) (E3 Z Z) ?_
 refine B8<|sm Z<|sv Z<|A1<|B8<|sv Z<|A1<|A3<|B8<|sd Z (C6 Z G_hit Z Z)<|bs h fun v1 hv1 h=>D1 Z Z A6 (CQ _ _ hv1) (.inl Z) (sd Z (C8 Z)<|sv Z<|A1<|bs h fun y1 hy1 h=>D0 (fun s=> ∃g1:Unit,Sb ⟨T [(3,(di y1))],G []⟩ s) ?_ ?_)
 refine A5<|D2 (Ao v1) (fun (x1:(Int×Int)) (g2:Unit)=>⟨T [(3,(di x1.1)),(7,(dl A4 v1)),(8,(di (v1.length:Int))),(9,(di x1.2))],G []⟩) (0,0) () _ hy1 (E3 Z Z) ?_
 intro x1 g2 z1 hz1 ez1
 unfold Ao at hz1
 refine B8<|sv Z<|A1<|A3<|cc Z hz1 (fun c1 hz1=> ?_)<|fun c1 hz1=> ?_
 refine B3<|A3<|A5<|B8<|bs hz1 fun _ hv2 hz1=>sd Z (D8 Z Z hv2 Z)<|sd Z (E9 Z hv2 Z)<|sv Z<|A1<|B5<|sv Z<|sv Z<|sv Z<|sv Z<|A1<|E0<|B5<|sv Z<|sv Z<|A1<|D6 ?_
 cases hz1
 exact ⟨Z,(),(E3 Z Z)⟩
 refine C3 Z ?_
 cases hz1
 obtain rfl:=ez1 _ rfl
 refine ⟨nofun,C2 Z<|T4 ?_⟩
 exact ⟨(),(E3 Z Z)⟩
 rintro _ ⟨g1,q1⟩
 refine A7 q1<|B8<|sv Z<|sv Z<|A1<|B9 ?_
 cases h
 exact B4 (.inr Z) (C5 (C0 Z) D4) (.refl _)
def Z6 [Lp](p1:Map)(p2:Int):Option Int:=
  (F0 p1.Lanes p2).bind fun v1=>(Ev v1.Curve_).bind fun v2=>some v2
theorem Hm(p1 p2 r)(h:Z6 p1 p2=some r):PCall prog 165 [(.agg (N8 p1)),(i64 p2)] (i64 r):=by
 refine D7 (fk func165 ntmps165 m0 (by with_unfolding_all rfl)) (nl Z) ?_
 unfold Z6 at h
 refine A7 (s0:=⟨T [(0,(.d _)),(1,(.d _))],G []⟩) (E3 Z Z) ?_
 refine B8<|sm Z<|sv Z<|A1<|B8<|sq Z<|sl Z G_hit Z<|sv Z<|bs h fun _ hv1 h=>sd Z (D8 Z Z hv1 Z)<|sv Z<|sd Z (D9 Z hv1 Z Z)<|bs h fun _ hv2 h=>D1 Z Z A6 (CR _ _ hv2) (.inl Z) (sv Z<|A1<|B9 ?_)
 cases h
 exact B4 (.inr Z) (C5 (C0 Z) D4) (.refl _)
def P9 [Lp](p1:RoadsCheck)(v1:Zone)(x3:Int):Option (Stp Int (Sum Unit Int)):=
  cond (decide (x3< (v1.Parts.length:Int))) ((F0 v1.Parts x3).bind fun v5=>((cond (!((decide (v5.From<0))||(decide (v5.From≥v5.To)))) (Z6 p1.Map_ v5.Lane_) (some default))).bind fun v6=>cond (((((decide (v5.From<0))||(decide (v5.From≥v5.To)))||(decide (v5.To>v6)))||(decide (v5.Rank<0)))||(decide (v5.Rank>100))) (some (.out (.inr 2))) (some (.go (K2 (x3+1))))) (some (.out (.inl ())))
def Ew (v1:Zone)(x2:((List Int)×Int)):Option (Stp ((List Int)×Int) (List Int)):=
  cond (decide (x2.2< (v1.Parts.length:Int))) ((F0 v1.Parts x2.2).bind fun v2=>(Q4 x2.1 [v2.Lane_]).bind fun v3=>some (.go (v3,(K2 (x2.2+1))))) (some (.out x2.1))
def Q0 [Lp](p1:RoadsCheck)(x1:Int):Option (Stp Int (Sum Unit Int)):=
  cond (decide (x1< (p1.Map_.Zones.length:Int))) ((F0 p1.Map_.Zones x1).bind fun v1=>cond (decide ((v1.Parts.length:Int)<2)) (some (.out (.inr 6))) (cond (decide ((v1.Parts.length:Int)>6)) (some (.out (.inr 8))) (cond ((decide (v1.Signal_<0))||(decide (v1.Signal_>(p1.Map_.Signals.length:Int)))) (some (.out (.inr 2))) ((loop (Ew v1) ([],0)).bind fun y2=>(Bk y2 0 (p1.Map_.Lanes.length:Int)).bind fun v4=>cond (!v4) (some (.out (.inr 11))) (thenS (loop (P9 p1 v1) 0) (fun _=>some (.go (K2 (x1+1)))) (fun r=>some (.out (.inr r)))))))) (some (.out (.inl ())))
def U4 [Lp](p1:RoadsCheck):Option Int:=
  thenS (loop (Q0 p1) 0) (fun _=>some 0) (fun r=>some r)
theorem Vw(p1 r)(h:U4 p1=some r):PCall prog 69 [(.agg (N8 p1.Map_))] (i64 r):=by
 refine D7 (fk func69 ntmps69 (fun r=>if r==15 then [1003]else []) (by with_unfolding_all rfl)) (nl Z) ?_
 unfold U4 at h
 refine A7 (s0:=⟨T [(0,(.d _))],G []⟩) (E3 Z Z) ?_
 refine lr<|fun u1 _=>sm Z<|sv Z<|A1<|A3<|B8<|sq Z<|sp Z Z<|sl Z G_hit Z<|sd Z (C8 Z)<|sv Z<|A1<|js h fun z1 hz1 h=>D0 (fun s=> ∃(y1:Unit) (g1:Unit),z1= .inl y1∧Sb ⟨T [],G []⟩ s) ?_ ?_
 refine A5<|D2 (Q0 p1) (fun (x1:Int) (g2:Unit)=>⟨T [(1,(.ptr (1,u1) 0)),(13,(dl J2 p1.Map_.Zones)),(14,(di (p1.Map_.Zones.length:Int))),(15,(di x1))],G [((1,u1),some<|.box 105 (F2 p1.Map_))]⟩) 0 () _ hz1 (E3 Z Z) ?_
 intro x1 g2 z2 hz2 ez2
 unfold Q0 at hz2
 refine B8<|sv Z<|A1<|A3<|cc Z hz2 (fun c1 hz2=> ?_)<|fun c1 hz2=> ?_
 refine B3<|A3<|A5<|lr<|fun u4 _=>bs hz2 fun v1 hv1 hz2=>sd Z (D8 Z Z hv1 Z)<|sd Z (D9 Z hv1 Z Z)<|sm Z<|V6 Z G_hit [(dl G8 v1.Parts),(di v1.Signal_)] Z (A1<|A3<|B8<|sq Z<|sl Z G_hit Z<|sd Z (C8 Z)<|sv Z<|A1<|A5<|B8<|sv Z<|sv Z<|sv Z<|A1<|cc Z hz2 (fun c2 hz2=> ?_)<|fun c2 hz2=> ?_)
 refine B8<|sv Z<|A1<|B9 ?_
 cases hz2
 obtain rfl:=ez2 _ rfl
 refine ⟨nofun,F8 ?_⟩
 rw [bN]at h
 cases h
 exact B4 (.inr Z) (C5 (C0 Z) D4) (.refl _)
 refine B8<|sv Z<|sv Z<|sv Z<|A1<|cc Z hz2 (fun c3 hz2=> ?_)<|fun c3 hz2=> ?_
 refine B8<|sv Z<|A1<|B9 ?_
 cases hz2
 obtain rfl:=ez2 _ rfl
 refine ⟨nofun,F8 ?_⟩
 rw [bN]at h
 cases h
 exact B4 (.inr Z) (C5 (C0 Z) D4) (.refl _)
 refine B8<|sq Z<|sl Z G_hit Z<|sv Z<|sv Z<|gp Z (N7 Z) (fun _=>Z) (gf Z (vl Z G_hit Z)<|gp Z (N7 Z) (fun _=>Z) ?_)
 refine T3 _ (.ptr _ _) Z (N7 Z) (fun w4=>(by simp only [A8 w4];rfl)) ?_
 refine gf Z (vl Z (gq Z) Z)<|gf Z (fun w6=>(C8<|A8 w6))<|gf Z (fun w7=>(An (A8 w7) (A8 w7) Z))<|sd Z (X6 Z Z<|fun hc=>A8<|O7 hc)<|sv Z<|A1<|cc Z hz2 (fun c4 hz2=> ?_)<|fun c4 hz2=> ?_
 refine A3<|A7 (s0:=⟨T [],G []⟩) (E3 Z Z) ?_
 refine B5<|sv Z<|A1<|B9 ?_
 cases hz2
 obtain rfl:=ez2 _ rfl
 refine ⟨nofun,F8 ?_⟩
 rw [bN]at h
 cases h
 exact B4 (.inr Z) (C5 (C0 Z) D4) (.refl _)
 refine B3<|E0<|A3<|A7 (s0:=⟨T [(1,(.ptr _ _)),(4,(.ptr _ _)),(13,(.d _)),(14,(.d _)),(15,(.d _))],G [((1,u1),some<|.box 105 _),((4,u4),some<|.box 45 _)]⟩) (E3 Z Z) ?_
 refine B5<|sv Z<|A1<|A3<|B8<|sq Z<|sl Z (gq Z) Z (sd Z (C8 Z)<|sv Z<|A1<|bs hz2 fun y2 hy2 hz2=>D0 (fun s=> ∃g3:Nat,Sb ⟨T [(1,(.ptr (1,u1) 0)),(4,(.ptr (4,u4) 0)),(6,(oS y2 (52,g3))),(13,(dl J2 p1.Map_.Zones)),(14,(di (p1.Map_.Zones.length:Int))),(15,(di x1))],G [((1,u1),some<|.box 105 (F2 p1.Map_)),((4,u4),some<|.box 45 [(dl G8 v1.Parts),(di v1.Signal_)]),((52,g3),oB 3 1 A4 y2)]⟩ s) ?_ ?_)
 refine A5<|D2 (Ew v1) (fun (x2:((List Int)×Int)) (g4:Nat)=>⟨T [(1,(.ptr (1,u1) 0)),(4,(.ptr (4,u4) 0)),(6,(oS x2.1 (52,g4))),(13,(dl J2 p1.Map_.Zones)),(14,(di (p1.Map_.Zones.length:Int))),(15,(di x1)),(42,(dl G8 v1.Parts)),(43,(di (v1.Parts.length:Int))),(44,(di x2.2))],G [((1,u1),some<|.box 105 (F2 p1.Map_)),((4,u4),some<|.box 45 [(dl G8 v1.Parts),(di v1.Signal_)]),((52,g4),oB 3 1 A4 x2.1)]⟩) ([],0) 0 _ hy2 (B7 (K8 Z)<|A2 G_hit (.of Z)<|sg Z<|O6 trivial) ?_
 intro x2 g4 z3 hz3 ez3
 unfold Ew at hz3
 refine B8<|sv Z<|A1<|A3<|cc Z hz3 (fun c5 hz3=> ?_)<|fun c5 hz3=> ?_
 refine B3<|A3<|A5<|B8<|bs hz3 fun v2 hv2 hz3=>sd Z (D8 Z Z hv2 Z)<|sd Z (D9 Z hv2 Z Z)<|sm Z<|V6 Z G_hit (Sz v2) Z (A1<|M6 fun u16 _=>B6 (oS x2.1 (52,g4)) Z Z (sq Z<|sl Z G_hit Z<|B6 (dl A4 [v2.Lane_]) Z Z (bs hz3 fun _ hv3 hz3=>G7 A4 (52,g4) x2.1 v2.Lane_ [] _ (E1<|fun _=>Z) Z (gq Z) hv3 (ss Z<|A1<|E0<|A7 (s0:=⟨T [(1,(.ptr _ _)),(4,(.ptr _ _)),(6,(.sl _)),(13,(.d _)),(14,(.d _)),(15,(.d _)),(42,(.d _)),(43,(.d _)),(44,(.d _))],G [((1,u1),some<|.box 105 _),((4,u4),some<|.box 45 _),((52,u16),some _)]⟩) (E3 Z Z) ?_))))
 refine B5<|sv Z<|sv Z<|A1<|D6 ?_
 cases hz3
 exact ⟨Z,u16,(B7 ⟨.of Z, .of Z,(.of (T1<|K5 hv3).symm), .of Z, .of Z, .of Z, .of Z, .of Z, .of Z,trivial⟩<|A2 G_hit (.of Z)<|sg Z<|K9 (gq Z) trivial)⟩
 refine C3 Z ?_
 cases hz3
 obtain rfl:=ez3 _ rfl
 refine ⟨nofun,C2 Z<|T4 ?_⟩
 exact ⟨g4,(B7 (K8 Z)<|A2 G_hit (.of Z)<|sg Z<|B0 (gq Z) trivial)⟩
 rintro _ ⟨g3,q1⟩
 refine A7 q1<|A3<|B8<|B6 (oS y2 (52,g3)) Z Z (sq Z<|sp Z Z<|sl Z G_hit Z<|sd Z (C8 Z)<|bs hz2 fun v4 hv4 hz2=>D1 Z (L9 (U9<|gq Z)<|rD<|rD N1) (.cons U8 (.cons (.refl _) A6)) (Ni _ _ _ _ hv4) (.inr Z) (B6 (.d (bo (!v4))) Z Z (A1<|cc Z hz2 (fun c6 hz2=> ?_)<|fun c6 hz2=> ?_)))
 refine B8<|sv Z<|A1<|B9 ?_
 cases hz2
 obtain rfl:=ez2 _ rfl
 refine ⟨nofun,F8 ?_⟩
 rw [bN]at h
 cases h
 exact B4 (.inr Z) (C5 (C0 Z) D4) (.refl _)
 refine B3<|B8<|sq Z<|sl Z (gq Z) Z (sd Z (C8 Z)<|sv Z<|A1<|js hz2 fun z4 hz4 hz2=>D0 (fun s=> ∃(y3:Unit) (g5:Unit),z4= .inl y3∧Sb ⟨T [(1,(.ptr (1,u1) 0)),(13,(dl J2 p1.Map_.Zones)),(14,(di (p1.Map_.Zones.length:Int))),(15,(di x1))],G [((1,u1),some<|.box 105 (F2 p1.Map_))]⟩ s) ?_ ?_)
 refine A5<|D2 (P9 p1 v1) (fun (x3:Int) (g6:Unit)=>⟨T [(1,(.ptr (1,u1) 0)),(13,(dl J2 p1.Map_.Zones)),(14,(di (p1.Map_.Zones.length:Int))),(15,(di x1)),(62,(dl G8 v1.Parts)),(63,(di (v1.Parts.length:Int))),(64,(di x3))],G [((1,u1),some<|.box 105 (F2 p1.Map_))]⟩) 0 () _ hz4 (E3 Z Z) ?_
 intro x3 g6 z5 hz5 ez5
 unfold P9 at hz5
 refine B8<|sv Z<|A1<|A3<|cc Z hz5 (fun c7 hz5=> ?_)<|fun c7 hz5=> ?_
 refine B3<|A3<|A5<|B8<|bs hz5 fun v5 hv5 hz5=>sd Z (D8 Z Z hv5 Z)<|sd Z (D9 Z hv5 Z Z)<|sm Z<|V6 Z G_hit (Sz v5) Z (A1<|A3<|M8 Z<|sq Z<|sl Z G_hit Z<|sv Z<|sv Z<|gp Z (N7 Z) (fun _=>Z) (gf Z (vl Z G_hit Z)<|gp Z (N7 Z) (fun _=>Z) (gf Z (vl Z G_hit Z)<|gf Z (fun w12=>(An (A8 w12) (A8 w12) Z))<|sd Z (X6 Z Z<|fun hc=>A8<|O7 hc)<|sv Z<|gp Z (N7 Z) (fun _=>Z) (gf Z (vl Z G_hit Z)<|gp Z (N7 Z) (fun _=>Z) (gf Z (fun w16=>(C6 (A8 w16) (gq Z) Z Z))<|gp Z (N7 Z) (fun _=>Z) (gf Z (vl Z G_hit Z)<|bs hz5 fun v6 hv6 hz5=> ?_))))))
 refine N0 _ (i64 v6) (N7 Z) (fun w19=>⟨_,[(.d (.agg (N8 p1.Map_))),(di v5.Lane_)],_,_,(by simp only [A8 w19];rfl),Z,A6,Hm _ _ _<|H4 w19 hv6,(.inl Z)⟩) ?_
 refine gf Z (fun w20=>(An (A8 w20) (A8 w20) Z))<|sd Z (X6 Z Z<|fun hc=>A8<|O7 hc)<|sv Z<|gp Z (N7 Z) (fun _=>Z) (gf Z (vl Z G_hit Z)<|gf Z (vb Z Z Z)<|sd Z (X6 Z Z<|fun hc=>A8<|O7 hc)<|sv Z<|gp Z (N7 Z) (fun _=>Z) (gf Z (vl Z G_hit Z)<|gf Z (vb Z Z Z)<|sd Z (X6 Z Z<|fun hc=>A8<|O7 hc)<|A1<|cc Z hz5 (fun c8 hz5=> ?_)<|fun c8 hz5=> ?_))
 refine A3<|A7 (s0:=⟨T [],G []⟩) (E3 Z Z) ?_
 refine B5<|sv Z<|A1<|B9 ?_
 cases hz5
 obtain rfl:=ez5 _ rfl
 refine ⟨nofun,F8 ?_⟩
 rw [bN]at hz2
 cases hz2
 obtain rfl:=ez2 _ rfl
 refine ⟨nofun,F8 ?_⟩
 rw [bN]at h
 cases h
 exact B4 (.inr Z) (C5 (C0 Z) D4) (.refl _)
 refine B3<|E0<|A7 (s0:=⟨T [(1,(.ptr _ _)),(13,(.d _)),(14,(.d _)),(15,(.d _)),(62,(.d _)),(63,(.d _)),(64,(.d _))],G [((1,u1),some<|.box 105 _)]⟩) (E3 Z Z) ?_
 refine B5<|sv Z<|sv Z<|A1<|D6 ?_
 cases hz5
 exact ⟨Z,(),(E3 Z Z)⟩
 refine C3 Z ?_
 cases hz5
 obtain rfl:=ez5 _ rfl
 refine ⟨nofun,C2 Z<|T4 ?_⟩
 exact ⟨_,(),Z,(E3 Z Z)⟩
 rintro _ ⟨y3,g5,rfl,q2⟩
 rw [bM]at hz2
 refine E0<|A7 q2<|B5<|sv Z<|sv Z<|A1<|D6 ?_
 cases hz2
 exact ⟨Z,(),(E3 Z Z)⟩
 refine C3 Z ?_
 cases hz2
 obtain rfl:=ez2 _ rfl
 refine ⟨nofun,C2 Z<|T4 ?_⟩
 exact ⟨_,(),Z,(E3 Z Z)⟩
 rintro _ ⟨y1,g1,rfl,q3⟩
 rw [bM]at h
 refine A7 q3<|B8<|sv Z<|A1<|B9 ?_
 cases h
 exact B4 (.inr Z) (C5 (C0 Z) D4) (.refl _)
def Q1 [Lp](p1:RoadsCheck)(x1:Int):Option (Stp Int (Sum Unit Int)):=
  cond (decide (x1< (p1.Map_.Works.length:Int))) ((F0 p1.Map_.Works x1).bind fun v1=>cond ((decide (v1.Lane_<0))||(decide (v1.Lane_≥(p1.Map_.Lanes.length:Int)))) (some (.out (.inr 7))) ((F0 p1.Map_.Lanes v1.Lane_).bind fun v2=>(Jc v2.Kind).bind fun v3=>((cond (!((decide (v1.From<0))||(decide (v1.From>v1.To)))) (Z6 p1.Map_ v1.Lane_) (some default))).bind fun v4=>((cond (!((((((decide (v1.From<0))||(decide (v1.From>v1.To)))||(decide (v1.To>v4)))||(decide (v1.Begin<0)))||(decide (v1.Begin≥v1.End)))||(decide (v1.End>1099511627776)))) (V7 v1.Limit 0 v3.1) (some default))).bind fun v5=>cond (((((((decide (v1.From<0))||(decide (v1.From>v1.To)))||(decide (v1.To>v4)))||(decide (v1.Begin<0)))||(decide (v1.Begin≥v1.End)))||(decide (v1.End>1099511627776)))||(!v5)) (some (.out (.inr 2))) (some (.go (K2 (x1+1)))))) (some (.out (.inl ())))
def U5 [Lp](p1:RoadsCheck):Option Int:=
  thenS (loop (Q1 p1) 0) (fun _=>some 0) (fun r=>some r)
theorem Vx(p1 r)(h:U5 p1=some r):PCall prog 70 [(.agg (N8 p1.Map_))] (i64 r):=by
 refine D7 (fk func70 ntmps70 m0 (by with_unfolding_all rfl)) (nl Z) ?_
 unfold U5 at h
 refine A7 (s0:=⟨T [(0,(.d _))],G []⟩) (E3 Z Z) ?_
 refine lr<|fun u1 _=>sm Z<|sv Z<|A1<|A3<|B8<|sq Z<|sp Z Z<|sl Z G_hit Z<|sd Z (C8 Z)<|sv Z<|A1<|js h fun z1 hz1 h=>D0 (fun s=> ∃(y1:Unit) (g1:Unit),z1= .inl y1∧Sb ⟨T [],G []⟩ s) ?_ ?_
 refine A5<|D2 (Q1 p1) (fun (x1:Int) (g2:Unit)=>⟨T [(1,(.ptr (1,u1) 0)),(10,(dl R1 p1.Map_.Works)),(11,(di (p1.Map_.Works.length:Int))),(12,(di x1))],G [((1,u1),some<|.box 105 (F2 p1.Map_))]⟩) 0 () _ hz1 (E3 Z Z) ?_
 intro x1 g2 z2 hz2 ez2
 unfold Q1 at hz2
 refine B8<|sv Z<|A1<|A3<|cc Z hz2 (fun c1 hz2=> ?_)<|fun c1 hz2=> ?_
 refine B3<|A3<|A5<|lr<|fun u4 _=>bs hz2 fun v1 hv1 hz2=>sd Z (D8 Z Z hv1 Z)<|sd Z (D9 Z hv1 Z Z)<|sm Z<|V6 Z G_hit (II v1) Z (A1<|A3<|B8<|sq Z<|sl Z G_hit Z<|sv Z<|sv Z<|gp Z (N7 Z) (fun _=>Z) (gf Z (vl Z G_hit Z)<|gp Z (N7 Z) (fun _=>Z) ?_))
 refine T3 _ (.ptr _ _) Z (N7 Z) (fun w4=>(by simp only [A8 w4];rfl)) ?_
 refine gf Z (vl Z (gq Z) Z)<|gf Z (fun w6=>(C8<|A8 w6))<|gf Z (fun w7=>(An (A8 w7) (A8 w7) Z))<|sd Z (X6 Z Z<|fun hc=>A8<|O7 hc)<|A1<|cc Z hz2 (fun c2 hz2=> ?_)<|fun c2 hz2=> ?_
 refine A3<|A7 (s0:=⟨T [],G []⟩) (E3 Z Z) ?_
 refine B5<|sv Z<|A1<|B9 ?_
 cases hz2
 obtain rfl:=ez2 _ rfl
 refine ⟨nofun,F8 ?_⟩
 rw [bN]at h
 cases h
 exact B4 (.inr Z) (C5 (C0 Z) D4) (.refl _)
 refine B3<|A3<|A7 (s0:=⟨T [(1,(.ptr _ _)),(4,(.ptr _ _)),(10,(.d _)),(11,(.d _)),(12,(.d _))],G [((1,u1),some<|.box 105 _),((4,u4),some<|.box 50 _)]⟩) (E3 Z Z) ?_
 refine B5<|sq Z<|sq Z<|sl Z G_hit Z<|sq Z<|sl Z (gq Z) Z (bs hz2 fun _ hv2 hz2=>sd Z (D8 Z Z hv2 Z)<|sv Z<|sd Z (E9 Z hv2 Z)<|bs hz2 fun v3 hv3 hz2=>D1 Z Z A6 (Uq _ _ hv3) (.inl Z) (sv Z<|sv Z<|sv Z<|sv Z<|sv Z<|sv Z<|sv Z<|A1<|A3<|A7 (s0:=⟨T [(1,(.ptr _ _)),(4,(.ptr _ _)),(5,(.d _)),(10,(.d _)),(11,(.d _)),(12,(.d _))],G [((1,u1),some<|.box 105 _),((4,u4),some<|.box 50 _)]⟩) (E3 Z Z) ?_))
 refine M8 Z<|sq Z<|sl Z (gq Z) Z (sv Z<|sv Z<|gp Z (N7 Z) (fun _=>Z) (gf Z (vl Z (gq Z) Z)<|gp Z (N7 Z) (fun _=>Z) (gf Z (vl Z (gq Z) Z)<|gf Z (fun w12=>(An (A8 w12) (A8 w12) Z))<|sd Z (X6 Z Z<|fun hc=>A8<|O7 hc)<|sv Z<|gp Z (N7 Z) (fun _=>Z) (gf Z (vl Z (gq Z) Z)<|gp Z (N7 Z) (fun _=>Z) (gf Z (fun w16=>(C6 (A8 w16) G_hit Z Z))<|gp Z (N7 Z) (fun _=>Z) (gf Z (vl Z (gq Z) Z)<|bs hz2 fun v4 hv4 hz2=> ?_))))))
 refine N0 _ (i64 v4) (N7 Z) (fun w19=>⟨_,[(.d (.agg (N8 p1.Map_))),(di v1.Lane_)],_,_,(by simp only [A8 w19];rfl),Z,A6,Hm _ _ _<|H4 w19 hv4,(.inl Z)⟩) ?_
 refine gf Z (fun w20=>(An (A8 w20) (A8 w20) Z))<|sd Z (X6 Z Z<|fun hc=>A8<|O7 hc)<|sv Z<|gp Z (N7 Z) (fun _=>Z) (gf Z (vl Z (gq Z) Z)<|gf Z (vb Z Z Z)<|sd Z (X6 Z Z<|fun hc=>A8<|O7 hc)<|sv Z<|gp Z (N7 Z) (fun _=>Z) (gf Z (vl Z (gq Z) Z)<|gp Z (N7 Z) (fun _=>Z) (gf Z (vl Z (gq Z) Z)<|gf Z (fun w28=>(An (A8 w28) (A8 w28) Z))<|sd Z (X6 Z Z<|fun hc=>A8<|O7 hc)<|sv Z<|gp Z (N7 Z) (fun _=>Z) (gf Z (vl Z (gq Z) Z)<|gf Z (vb Z Z Z)<|sd Z (X6 Z Z<|fun hc=>A8<|O7 hc)<|sv Z<|gp Z (N7 Z) (fun _=>Z) (gf Z (vl Z (gq Z) Z)<|gf Z (fun _=>Z)<|bs hz2 fun v5 hv5 hz2=> ?_)))))
 refine N0 _ (bo v5) (N7 Z) (fun w35=>⟨_,[(di v1.Limit),(di 0),(di v3.1)],_,_,(by simp only [A8 w35];rfl),Z,A6,V2 _ _ _ _<|H4 w35 hv5,(.inl Z)⟩) ?_
 refine T3 _ (.d (bo (!v5))) Z (N7 Z) (fun w36=>(by simp only [A8 w36];rfl)) ?_
 refine sd Z (X6 Z Z<|fun hc=>A8<|O7 hc)<|A1<|cc Z hz2 (fun c3 hz2=> ?_)<|fun c3 hz2=> ?_
 refine A3<|A7 (s0:=⟨T [],G []⟩) (E3 Z Z) ?_
 refine B5<|sv Z<|A1<|B9 ?_
 cases hz2
 obtain rfl:=ez2 _ rfl
 refine ⟨nofun,F8 ?_⟩
 rw [bN]at h
 cases h
 exact B4 (.inr Z) (C5 (C0 Z) D4) (.refl _)
 refine B3<|E0<|A7 (s0:=⟨T [(1,(.ptr _ _)),(10,(.d _)),(11,(.d _)),(12,(.d _))],G [((1,u1),some<|.box 105 _)]⟩) (E3 Z Z) ?_
 refine B5<|sv Z<|sv Z<|A1<|D6 ?_
 cases hz2
 exact ⟨Z,(),(E3 Z Z)⟩
 refine C3 Z ?_
 cases hz2
 obtain rfl:=ez2 _ rfl
 refine ⟨nofun,C2 Z<|T4 ?_⟩
 exact ⟨_,(),Z,(E3 Z Z)⟩
 rintro _ ⟨y1,g1,rfl,q1⟩
 rw [bM]at h
 refine A7 q1<|B8<|sv Z<|A1<|B9 ?_
 cases h
 exact B4 (.inr Z) (C5 (C0 Z) D4) (.refl _)
def R5 [Lp](v:Nat)(p1:RoadsCheck):Option Int:=
  cond (Nat.beq v 65) (Ad p1) (cond (Nat.beq v 66) (U3 p1) (cond (Nat.beq v 67) (S7 p1) (cond (Nat.beq v 68) (R2 p1) (cond (Nat.beq v 69) (U4 p1) (cond (Nat.beq v 70) (U5 p1) (none))))))
theorem Nc(v p1 r)(h:R5 v p1=some r):PCall prog v [(.agg [(i64 p1.Map_.Version),(.list (List.map J7 p1.Map_.Lanes)),(.list (List.map J2 p1.Map_.Zones)),(.list (List.map J9 p1.Map_.Signals)),(.list (List.map R1 p1.Map_.Works))])] (i64 r):=by
  unfold R5 at h
  rcases BB h with ⟨rfl,h⟩|⟨_,h⟩
  ·exact Tu _ r h
  rcases BB h with ⟨rfl,h⟩|⟨_,h⟩
  ·exact Vv _ r h
  rcases BB h with ⟨rfl,h⟩|⟨_,h⟩
  ·exact Ux _ r h
  rcases BB h with ⟨rfl,h⟩|⟨_,h⟩
  ·exact Tv _ r h
  rcases BB h with ⟨rfl,h⟩|⟨_,h⟩
  ·exact Vw _ r h
  rcases BB h with ⟨rfl,h⟩|⟨_,h⟩
  ·exact Vx _ r h
  cases h
def N9 [Lp](p1:Map)(x1:Int):Option (Stp Int (Sum Unit Int)):=
  cond (decide (x1< ([65,66,67,68,69,70].length:Int))) ((F0 [65,66,67,68,69,70] x1).bind fun v1=>(R5 v1 (RoadsCheck.mk p1)).bind fun v2=>cond (v2 !=0) (some (.out (.inr v2))) (some (.go (K2 (x1+1))))) (some (.out (.inl ())))
def W7 [Lp](p1:Map):Option Int:=
  thenS (loop (N9 p1) 0) (fun _=>some 0) (fun r=>some r)
theorem Fu(p1 r)(h:W7 p1=some r):PCall prog 16 [(.agg (N8 p1))] (i64 r):=by
 refine D7 (fk func16 ntmps16 (fun r=>if r==1 then [1000]else []) (by with_unfolding_all rfl)) (nl Z) ?_
 unfold W7 at h
 refine A7 (s0:=⟨T [(0,(.d _))],G []⟩) (E3 Z Z) ?_
 refine lr<|fun u1 _=>sm Z<|sv Z<|A1<|A3<|B8<|B6 (dl kT [65,66,67,68,69,70]) Z Z (sd Z (C8 Z)<|sv Z<|A1<|js h fun z1 hz1 h=>D0 (fun s=> ∃(y1:Unit) (g1:Unit),z1= .inl y1∧Sb ⟨T [],G []⟩ s) ?_ ?_)
 refine A5<|D2 (N9 p1) (fun (x1:Int) (g2:Unit)=>⟨T [(1,(.ptr (1,u1) 0)),(6,(dl kT [65,66,67,68,69,70])),(7,(di ([65,66,67,68,69,70].length:Int))),(8,(di x1))],G [((1,u1),some<|.box 27 (F2 p1))]⟩) 0 () _ hz1 (E3 Z Z) ?_
 intro x1 g2 z2 hz2 ez2
 unfold N9 at hz2
 refine B8<|sv Z<|A1<|A3<|cc Z hz2 (fun c1 hz2=> ?_)<|fun c1 hz2=> ?_
 refine B3<|A3<|A5<|B8<|bs hz2 fun _ hv1 hz2=>sd Z (D8 Z Z hv1 Z)<|sd Z (E9 Z hv1 Z)<|sv Z<|A1<|B8<|sv Z<|sd Z (C6 Z G_hit Z Z)<|sv Z<|bs hz2 fun _ hv2 hz2=>D1 Z Z A6 (Nc _ _ _ hv2) (.inl Z) (sv Z<|A1<|B8<|sv Z<|sv Z<|A1<|cc Z hz2 (fun c2 hz2=> ?_)<|fun c2 hz2=> ?_)
 refine B8<|sv Z<|sv Z<|A1<|B9 ?_
 cases hz2
 obtain rfl:=ez2 _ rfl
 refine ⟨nofun,F8 ?_⟩
 rw [bN]at h
 cases h
 exact B4 (.inr Z) (C5 (C0 Z) D4) (.refl _)
 refine B3<|E0<|B5<|sv Z<|sv Z<|A1<|D6 ?_
 cases hz2
 exact ⟨Z,(),(E3 Z Z)⟩
 refine C3 Z ?_
 cases hz2
 obtain rfl:=ez2 _ rfl
 refine ⟨nofun,C2 Z<|T4 ?_⟩
 exact ⟨_,(),Z,(E3 Z Z)⟩
 rintro _ ⟨y1,g1,rfl,q1⟩
 rw [bM]at h
 refine A7 q1<|B8<|sv Z<|A1<|B9 ?_
 cases h
 exact B4 (.inr Z) (C5 (C0 Z) D4) (.refl _)
def Fv (p1:(List Int))(p2:Int)(x1:Int):Option (Stp Int (Sum Unit Int)):=
  cond (decide (x1< (p1.length:Int))) ((F0 p1 x1).bind fun v1=>cond (p2==v1) (some (.out (.inr x1))) (some (.go (K2 (x1+1))))) (some (.out (.inl ())))
def X9 [Lp](p1:(List Int))(p2:Int):Option Int:=
  thenS (loop (Fv p1 p2) 0) (fun _=>some (-1)) (fun r=>some r)
theorem Ta(p1 p2 r)(h:X9 p1 p2=some r):PCall prog 224 [(.list (List.map A4 p1)),(i64 p2)] (i64 r):=by
 refine D7 (fk func224 ntmps224 m0 (by with_unfolding_all rfl)) (nl Z) ?_
 unfold X9 at h
 refine A7 (s0:=⟨T [(0,(.d _)),(1,(.d _))],G []⟩) (E3 Z Z) ?_
 refine B8<|sv Z<|A1<|A3<|B8<|sv Z<|sd Z (C8 Z)<|sv Z<|A1<|js h fun z1 hz1 h=>D0 (fun s=> ∃(y1:Unit) (g1:Unit),z1= .inl y1∧Sb ⟨T [],G []⟩ s) ?_ ?_
 refine A5<|D2 (Fv p1 p2) (fun (x1:Int) (g2:Unit)=>⟨T [(0,(dl A4 p1)),(1,(di p2)),(7,(di (p1.length:Int))),(8,(di x1))],G []⟩) 0 () _ hz1 (E3 Z Z) ?_
 intro x1 g2 z2 hz2 ez2
 unfold Fv at hz2
 refine B8<|sv Z<|A1<|A3<|cc Z hz2 (fun c1 hz2=> ?_)<|fun c1 hz2=> ?_
 refine B3<|A3<|A5<|B8<|sv Z<|sv Z<|A1<|B8<|sv Z<|sv Z<|sv Z<|bs hz2 fun _ hv1 hz2=>sd Z (D8 Z Z hv1 Z)<|sd Z (E9 Z hv1 Z)<|sv Z<|A1<|cc Z hz2 (fun c2 hz2=> ?_)<|fun c2 hz2=> ?_
 refine B8<|sv Z<|sv Z<|A1<|B9 ?_
 cases hz2
 obtain rfl:=ez2 _ rfl
 refine ⟨nofun,F8 ?_⟩
 rw [bN]at h
 cases h
 exact B4 (.inr Z) (C5 (C0 Z) D4) (.refl _)
 refine B3<|E0<|B5<|sv Z<|sv Z<|A1<|D6 ?_
 cases hz2
 exact ⟨Z,(),(E3 Z Z)⟩
 refine C3 Z ?_
 cases hz2
 obtain rfl:=ez2 _ rfl
 refine ⟨nofun,C2 Z<|T4 ?_⟩
 exact ⟨_,(),Z,(E3 Z Z)⟩
 rintro _ ⟨y1,g1,rfl,q1⟩
 rw [bM]at h
 refine A7 q1<|B8<|sv Z<|A1<|B9 ?_
 cases h
 exact B4 (.inr Z) (C5 (C0 Z) D4) (.refl _)
def N2 [Lp](p1:(List Int))(p2:Int):Option Bool:=
  (X9 p1 p2).bind fun v1=>some (decide (v1≥0))
theorem Z7(p1 p2 r)(h:N2 p1 p2=some r):PCall prog 136 [(.list (List.map A4 p1)),(i64 p2)] (bo r):=by
 refine D7 (fk func136 ntmps136 m0 (by with_unfolding_all rfl)) (nl Z) ?_
 unfold N2 at h
 refine A7 (s0:=⟨T [(0,(.d _)),(1,(.d _))],G []⟩) (E3 Z Z) ?_
 refine B8<|sv Z<|A1<|B8<|sv Z<|sv Z<|bs h fun _ hv1 h=>D1 Z Z A6 (Ta _ _ _ hv1) (.inl Z) (sv Z<|sv Z<|A1<|B9 ?_)
 cases h
 exact B4 (.inr Z) (C5 (C0 Z) D4) (.refl _)
def Ef [Lp](p1:Map)(p2:Int)(x1:((List Int)×Int)):Option (Stp ((List Int)×Int) (List Int)):=
  cond (decide (x1.2< (p1.Lanes.length:Int))) ((F0 p1.Lanes x1.2).bind fun v1=>(N2 v1.Next p2).bind fun v2=>cond v2 ((Q4 x1.1 [x1.2]).bind fun v3=>some (.go (v3,(K2 (x1.2+1))))) (some (.go (x1.1,(K2 (x1.2+1)))))) (some (.out x1.1))
def Ey [Lp](p1:Map)(p2:Int):Option (List Int):=
  (loop (Ef p1 p2) ([],0)).bind fun y1=>some y1
theorem Nj(p1 p2 r)(h:Ey p1 p2=some r):PCall prog 135 [(.agg (N8 p1)),(i64 p2)] (.list (List.map A4 r)):=by
 refine D7 (fk func135 ntmps135 (fun r=>if r==6 then [1002]else []) (by with_unfolding_all rfl)) (nl Z) ?_
 unfold Ey at h
 refine A7 (s0:=⟨T [(0,(.d _)),(1,(.d _))],G []⟩) (E3 Z Z) ?_
 refine B8<|sm Z<|sv Z<|A1<|B8<|sv Z<|A1<|A3<|B8<|sq Z<|sl Z G_hit Z<|sd Z (C8 Z)<|sv Z<|A1<|bs h fun y1 hy1 h=>D0 (fun s=> ∃g1:Nat,Sb ⟨T [(5,(oS y1 (23,g1)))],G [((23,g1),oB 3 1 A4 y1)]⟩ s) ?_ ?_
 refine A5<|D2 (Ef p1 p2) (fun (x1:((List Int)×Int)) (g2:Nat)=>⟨T [(1,(di p2)),(5,(oS x1.1 (23,g2))),(9,(dl J7 p1.Lanes)),(10,(di (p1.Lanes.length:Int))),(11,(di x1.2))],G [((23,g2),oB 3 1 A4 x1.1)]⟩) ([],0) 0 _ hy1 (B7 (K8 Z)<|O6 trivial) ?_
 intro x1 g2 z1 hz1 ez1
 unfold Ef at hz1
 refine B8<|sv Z<|A1<|A3<|cc Z hz1 (fun c1 hz1=> ?_)<|fun c1 hz1=> ?_
 refine B3<|A3<|A5<|B8<|sv Z<|bs hz1 fun v1 hv1 hz1=>sd Z (D8 Z Z hv1 Z)<|sd Z (D9 Z hv1 Z Z)<|sm Z<|sv Z<|V6 Z G_hit (T6 v1) Z (A1<|B8<|sq Z<|sl Z G_hit Z<|sv Z<|bs hz1 fun _ hv2 hz1=>D1 Z Z A6 (Z7 _ _ _ hv2) (.inl Z) (A1<|cc Z hz1 (fun c2 hz1=> ?_)<|fun c2 hz1=> ?_))
 refine M6 fun u7 _=>B6 (oS x1.1 (23,g2)) Z Z (sv Z<|B6 (dl A4 [x1.2]) Z Z (bs hz1 fun _ hv3 hz1=>G7 A4 (23,g2) x1.1 x1.2 [] _ (E1<|fun _=>Z) Z (gq Z) hv3 (ss Z<|A1<|E0<|A7 (s0:=⟨T [(1,(.d _)),(5,(.sl _)),(9,(.d _)),(10,(.d _)),(11,(.d _))],G [((23,u7),some _)]⟩) (E3 Z Z) ?_)))
 refine B5<|sv Z<|sv Z<|A1<|D6 ?_
 cases hz1
 exact ⟨Z,u7,(B7 ⟨.of Z,(.of (T1<|K5 hv3).symm), .of Z, .of Z, .of Z,trivial⟩<|K9 G_hit trivial)⟩
 refine B3<|E0<|B5<|sv Z<|sv Z<|A1<|D6 ?_
 cases hz1
 exact ⟨Z,g2,(B7 (K8 Z)<|B0 (gq Z) trivial)⟩
 refine C3 Z ?_
 cases hz1
 obtain rfl:=ez1 _ rfl
 refine ⟨nofun,C2 Z<|T4 ?_⟩
 exact ⟨g2,(B7 ⟨.of Z,trivial⟩<|B0 G_hit trivial)⟩
 rintro _ ⟨g1,q1⟩
 refine A7 q1<|B8<|B6 (oS y1 (23,g1)) Z Z (B6 (oS y1 (23,g1)) Z Z (A1<|B9 ?_))
 cases h
 exact B4 (.inr Z) (C5 (C0 Z)<|U9 G_hit) U8
def Ae [Lp](p1:Map)(v7:List Int)(x1:(Int×Int)):Option (Stp (Int×Int) (Sum Unit Int)):=
  cond (decide (x1.2< (v7.length:Int))) ((F0 v7 x1.2).bind fun v8=>(F0 p1.Lanes x1.1).bind fun v9=>(N2 v9.Next v8).bind fun v10=>cond (!v10) (some (.out (.inr 13))) (some (.go (v8,(K2 (x1.2+1)))))) (some (.out (.inl ())))
def Dc [Lp](p1:Map)(p2:(List Int)):Option Int:=
  (W7 p1).bind fun v1=>cond (v1 !=0) (some v1) (((cond (!(((p2.length:Int)==0)||(decide ((p2.length:Int)>8)))) (F0 p2 0) (some default))).bind fun v2=>((cond (!((((p2.length:Int)==0)||(decide ((p2.length:Int)>8)))||(decide (v2<0)))) (F0 p2 0) (some default))).bind fun v3=>((cond (!(((((p2.length:Int)==0)||(decide ((p2.length:Int)>8)))||(decide (v2<0)))||(decide (v3≥(p1.Lanes.length:Int))))) (F0 p2 0) (some default))).bind fun v4=>((cond (!(((((p2.length:Int)==0)||(decide ((p2.length:Int)>8)))||(decide (v2<0)))||(decide (v3≥(p1.Lanes.length:Int))))) (Ey p1 v4) (some default))).bind fun v5=>cond ((((((p2.length:Int)==0)||(decide ((p2.length:Int)>8)))||(decide (v2<0)))||(decide (v3≥(p1.Lanes.length:Int))))||(decide ((v5.length:Int)>0))) (some 13) ((F0 p2 0).bind fun v6=>(LX p2 1 (p2.length:Int)).bind fun v7=>thenS (loop (Ae p1 v7) (v6,0)) (fun _=>some 0) (fun r=>some r)))
theorem Xa(p1 p2 r)(h:Dc p1 p2=some r):PCall prog 36 [(.agg (N8 p1)),(.list (List.map A4 p2))] (i64 r):=by
 refine D7 (fk func36 ntmps36 m0 (by with_unfolding_all rfl)) (nl Z) ?_
 unfold Dc at h
 refine A7 (s0:=⟨T [(0,(.d _)),(1,(.d _))],G []⟩) (E3 Z Z) ?_
 refine lr<|fun u1 _=>sm Z<|sv Z<|A1<|A3<|B8<|sd Z (C6 Z G_hit Z Z)<|bs h fun _ hv1 h=>D1 Z Z A6 (Fu _ _ hv1) (.inl Z) (sv Z<|A1<|B8<|sv Z<|sv Z<|A1<|cc Z h (fun c1 h=> ?_)<|fun c1 h=> ?_)
 refine B8<|sv Z<|sv Z<|A1<|B9 ?_
 cases h
 exact B4 (.inr Z) (C5 (C0 Z) D4) (.refl _)
 refine B3<|A3<|A3<|M8 Z<|sv Z<|sd Z (C8 Z)<|sv Z<|sv Z<|gf Z (fun _=>Z)<|gf Z (fun w2=>(C8<|A8 w2))<|gf Z (vb Z Z Z)<|sd Z (X6 Z Z<|fun hc=>A8<|O7 hc)<|sv Z<|gf Z (fun _=>Z)<|bs h fun _ hv2 h=>gf Z (fun w5=>(D8 (A8 w5) Z (H4 w5 hv2) Z))<|gf Z (fun w6=>(E9 (A8 w6) (H4 w6 hv2) Z))<|gf Z (vb Z Z Z)<|sd Z (X6 Z Z<|fun hc=>A8<|O7 hc)<|sv Z<|gf Z (fun _=>Z)<|bs h fun _ hv3 h=>gf Z (fun w9=>(D8 (A8 w9) Z (H4 w9 hv3) Z))<|gf Z (fun w10=>(E9 (A8 w10) (H4 w10 hv3) Z))<|gp Z (N7 Z) (fun _=>Z) (gf Z (vl Z G_hit Z)<|gf Z (fun w13=>(C8<|A8 w13))<|gf Z (fun w14=>(An (A8 w14) (A8 w14) Z))<|sd Z (X6 Z Z<|fun hc=>A8<|O7 hc)<|sv Z<|gf Z (fun _=>(C6 Z G_hit Z Z))<|gf Z (fun _=>Z)<|bs h fun v4 hv4 h=>gf Z (fun w17=>(D8 (A8 w17) Z (H4 w17 hv4) Z))<|gf Z (fun w18=>(E9 (A8 w18) (H4 w18 hv4) Z))<|bs h fun v5 hv5 h=> ?_)
 refine N0 _ (.list (List.map A4 v5)) (N7 Z) (fun w19=>⟨_,[(.d (.agg (N8 p1))),(di v4)],_,_,(by simp only [A8 w19];rfl),Z,A6,Nj _ _ _<|H4 w19 hv5,(.inl Z)⟩) ?_
 refine gf Z (fun w20=>(C8<|A8 w20))<|gf Z (vb Z Z Z)<|sd Z (X6 Z Z<|fun hc=>A8<|O7 hc)<|A1<|cc Z h (fun c2 h=> ?_)<|fun c2 h=> ?_
 refine A3<|A7 (s0:=⟨T [],G []⟩) (E3 Z Z) ?_
 refine B5<|sv Z<|A1<|B9 ?_
 cases h
 exact B4 (.inr Z) (C5 (C0 Z) D4) (.refl _)
 refine B3<|A3<|A7 (s0:=⟨T [(1,(.d _)),(2,(.ptr _ _))],G [((2,u1),some<|.box 27 _)]⟩) (E3 Z Z) ?_
 refine B5<|sv Z<|bs h fun v6 hv6 h=>sd Z (D8 Z Z hv6 Z)<|sd Z (E9 Z hv6 Z)<|sv Z<|A1<|A3<|B8<|sv Z<|bs h fun v7 hv7 h=>sd Z (RE Z (fun _=>Z) (cD Z) JQ hv7)<|sd Z (C8 Z)<|sv Z<|A1<|js h fun z1 hz1 h=>D0 (fun s=> ∃(y1:Unit) (g1:Unit),z1= .inl y1∧Sb ⟨T [],G []⟩ s) ?_ ?_
 refine A5<|D2 (Ae p1 v7) (fun (x1:(Int×Int)) (g2:Unit)=>⟨T [(2,(.ptr (2,u1) 0)),(6,(di x1.1)),(50,(dl A4 v7)),(51,(di (v7.length:Int))),(52,(di x1.2))],G [((2,u1),some<|.box 27 (F2 p1))]⟩) (v6,0) () _ hz1 (E3 Z Z) ?_
 intro x1 g2 z2 hz2 ez2
 unfold Ae at hz2
 refine B8<|sv Z<|A1<|A3<|cc Z hz2 (fun c3 hz2=> ?_)<|fun c3 hz2=> ?_
 refine B3<|A3<|A5<|B8<|bs hz2 fun _ hv8 hz2=>sd Z (D8 Z Z hv8 Z)<|sd Z (E9 Z hv8 Z)<|sv Z<|A1<|A3<|B8<|sq Z<|sl Z G_hit Z<|sv Z<|bs hz2 fun _ hv9 hz2=>sd Z (D8 Z Z hv9 Z)<|sv Z<|sd Z (E9 Z hv9 Z)<|sv Z<|bs hz2 fun v10 hv10 hz2=>D1 Z Z A6 (Z7 _ _ _ hv10) (.inl Z) (B6 (.d (bo (!v10))) Z Z (A1<|cc Z hz2 (fun c4 hz2=> ?_)<|fun c4 hz2=> ?_))
 refine B8<|sv Z<|A1<|B9 ?_
 cases hz2
 obtain rfl:=ez2 _ rfl
 refine ⟨nofun,F8 ?_⟩
 rw [bN]at h
 cases h
 exact B4 (.inr Z) (C5 (C0 Z) D4) (.refl _)
 refine B3<|B5<|sv Z<|sv Z<|A1<|E0<|B5<|sv Z<|sv Z<|A1<|D6 ?_
 cases hz2
 exact ⟨Z,(),(E3 Z Z)⟩
 refine C3 Z ?_
 cases hz2
 obtain rfl:=ez2 _ rfl
 refine ⟨nofun,C2 Z<|T4 ?_⟩
 exact ⟨_,(),Z,(E3 Z Z)⟩
 rintro _ ⟨y1,g1,rfl,q1⟩
 rw [bM]at h
 refine A7 q1<|B8<|sv Z<|A1<|B9 ?_
 cases h
 exact B4 (.inr Z) (C5 (C0 Z) D4) (.refl _)
def Eg [Lp](p1:Map)(p2:(List Int))(x1:(Int×RoadsWay)):Option (Stp (Int×RoadsWay) RoadsWay):=
  cond (decide (x1.1< (p2.length:Int))) ((F0 p2 x1.1).bind fun v2=>(Q4 x1.2.starts [x1.2.length]).bind fun v3=>(Z6 p1 v2).bind fun v4=>some (.go ((K2 (x1.1+1)),(RoadsWay.mk x1.2.Map_ x1.2.lanes v3 (K2 (x1.2.length+v4)))))) (some (.out x1.2))
def Jd [Lp](p1:Map)(p2:(List Int)):Option RoadsWay:=
  (Dc p1 p2).bind fun v1=>cond (v1 !=0) (some (RoadsWay.mk (Map.mk 0 [] [] [] []) [] [] 0)) ((loop (Eg p1 p2) (0,(RoadsWay.mk p1 p2 [] 0))).bind fun y1=>some y1)
theorem CS(p1 p2 r)(h:Jd p1 p2=some r):PCall prog 133 [(.agg (N8 p1)),(.list (List.map A4 p2))] (.agg (TN r)):=by
 refine D7 (fk func133 ntmps133 (fun r=>if r==7 then [1004]else []) (by with_unfolding_all rfl)) (nl Z) ?_
 unfold Jd at h
 refine A7 (s0:=⟨T [(0,(.d _)),(1,(.d _))],G []⟩) (E3 Z Z) ?_
 refine lr<|fun u1 _=>sm Z<|sm Z<|A1<|A3<|B8<|sd Z (C6 Z (gq Z) Z Z)<|sv Z<|bs h fun _ hv1 h=>D1 Z Z A6 (Xa _ _ _ hv1) (.inl Z) (sv Z<|A1<|cc Z h (fun c1 h=> ?_)<|fun c1 h=> ?_)
 refine B8<|sv Z<|V6 Z G_hit [(di 0),(.d .nilS),(.d .nilS),(.d .nilS),(.d .nilS),(.d .nilS),(.d .nilS),(di 0)] Z (A1<|B9 ?_)
 cases h
 exact B4 (.inr Z) (C5 (L0 Z G_hit (nl Z) Z) D4) (.agg (ca Z<|.cons ⟨DLe.nil,Z⟩ (.cons ⟨DLe.nil,Z⟩ (.cons ⟨DLe.nil,Z⟩ (.cons ⟨DLe.nil,Z⟩ (.cons ⟨DLe.nil,Z⟩ (.cons ⟨DLe.nil,Z⟩ (cz Z))))))))
 refine B3<|lr<|fun u4 _=>sd Z (C6 Z (gq Z) Z Z)<|sv Z<|sv Z<|sm Z<|V6 Z G_hit ((F2 p1)++ [(dl A4 p2),(.d .nilS),(di 0)]) Z (A1<|A3<|B8<|sv Z<|sd Z (C8 Z)<|sv Z<|A1<|bs h fun y1 hy1 h=>D0 (fun s=> ∃g1:Nat,Sb ⟨T [(4,(.ptr (4,u1) 0)),(5,(.ptr (5,u4) 0))],G [((4,u1),some<|.box 169 [(di 0),(.d .nilS),(.d .nilS),(.d .nilS),(.d .nilS),(.d .nilS),(.d .nilS),(di 0)]),((5,u4),some<|.box 169 ((Jb y1).set 6 (oS y1.starts (27,g1)))),((27,g1),oB 2 1 A4 y1.starts)]⟩ s) ?_ ?_)
 refine A5<|D2 (Eg p1 p2) (fun (x1:(Int×RoadsWay)) (g2:Nat)=>⟨T [(2,(.ptr (2,u1) 0)),(4,(.ptr (4,u1) 0)),(5,(.ptr (5,u4) 0)),(16,(dl A4 p2)),(17,(di (p2.length:Int))),(18,(di x1.1))],G [((2,u1),some<|.box 27 (F2 p1)),((4,u1),some<|.box 169 [(di 0),(.d .nilS),(.d .nilS),(.d .nilS),(.d .nilS),(.d .nilS),(.d .nilS),(di 0)]),((5,u4),some<|.box 169 ((Jb x1.2).set 6 (oS x1.2.starts (27,g2)))),((27,g2),oB 2 1 A4 x1.2.starts)]⟩) (0,(RoadsWay.mk p1 p2 [] 0)) 0 _ hy1 (B7 (K8 Z)<|sg Z<|sg Z<|A2 G_hit (.of Z)<|O6 trivial) ?_
 intro x1 g2 z1 hz1 ez1
 unfold Eg at hz1
 refine B8<|sv Z<|A1<|A3<|cc Z hz1 (fun c2 hz1=> ?_)<|fun c2 hz1=> ?_
 refine B3<|A3<|A5<|B8<|bs hz1 fun _ hv2 hz1=>sd Z (D8 Z Z hv2 Z)<|sd Z (E9 Z hv2 Z)<|sv Z<|A1<|lr<|fun u8 _=>sq Z<|B6 (oS x1.2.starts (27,g2)) Z (U6 Z (gq Z) Z) (sq Z<|sl Z (gq Z) Z (B6 (dl A4 [x1.2.length]) Z Z (bs hz1 fun _ hv3 hz1=>G7 A4 (27,g2) x1.2.starts x1.2.length [] _ (E1<|fun _=>Z) Z (gq Z) hv3 (sq Z<|V6 Z (gq Z) ((Jb x1.2).set 6 (.sl (27,u8))) Z (A1<|A7 (s0:=⟨T [(2,(.ptr _ _)),(4,(.ptr _ _)),(5,(.ptr _ _)),(7,(.d _)),(16,(.d _)),(17,(.d _)),(18,(.d _))],G [((2,u1),some<|.box 27 _),((4,u1),some<|.box 169 _),((5,u4),some<|.box 169 _),((27,u8),some _)]⟩) (E3 Z Z) ?_)))))
 refine M8 Z<|sq Z<|sl Z (gq Z) Z (sd Z (C6 Z G_hit Z Z)<|sv Z<|bs hz1 fun v4 hv4 hz1=>D1 Z Z A6 (Hm _ _ _ hv4) (.inl Z) (sv Z<|sq Z<|V6 Z (gq Z) (((Jb x1.2).set 6 (.sl (27,u8))).set 7 (di<|K2 (x1.2.length+v4))) Z (A1<|E0<|B5<|sv Z<|sv Z<|A1<|D6 ?_)))
 cases hz1
 exact ⟨Z,u8,(B7 (K8 Z)<|sg Z<|sg Z<|A2 G_hit (.box (cv<|cv<|cv<|cv<|cv<|cv<|.cons (.of (T1<|K5 hv3).symm) cw))<|K9 (gq Z) trivial)⟩
 refine C3 Z ?_
 cases hz1
 obtain rfl:=ez1 _ rfl
 refine ⟨nofun,C2 Z<|T4 ?_⟩
 exact ⟨g2,(B7 (K8 Z)<|sg Z<|sg Z<|B0 (gq Z) trivial)⟩
 rintro _ ⟨g1,q1⟩
 refine A7 q1<|B8<|B6 (Df ((Jb y1).set 6 (oS y1.starts (27,g1)))) Z (C6 Z (gq Z) Z Z) (U7 _ _ _ _ _ (Cs _) Z Z G_hit (nl Z) ((Jb y1).set 6 (oS y1.starts (27,g1))) Z (A1<|B9 ?_))
 cases h
 exact B4 (.inr Z) (C5 (L0 Z G_hit (nl Z) Z)<|Lh<|rD<|rD<|rD<|rD<|rD<|rD<|L9 (U9<|gq Z)<|rD N1) (.agg (ca Z<|ca Z<|ca Z<|ca Z<|ca Z<|ca Z<|.cons ⟨U8,Z⟩ (cz Z)))
def Qi (p3:Int)(v1:RoadsWay)(x1:Int):Option (Stp Int Int):=
  (F0 v1.starts x1).bind fun v3=>cond (decide (v3>p3)) (some (.go (K2 (x1 - 1)))) (some (.out x1))
def Kp [Lp](p1:Map)(p2:(List Int))(p3:Int):Option (Int×Int×Bool):=
  (Jd p1 p2).bind fun v1=>((cond (!((v1.lanes.length:Int)==0)) (V7 p3 0 v1.length) (some default))).bind fun v2=>cond (((v1.lanes.length:Int)==0)||(!v2)) (some (0,0,false)) ((loop (Qi p3 v1) (K2 ((v1.lanes.length:Int) - 1))).bind fun y1=>(F0 v1.lanes y1).bind fun v4=>(F0 v1.starts y1).bind fun v5=>some (v4,(K2 (p3 - v5)),true))
theorem FE(p1 p2 p3 r)(h:Kp p1 p2 p3=some r):PCall prog 34 [(.agg (N8 p1)),(.list (List.map A4 p2)),(i64 p3)] (.tup [(i64 r.1),(i64 r.2.1),(bo r.2.2)]):=by
 refine D7 (fk func34 ntmps34 m0 (by with_unfolding_all rfl)) (nl Z) ?_
 unfold Kp at h
 refine A7 (s0:=⟨T [(0,(.d _)),(1,(.d _)),(2,(.d _))],G []⟩) (E3 Z Z) ?_
 refine B8<|sm Z<|sv Z<|sv Z<|sv Z<|A1<|lr<|fun u2 _=>sd Z (C6 Z G_hit Z Z)<|sv Z<|bs h fun v1 hv1 h=>D1 Z Z A6 (CS _ _ _ hv1) (.inl Z) (sm Z<|V6 Z G_hit (Jb v1) Z (A1<|A3<|B8<|sq Z<|sl Z G_hit Z<|sd Z (C8 Z)<|sv Z<|sv Z<|gf Z (fun _=>Z)<|gp Z (N7 Z) (fun _=>Z) (gf Z (vl Z G_hit Z)<|bs h fun v2 hv2 h=> ?_)))
 refine N0 _ (bo v2) (N7 Z) (fun w4=>⟨_,[(di p3),(di 0),(di v1.length)],_,_,(by simp only [A8 w4];rfl),Z,A6,V2 _ _ _ _<|H4 w4 hv2,(.inl Z)⟩) ?_
 refine T3 _ (.d (bo (!v2))) Z (N7 Z) (fun w5=>(by simp only [A8 w5];rfl)) ?_
 refine sd Z (X6 Z Z<|fun hc=>A8<|O7 hc)<|A1<|cc Z h (fun c1 h=> ?_)<|fun c1 h=> ?_
 refine A3<|A7 (s0:=⟨T [],G []⟩) (E3 Z Z) ?_
 refine B5<|sv Z<|sv Z<|sv Z<|A1<|B9 ?_
 cases h
 exact B4 (.inr Z) (CA (C0 Z) (C0 Z) (C0 Z) D4 D4 D4) (.refl _)
 refine B3<|A3<|A7 (s0:=⟨T [(2,(.d _)),(9,(.ptr _ _))],G [((9,u2),some<|.box 169 _)]⟩) (E3 Z Z) ?_
 refine B5<|sq Z<|sl Z G_hit Z<|sd Z (C8 Z)<|sv Z<|sv Z<|A1<|A3<|bs h fun y1 hy1 h=>D0 (fun s=> ∃g1:Unit,Sb ⟨T [(2,(di p3)),(9,(.ptr (9,u2) 0)),(10,(di y1))],G [((9,u2),some<|.box 169 (Jb v1))]⟩ s) ?_ ?_
 refine A5<|D2 (Qi p3 v1) (fun (x1:Int) (g2:Unit)=>⟨T [(2,(di p3)),(9,(.ptr (9,u2) 0)),(10,(di x1))],G [((9,u2),some<|.box 169 (Jb v1))]⟩) (K2 ((v1.lanes.length:Int) - 1)) () _ hy1 (E3 Z Z) ?_
 intro x1 g2 z1 hz1 ez1
 unfold Qi at hz1
 refine A3<|B8<|sq Z<|sl Z G_hit Z<|sv Z<|bs hz1 fun _ hv3 hz1=>sd Z (D8 Z Z hv3 Z)<|sd Z (E9 Z hv3 Z)<|sv Z<|sv Z<|A1<|cc Z hz1 (fun c2 hz1=> ?_)<|fun c2 hz1=> ?_
 refine B3<|A5<|B5<|sv Z<|sv Z<|sv Z<|A1<|E0<|D6 ?_
 cases hz1
 exact ⟨Z,(),(E3 Z Z)⟩
 refine C3 Z ?_
 cases hz1
 obtain rfl:=ez1 _ rfl
 refine ⟨nofun,C2 Z<|T4 ?_⟩
 exact ⟨(),(E3 Z Z)⟩
 rintro _ ⟨g1,q1⟩
 refine A7 q1<|A3<|M8 Z<|sq Z<|sl Z G_hit Z<|sv Z<|bs h fun _ hv4 h=>sd Z (D8 Z Z hv4 Z)<|sd Z (E9 Z hv4 Z)<|sv Z<|sq Z<|sl Z G_hit Z<|sv Z<|bs h fun _ hv5 h=>sd Z (D8 Z Z hv5 Z)<|sd Z (E9 Z hv5 Z)<|sv Z<|sv Z<|sv Z<|sv Z<|A1<|B9 ?_
 cases h
 exact B4 (.inr Z) (CA (C0 Z) (C0 Z) (C0 Z) D4 D4 D4) (.refl _)
def Qj (p1:Part)(p2:Int):Option Bool:=
  some (p1.Lane_==p2)
theorem Zp(p1 p2 r)(h:Qj p1 p2=some r):PCall prog 229 [(.agg (G8 p1)),(.bp [(i64 p2)] 0)] (bo r):=by
 refine D7 (fk func229 ntmps229 m0 (by with_unfolding_all rfl)) (nl Z) ?_
 unfold Qj at h
 refine A7 (s0:=⟨T [(0,(.d _)),(1,(.d _))],G []⟩) (E3 Z Z) ?_
 refine B8<|sm Z<|sv Z<|A1<|B8<|sq Z<|sl Z G_hit Z<|sv Z<|sv Z<|sv Z<|A1<|B9 ?_
 cases h
 exact B4 (.inr Z) (C5 (C0 Z) D4) (.refl _)
def S3 (p1:(List Part))(p2:Int)(x1:Int):Option (Stp Int (Sum Unit Int)):=
  cond (decide (x1< (p1.length:Int))) ((F0 p1 x1).bind fun v1=>(Qj v1 p2).bind fun v2=>cond v2 (some (.out (.inr x1))) (some (.go (K2 (x1+1))))) (some (.out (.inl ())))
def K6 [Lp](p1:(List Part))(p2:Int):Option Int:=
  thenS (loop (S3 p1 p2) 0) (fun _=>some (-1)) (fun r=>some r)
theorem Gd(p1 p2 r)(h:K6 p1 p2=some r):PCall prog 228 [(.list (List.map G8 p1)),(.fn (.func 229) [] [(.bp [(i64 p2)] 0)])] (i64 r):=by
 refine D7 (fk func228 ntmps228 m0 (by with_unfolding_all rfl)) (nl Z) ?_
 unfold K6 at h
 refine A7 (s0:=⟨T [(0,(.d _)),(1,(.d _))],G []⟩) (E3 Z Z) ?_
 refine B8<|sv Z<|A1<|A3<|B8<|sv Z<|sd Z (C8 Z)<|sv Z<|A1<|js h fun z1 hz1 h=>D0 (fun s=> ∃(y1:Unit) (g1:Unit),z1= .inl y1∧Sb ⟨T [],G []⟩ s) ?_ ?_
 refine A5<|D2 (S3 p1 p2) (fun (x1:Int) (g2:Unit)=>⟨T [(0,(dl G8 p1)),(1,(.d (.fn (.func 229) [] [(.bp [(i64 p2)] 0)]))),(7,(di (p1.length:Int))),(8,(di x1))],G []⟩) 0 () _ hz1 (E3 Z Z) ?_
 intro x1 g2 z2 hz2 ez2
 unfold S3 at hz2
 refine B8<|sv Z<|A1<|A3<|cc Z hz2 (fun c1 hz2=> ?_)<|fun c1 hz2=> ?_
 refine B3<|A3<|A5<|B8<|sv Z<|sv Z<|A1<|B8<|sv Z<|sv Z<|sv Z<|bs hz2 fun _ hv1 hz2=>sd Z (D8 Z Z hv1 Z)<|sd Z (D9 Z hv1 Z Z)<|bs hz2 fun _ hv2 hz2=>D1 Z Z A6 (Zp _ _ _ hv2) (.inl Z) (A1<|cc Z hz2 (fun c2 hz2=> ?_)<|fun c2 hz2=> ?_)
 refine B8<|sv Z<|sv Z<|A1<|B9 ?_
 cases hz2
 obtain rfl:=ez2 _ rfl
 refine ⟨nofun,F8 ?_⟩
 rw [bN]at h
 cases h
 exact B4 (.inr Z) (C5 (C0 Z) D4) (.refl _)
 refine B3<|E0<|B5<|sv Z<|sv Z<|A1<|D6 ?_
 cases hz2
 exact ⟨Z,(),(E3 Z Z)⟩
 refine C3 Z ?_
 cases hz2
 obtain rfl:=ez2 _ rfl
 refine ⟨nofun,C2 Z<|T4 ?_⟩
 exact ⟨_,(),Z,(E3 Z Z)⟩
 rintro _ ⟨y1,g1,rfl,q1⟩
 rw [bM]at h
 refine A7 q1<|B8<|sv Z<|A1<|B9 ?_
 cases h
 exact B4 (.inr Z) (C5 (C0 Z) D4) (.refl _)
def Gp [Lp](p1:Zone)(p2:Int):Option (Part×Bool):=
  (K6 p1.Parts p2).bind fun v1=>cond (decide (v1<0)) (some ((Part.mk 0 0 0 0),false)) ((F0 p1.Parts v1).bind fun v2=>some (v2,true))
theorem Ms(p1 p2 r)(h:Gp p1 p2=some r):PCall prog 147 [(.agg [(.list (List.map G8 p1.Parts)),(i64 p1.Signal_)]),(i64 p2)] (.tup [(.agg (G8 r.1)),(bo r.2)]):=by
 refine D7 (fk func147 ntmps147 m0 (by with_unfolding_all rfl)) (nl Z) ?_
 unfold Gp at h
 refine A7 (s0:=⟨T [(0,(.d _)),(1,(.d _))],G []⟩) (E3 Z Z) ?_
 refine B8<|sm Z<|sn Z Z<|sm Z<|sv Z<|A1<|B8<|sq Z<|sl Z (gq Z) Z (B6 (.fn _ _ _) Z Z (bs h fun _ hv1 h=>D1 Z (rD<|L9 (HV N1<|L9 (Sh (gq Z)<|rD N1) N1) N1) A6 (Gd _ _ _ hv1) (.inr Z) (sv Z<|A1<|A3<|B8<|sv Z<|sv Z<|A1<|cc Z h (fun c1 h=> ?_)<|fun c1 h=> ?_)))
 refine B8<|sv Z<|V6 Z G_hit (zs 4) Z (sv Z<|A1<|B9 ?_)
 cases h
 exact B4 (.inr Z) (My (L0 Z G_hit (nl Z) Z) (C0 Z) D4 D4) (.refl _)
 refine B3<|B8<|sq Z<|sl Z (gq Z) Z (sv Z<|bs h fun v2 hv2 h=>sd Z (D8 Z Z hv2 Z)<|sd Z (D9 Z hv2 Z Z)<|V6 Z G_hit (Sz v2) Z (sv Z<|A1<|B9 ?_))
 cases h
 exact B4 (.inr Z) (My (L0 Z G_hit (nl Z) Z) (C0 Z) D4 D4) (.refl _)
def Eh [Lp](p1:Map)(p2:Zone)(v2:(List Int))(x1:Int):Option (Stp Int (Sum Unit Bool)):=
  cond (decide (x1< (v2.length:Int))) ((F0 v2 x1).bind fun v3=>(Gp p2 v3).bind fun v4=>((cond (!(!v4.2)) (Z6 p1 v3) (some default))).bind fun v5=>cond ((!v4.2)||(v4.1.To !=v5)) (some (.out (.inr false))) (some (.go (K2 (x1+1))))) (some (.out (.inl ())))
def Gq [Lp](p1:Map)(p2:Zone)(p3:Int):Option Bool:=
  (Gp p2 p3).bind fun v1=>cond ((!v1.2)||(v1.1.From !=0)) (some false) ((Ey p1 p3).bind fun v2=>thenS (loop (Eh p1 p2 v2) 0) (fun _=>some true) (fun r=>some r))
theorem Us(p1 p2 p3 r)(h:Gq p1 p2 p3=some r):PCall prog 181 [(.agg (N8 p1)),(.agg [(.list (List.map G8 p2.Parts)),(i64 p2.Signal_)]),(i64 p3)] (bo r):=by
 refine D7 (fk func181 ntmps181 m0 (by with_unfolding_all rfl)) (nl Z) ?_
 unfold Gq at h
 refine A7 (s0:=⟨T [(0,(.d _)),(1,(.d _)),(2,(.d _))],G []⟩) (E3 Z Z) ?_
 refine lr<|fun u1 _=>sm Z<|sm Z<|sv Z<|A1<|B8<|sd Z (C6 Z G_hit Z Z)<|sv Z<|bs h fun v1 hv1 h=>D1 Z Z A6 (Ms _ _ _ hv1) (.inl Z) (sv Z<|sv Z<|sv Z<|sm Z<|V6 Z G_hit (Sz v1.1) Z (sv Z<|A1<|A3<|B8<|sv Z<|B6 (.d (bo (!v1.2))) Z Z (sv Z<|gp Z (N7 Z) (fun _=>Z) (gf Z (vl Z G_hit Z)<|gf Z (vb Z Z Z)<|sd Z (X6 Z Z<|fun hc=>A8<|O7 hc)<|A1<|cc Z h (fun c1 h=> ?_)<|fun c1 h=> ?_))))
 refine A3<|A7 (s0:=⟨T [],G []⟩) (E3 Z Z) ?_
 refine B5<|sv Z<|A1<|B9 ?_
 cases h
 exact B4 (.inr Z) (C5 (C0 Z) D4) (.refl _)
 refine B3<|A3<|A3<|A7 (s0:=⟨T [(2,(.d _)),(3,(.ptr _ _)),(4,(.ptr _ _))],G [((3,u1),some<|.box 27 _),((4,u1),some<|.box 45 _)]⟩) (E3 Z Z) ?_
 refine B5<|sd Z (C6 Z G_hit Z Z)<|sv Z<|bs h fun v2 hv2 h=>D1 Z Z A6 (Nj _ _ _ hv2) (.inl Z) (sd Z (C8 Z)<|sv Z<|A1<|js h fun z1 hz1 h=>D0 (fun s=> ∃(y1:Unit) (g1:Unit),z1= .inl y1∧Sb ⟨T [],G []⟩ s) ?_ ?_)
 refine A5<|D2 (Eh p1 p2 v2) (fun (x1:Int) (g2:Unit)=>⟨T [(3,(.ptr (3,u1) 0)),(4,(.ptr (4,u1) 0)),(28,(dl A4 v2)),(29,(di (v2.length:Int))),(30,(di x1))],G [((3,u1),some<|.box 27 (F2 p1)),((4,u1),some<|.box 45 [(dl G8 p2.Parts),(di p2.Signal_)])]⟩) 0 () _ hz1 (E3 Z Z) ?_
 intro x1 g2 z2 hz2 ez2
 unfold Eh at hz2
 refine B8<|sv Z<|A1<|A3<|cc Z hz2 (fun c2 hz2=> ?_)<|fun c2 hz2=> ?_
 refine B3<|A3<|A5<|B8<|bs hz2 fun v3 hv3 hz2=>sd Z (D8 Z Z hv3 Z)<|sd Z (E9 Z hv3 Z)<|sv Z<|A1<|B8<|sd Z (C6 Z (gq Z) Z Z)<|sv Z<|bs hz2 fun v4 hv4 hz2=>D1 Z Z A6 (Ms _ _ _ hv4) (.inl Z) (sv Z<|sv Z<|sv Z<|sm Z<|V6 Z G_hit (Sz v4.1) Z (sv Z<|A1<|A3<|M8 Z<|sv Z<|B6 (.d (bo (!v4.2))) Z Z (sv Z<|gp Z (N7 Z) (fun _=>Z) (gf Z (vl Z G_hit Z)<|gf Z (fun _=>(C6 Z (gq Z) Z Z))<|gf Z (fun _=>Z)<|bs hz2 fun v5 hv5 hz2=> ?_))))
 refine N0 _ (i64 v5) (N7 Z) (fun w8=>⟨_,[(.d (.agg (N8 p1))),(di v3)],_,_,(by simp only [A8 w8];rfl),Z,A6,Hm _ _ _<|H4 w8 hv5,(.inl Z)⟩) ?_
 refine gf Z (fun w9=>(An (A8 w9) (A8 w9) Z))<|sd Z (X6 Z Z<|fun hc=>A8<|O7 hc)<|A1<|cc Z hz2 (fun c3 hz2=> ?_)<|fun c3 hz2=> ?_
 refine A3<|A7 (s0:=⟨T [],G []⟩) (E3 Z Z) ?_
 refine B5<|sv Z<|A1<|B9 ?_
 cases hz2
 obtain rfl:=ez2 _ rfl
 refine ⟨nofun,F8 ?_⟩
 rw [bN]at h
 cases h
 exact B4 (.inr Z) (C5 (C0 Z) D4) (.refl _)
 refine B3<|E0<|A7 (s0:=⟨T [(3,(.ptr _ _)),(4,(.ptr _ _)),(28,(.d _)),(29,(.d _)),(30,(.d _))],G [((3,u1),some<|.box 27 _),((4,u1),some<|.box 45 _)]⟩) (E3 Z Z) ?_
 refine B5<|sv Z<|sv Z<|A1<|D6 ?_
 cases hz2
 exact ⟨Z,(),(E3 Z Z)⟩
 refine C3 Z ?_
 cases hz2
 obtain rfl:=ez2 _ rfl
 refine ⟨nofun,C2 Z<|T4 ?_⟩
 exact ⟨_,(),Z,(E3 Z Z)⟩
 rintro _ ⟨y1,g1,rfl,q1⟩
 rw [bM]at h
 refine A7 q1<|B8<|sv Z<|A1<|B9 ?_
 cases h
 exact B4 (.inr Z) (C5 (C0 Z) D4) (.refl _)
def Qk (x1:(Int× (Int×Int×Int×Int×Int×Int×Int×Int×Int×Int×Int×Int)))(v1:Lane)(x2:(Int× (Int×Int×Int×Int×Int×Int×Int×Int×Int×Int×Int×Int))):Option (Stp (Int× (Int×Int×Int×Int×Int×Int×Int×Int×Int×Int×Int×Int)) (Int×Int×Int×Int×Int×Int×Int×Int×Int×Int×Int×Int)):=
  cond (decide (x2.1< (v1.Next.length:Int))) ((F0 v1.Next x2.1).bind fun v2=>(F0 ([x2.2.1,x2.2.2.1,x2.2.2.2.1,x2.2.2.2.2.1,x2.2.2.2.2.2.1,x2.2.2.2.2.2.2.1,x2.2.2.2.2.2.2.2.1,x2.2.2.2.2.2.2.2.2.1,x2.2.2.2.2.2.2.2.2.2.1,x2.2.2.2.2.2.2.2.2.2.2.1,x2.2.2.2.2.2.2.2.2.2.2.2.1,x2.2.2.2.2.2.2.2.2.2.2.2.2]:List Int) x1.1).bind fun v3=>(F0 ([x2.2.1,x2.2.2.1,x2.2.2.2.1,x2.2.2.2.2.1,x2.2.2.2.2.2.1,x2.2.2.2.2.2.2.1,x2.2.2.2.2.2.2.2.1,x2.2.2.2.2.2.2.2.2.1,x2.2.2.2.2.2.2.2.2.2.1,x2.2.2.2.2.2.2.2.2.2.2.1,x2.2.2.2.2.2.2.2.2.2.2.2.1,x2.2.2.2.2.2.2.2.2.2.2.2.2]:List Int) v2).bind fun v4=>(gN .u32 1 (IntKind.wrap .u64 v2)).bind fun v5=>(F0 ([x2.2.1,x2.2.2.1,x2.2.2.2.1,x2.2.2.2.2.1,x2.2.2.2.2.2.1,x2.2.2.2.2.2.2.1,x2.2.2.2.2.2.2.2.1,x2.2.2.2.2.2.2.2.2.1,x2.2.2.2.2.2.2.2.2.2.1,x2.2.2.2.2.2.2.2.2.2.2.1,x2.2.2.2.2.2.2.2.2.2.2.2.1,x2.2.2.2.2.2.2.2.2.2.2.2.2]:List Int) x1.1).bind fun v6=>(XO ([x2.2.1,x2.2.2.1,x2.2.2.2.1,x2.2.2.2.2.1,x2.2.2.2.2.2.1,x2.2.2.2.2.2.2.1,x2.2.2.2.2.2.2.2.1,x2.2.2.2.2.2.2.2.2.1,x2.2.2.2.2.2.2.2.2.2.1,x2.2.2.2.2.2.2.2.2.2.2.1,x2.2.2.2.2.2.2.2.2.2.2.2.1,x2.2.2.2.2.2.2.2.2.2.2.2.2]:List Int) x1.1 (IntKind.wrap .u32 (((BitVec.ofInt (IntKind.bits .u32) v3|||(BitVec.ofInt (IntKind.bits .u32) (IntKind.wrap .u32 (((BitVec.ofInt (IntKind.bits .u32) v4|||(BitVec.ofInt (IntKind.bits .u32) v5)).toNat:Nat))))).toNat:Nat)))).bind fun v7=>some (.go ((K2 (x2.1+1)),((v7.getD 0 0),(v7.getD 1 0),(v7.getD 2 0),(v7.getD 3 0),(v7.getD 4 0),(v7.getD 5 0),(v7.getD 6 0),(v7.getD 7 0),(v7.getD 8 0),(v7.getD 9 0),(v7.getD 10 0),(v7.getD 11 0))))) (some (.out x2.2))
def Fw [Lp](p1:Map)(x1:(Int× (Int×Int×Int×Int×Int×Int×Int×Int×Int×Int×Int×Int))):Option (Stp (Int× (Int×Int×Int×Int×Int×Int×Int×Int×Int×Int×Int×Int)) (Int×Int×Int×Int×Int×Int×Int×Int×Int×Int×Int×Int)):=
  cond (decide (x1.1≥0)) ((F0 p1.Lanes x1.1).bind fun v1=>(loop (Qk x1 v1) (0,x1.2)).bind fun y2=>some (.go ((K2 (x1.1 - 1)),y2))) (some (.out x1.2))
def Kq [Lp](p1:Map):Option (Int×Int×Int×Int×Int×Int×Int×Int×Int×Int×Int×Int):=
  (loop (Fw p1) ((K2 ((p1.Lanes.length:Int) - 1)),(0,0,0,0,0,0,0,0,0,0,0,0))).bind fun y1=>some y1
theorem FF(p1 r)(h:Kq p1=some r):PCall prog 244 [(.agg (N8 p1))] (.agg [(.v (.int .u32 r.1)),(.v (.int .u32 r.2.1)),(.v (.int .u32 r.2.2.1)),(.v (.int .u32 r.2.2.2.1)),(.v (.int .u32 r.2.2.2.2.1)),(.v (.int .u32 r.2.2.2.2.2.1)),(.v (.int .u32 r.2.2.2.2.2.2.1)),(.v (.int .u32 r.2.2.2.2.2.2.2.1)),(.v (.int .u32 r.2.2.2.2.2.2.2.2.1)),(.v (.int .u32 r.2.2.2.2.2.2.2.2.2.1)),(.v (.int .u32 r.2.2.2.2.2.2.2.2.2.2.1)),(.v (.int .u32 r.2.2.2.2.2.2.2.2.2.2.2))]):=by
 refine D7 (fk func244 ntmps244 m0 (by with_unfolding_all rfl)) (nl Z) ?_
 unfold Kq at h
 refine A7 (s0:=⟨T [(0,(.d _))],G []⟩) (E3 Z Z) ?_
 refine lr<|fun u1 _=>sm Z<|sm Z<|A1<|lr<|fun u2 _=>sm Z<|A1<|A3<|B8<|sq Z<|sl Z (gq Z) Z (sd Z (C8 Z)<|sv Z<|sv Z<|A1<|bs h fun y1 hy1 h=>D0 (fun s=> ∃g1:Unit,Sb ⟨T [(2,(.ptr (2,u1) 0)),(3,(.ptr (3,u2) 0))],G [((2,u1),some<|.box 267 [(.d (.v (.int .u32 0))),(.d (.v (.int .u32 0))),(.d (.v (.int .u32 0))),(.d (.v (.int .u32 0))),(.d (.v (.int .u32 0))),(.d (.v (.int .u32 0))),(.d (.v (.int .u32 0))),(.d (.v (.int .u32 0))),(.d (.v (.int .u32 0))),(.d (.v (.int .u32 0))),(.d (.v (.int .u32 0))),(.d (.v (.int .u32 0)))]),((3,u2),some<|.box 267 [(.d (.v (.int .u32 y1.1))),(.d (.v (.int .u32 y1.2.1))),(.d (.v (.int .u32 y1.2.2.1))),(.d (.v (.int .u32 y1.2.2.2.1))),(.d (.v (.int .u32 y1.2.2.2.2.1))),(.d (.v (.int .u32 y1.2.2.2.2.2.1))),(.d (.v (.int .u32 y1.2.2.2.2.2.2.1))),(.d (.v (.int .u32 y1.2.2.2.2.2.2.2.1))),(.d (.v (.int .u32 y1.2.2.2.2.2.2.2.2.1))),(.d (.v (.int .u32 y1.2.2.2.2.2.2.2.2.2.1))),(.d (.v (.int .u32 y1.2.2.2.2.2.2.2.2.2.2.1))),(.d (.v (.int .u32 y1.2.2.2.2.2.2.2.2.2.2.2)))])]⟩ s) ?_ ?_)
 refine A5<|D2 (Fw p1) (fun (x1:(Int× (Int×Int×Int×Int×Int×Int×Int×Int×Int×Int×Int×Int))) (g2:Unit)=>⟨T [(1,(.ptr (1,u1) 0)),(2,(.ptr (2,u1) 0)),(3,(.ptr (3,u2) 0)),(4,(di x1.1))],G [((1,u1),some<|.box 27 (F2 p1)),((2,u1),some<|.box 267 [(.d (.v (.int .u32 0))),(.d (.v (.int .u32 0))),(.d (.v (.int .u32 0))),(.d (.v (.int .u32 0))),(.d (.v (.int .u32 0))),(.d (.v (.int .u32 0))),(.d (.v (.int .u32 0))),(.d (.v (.int .u32 0))),(.d (.v (.int .u32 0))),(.d (.v (.int .u32 0))),(.d (.v (.int .u32 0))),(.d (.v (.int .u32 0)))]),((3,u2),some<|.box 267 [(.d (.v (.int .u32 x1.2.1))),(.d (.v (.int .u32 x1.2.2.1))),(.d (.v (.int .u32 x1.2.2.2.1))),(.d (.v (.int .u32 x1.2.2.2.2.1))),(.d (.v (.int .u32 x1.2.2.2.2.2.1))),(.d (.v (.int .u32 x1.2.2.2.2.2.2.1))),(.d (.v (.int .u32 x1.2.2.2.2.2.2.2.1))),(.d (.v (.int .u32 x1.2.2.2.2.2.2.2.2.1))),(.d (.v (.int .u32 x1.2.2.2.2.2.2.2.2.2.1))),(.d (.v (.int .u32 x1.2.2.2.2.2.2.2.2.2.2.1))),(.d (.v (.int .u32 x1.2.2.2.2.2.2.2.2.2.2.2.1))),(.d (.v (.int .u32 x1.2.2.2.2.2.2.2.2.2.2.2.2)))])]⟩) ((K2 ((p1.Lanes.length:Int) - 1)),(0,0,0,0,0,0,0,0,0,0,0,0)) () _ hy1 (E3 Z Z) ?_
 intro x1 g2 z1 hz1 ez1
 unfold Fw at hz1
 refine A3<|B8<|sv Z<|sv Z<|A1<|cc Z hz1 (fun c1 hz1=> ?_)<|fun c1 hz1=> ?_
 refine B3<|A3<|A5<|B8<|sq Z<|sl Z G_hit Z<|sv Z<|bs hz1 fun v1 hv1 hz1=>sd Z (D8 Z Z hv1 Z)<|sv Z<|sd Z (E9 Z hv1 Z)<|sd Z (C8 Z)<|sv Z<|A1<|bs hz1 fun y2 hy2 hz1=>D0 (fun s=> ∃g3:Unit,Sb ⟨T [(1,(.ptr (1,u1) 0)),(2,(.ptr (2,u1) 0)),(3,(.ptr (3,u2) 0)),(4,(di x1.1))],G [((1,u1),some<|.box 27 (F2 p1)),((2,u1),some<|.box 267 [(.d (.v (.int .u32 0))),(.d (.v (.int .u32 0))),(.d (.v (.int .u32 0))),(.d (.v (.int .u32 0))),(.d (.v (.int .u32 0))),(.d (.v (.int .u32 0))),(.d (.v (.int .u32 0))),(.d (.v (.int .u32 0))),(.d (.v (.int .u32 0))),(.d (.v (.int .u32 0))),(.d (.v (.int .u32 0))),(.d (.v (.int .u32 0)))]),((3,u2),some<|.box 267 [(.d (.v (.int .u32 y2.1))),(.d (.v (.int .u32 y2.2.1))),(.d (.v (.int .u32 y2.2.2.1))),(.d (.v (.int .u32 y2.2.2.2.1))),(.d (.v (.int .u32 y2.2.2.2.2.1))),(.d (.v (.int .u32 y2.2.2.2.2.2.1))),(.d (.v (.int .u32 y2.2.2.2.2.2.2.1))),(.d (.v (.int .u32 y2.2.2.2.2.2.2.2.1))),(.d (.v (.int .u32 y2.2.2.2.2.2.2.2.2.1))),(.d (.v (.int .u32 y2.2.2.2.2.2.2.2.2.2.1))),(.d (.v (.int .u32 y2.2.2.2.2.2.2.2.2.2.2.1))),(.d (.v (.int .u32 y2.2.2.2.2.2.2.2.2.2.2.2)))])]⟩ s) ?_ ?_
 refine A5<|D2 (Qk x1 v1) (fun (x2:(Int× (Int×Int×Int×Int×Int×Int×Int×Int×Int×Int×Int×Int))) (g4:Unit)=>⟨T [(1,(.ptr (1,u1) 0)),(2,(.ptr (2,u1) 0)),(3,(.ptr (3,u2) 0)),(4,(di x1.1)),(20,(dl A4 v1.Next)),(21,(di (v1.Next.length:Int))),(22,(di x2.1))],G [((1,u1),some<|.box 27 (F2 p1)),((2,u1),some<|.box 267 [(.d (.v (.int .u32 0))),(.d (.v (.int .u32 0))),(.d (.v (.int .u32 0))),(.d (.v (.int .u32 0))),(.d (.v (.int .u32 0))),(.d (.v (.int .u32 0))),(.d (.v (.int .u32 0))),(.d (.v (.int .u32 0))),(.d (.v (.int .u32 0))),(.d (.v (.int .u32 0))),(.d (.v (.int .u32 0))),(.d (.v (.int .u32 0)))]),((3,u2),some<|.box 267 [(.d (.v (.int .u32 x2.2.1))),(.d (.v (.int .u32 x2.2.2.1))),(.d (.v (.int .u32 x2.2.2.2.1))),(.d (.v (.int .u32 x2.2.2.2.2.1))),(.d (.v (.int .u32 x2.2.2.2.2.2.1))),(.d (.v (.int .u32 x2.2.2.2.2.2.2.1))),(.d (.v (.int .u32 x2.2.2.2.2.2.2.2.1))),(.d (.v (.int .u32 x2.2.2.2.2.2.2.2.2.1))),(.d (.v (.int .u32 x2.2.2.2.2.2.2.2.2.2.1))),(.d (.v (.int .u32 x2.2.2.2.2.2.2.2.2.2.2.1))),(.d (.v (.int .u32 x2.2.2.2.2.2.2.2.2.2.2.2.1))),(.d (.v (.int .u32 x2.2.2.2.2.2.2.2.2.2.2.2.2)))])]⟩) (0,x1.2) () _ hy2 (E3 Z Z) ?_
 intro x2 g4 z2 hz2 ez2
 unfold Qk at hz2
 refine B8<|sv Z<|A1<|A3<|cc Z hz2 (fun c2 hz2=> ?_)<|fun c2 hz2=> ?_
 refine B3<|A3<|A5<|B8<|bs hz2 fun _ hv2 hz2=>sd Z (D8 Z Z hv2 Z)<|sd Z (E9 Z hv2 Z)<|sv Z<|A1<|M8 Z<|sv Z<|bs hz2 fun _ hv3 hz2=>sp Z (Zm Z Z hv3 Z)<|sd Z (FB (f:=fun x=>(.v (.int .u32 x))) Z (gq Z) hv3 Z)<|sv Z<|bs hz2 fun _ hv4 hz2=>sp Z (Zm Z Z hv4 Z)<|sd Z (FB (f:=fun x=>(.v (.int .u32 x))) Z (gq Z) hv4 Z)<|sv Z<|sv Z<|bs hz2 fun _ hv5 hz2=>sd Z (jA Z Z hv5)<|sv Z<|sv Z<|bs hz2 fun _ hv6 hz2=>sp Z (Zm Z Z hv6 Z)<|bs hz2 fun v7 hv7 hz2=>U7 _ _ _ _ _ Z Z Z (gq Z) (iZ (xs:=([x2.2.1,x2.2.2.1,x2.2.2.2.1,x2.2.2.2.2.1,x2.2.2.2.2.2.1,x2.2.2.2.2.2.2.1,x2.2.2.2.2.2.2.2.1,x2.2.2.2.2.2.2.2.2.1,x2.2.2.2.2.2.2.2.2.2.1,x2.2.2.2.2.2.2.2.2.2.2.1,x2.2.2.2.2.2.2.2.2.2.2.2.1,x2.2.2.2.2.2.2.2.2.2.2.2.2]:List Int)) hv7 Z) [(.d (.v (.int .u32 (v7.getD 0 0)))),(.d (.v (.int .u32 (v7.getD 1 0)))),(.d (.v (.int .u32 (v7.getD 2 0)))),(.d (.v (.int .u32 (v7.getD 3 0)))),(.d (.v (.int .u32 (v7.getD 4 0)))),(.d (.v (.int .u32 (v7.getD 5 0)))),(.d (.v (.int .u32 (v7.getD 6 0)))),(.d (.v (.int .u32 (v7.getD 7 0)))),(.d (.v (.int .u32 (v7.getD 8 0)))),(.d (.v (.int .u32 (v7.getD 9 0)))),(.d (.v (.int .u32 (v7.getD 10 0)))),(.d (.v (.int .u32 (v7.getD 11 0))))] (gM (fun x=>(.v (.int .u32 x))) 0 hv7) (A1<|E0<|A7 (s0:=⟨T [(1,(.ptr _ _)),(2,(.ptr _ _)),(3,(.ptr _ _)),(4,(.d _)),(20,(.d _)),(21,(.d _)),(22,(.d _))],G [((1,u1),some<|.box 27 _),((2,u1),some<|.box 267 _),((3,u2),some<|.box 267 _)]⟩) (E3 Z Z) ?_)
 refine B5<|sv Z<|sv Z<|A1<|D6 ?_
 cases hz2
 exact ⟨Z,(),(E3 Z Z)⟩
 refine C3 Z ?_
 cases hz2
 obtain rfl:=ez2 _ rfl
 refine ⟨nofun,C2 Z<|T4 ?_⟩
 exact ⟨(),(E3 Z Z)⟩
 rintro _ ⟨g3,q1⟩
 refine E0<|A7 q1<|B5<|sv Z<|sv Z<|sv Z<|A1<|D6 ?_
 cases hz1
 exact ⟨Z,(),(E3 Z Z)⟩
 refine C3 Z ?_
 cases hz1
 obtain rfl:=ez1 _ rfl
 refine ⟨nofun,C2 Z<|T4 ?_⟩
 exact ⟨(),(E3 Z Z)⟩
 rintro _ ⟨g1,q2⟩
 refine A7 q2<|B8<|sd Z (C6 Z (gq Z) Z Z)<|V6 Z G_hit [(.d (.v (.int .u32 y1.1))),(.d (.v (.int .u32 y1.2.1))),(.d (.v (.int .u32 y1.2.2.1))),(.d (.v (.int .u32 y1.2.2.2.1))),(.d (.v (.int .u32 y1.2.2.2.2.1))),(.d (.v (.int .u32 y1.2.2.2.2.2.1))),(.d (.v (.int .u32 y1.2.2.2.2.2.2.1))),(.d (.v (.int .u32 y1.2.2.2.2.2.2.2.1))),(.d (.v (.int .u32 y1.2.2.2.2.2.2.2.2.1))),(.d (.v (.int .u32 y1.2.2.2.2.2.2.2.2.2.1))),(.d (.v (.int .u32 y1.2.2.2.2.2.2.2.2.2.2.1))),(.d (.v (.int .u32 y1.2.2.2.2.2.2.2.2.2.2.2)))] Z (A1<|B9 ?_)
 cases h
 exact B4 (.inr Z) (C5 (L0 Z G_hit (nl Z) Z) D4) (.refl _)
def Sl (p1:Int)(p2:Int):Option Bool:=
  (Rh .u32 p1 (IntKind.wrap .u64 p2)).bind fun v1=>some ((IntKind.wrap .u32 (((BitVec.ofInt (IntKind.bits .u32) v1&&&(BitVec.ofInt (IntKind.bits .u32) 1)).toNat:Nat)))==1)
theorem BD(p1 p2 r)(h:Sl p1 p2=some r):PCall prog 247 [(.v (.int .u32 p1)),(i64 p2)] (bo r):=by
 refine D7 (fk func247 ntmps247 m0 (by with_unfolding_all rfl)) (nl Z) ?_
 unfold Sl at h
 refine A7 (s0:=⟨T [(0,(.d _)),(1,(.d _))],G []⟩) (E3 Z Z) ?_
 refine B8<|sv Z<|A1<|B8<|sv Z<|sv Z<|sv Z<|bs h fun _ hv1 h=>sd Z (Nb Z Z hv1)<|sv Z<|sv Z<|sv Z<|A1<|B9 ?_
 cases h
 exact B4 (.inr Z) (C5 (C0 Z) D4) (.refl _)
def Lo (p1:Part)(p2:(Int×Int×Int×Int×Int×Int×Int×Int×Int×Int×Int×Int))(p3:Int):Option Bool:=
  (F0 ([p2.1,p2.2.1,p2.2.2.1,p2.2.2.2.1,p2.2.2.2.2.1,p2.2.2.2.2.2.1,p2.2.2.2.2.2.2.1,p2.2.2.2.2.2.2.2.1,p2.2.2.2.2.2.2.2.2.1,p2.2.2.2.2.2.2.2.2.2.1,p2.2.2.2.2.2.2.2.2.2.2.1,p2.2.2.2.2.2.2.2.2.2.2.2]:List Int) p1.Lane_).bind fun v1=>(Sl v1 p3).bind fun v2=>some v2
theorem Vy(p1 p2 p3 r)(h:Lo p1 p2 p3=some r):MCall prog 246 [(.d (.agg (G8 p1))),(.ptr (900000,0) 0),(.ptr (900001,0) 0)] [(.box 267 [(.d (.v (.int .u32 p2.1))),(.d (.v (.int .u32 p2.2.1))),(.d (.v (.int .u32 p2.2.2.1))),(.d (.v (.int .u32 p2.2.2.2.1))),(.d (.v (.int .u32 p2.2.2.2.2.1))),(.d (.v (.int .u32 p2.2.2.2.2.2.1))),(.d (.v (.int .u32 p2.2.2.2.2.2.2.1))),(.d (.v (.int .u32 p2.2.2.2.2.2.2.2.1))),(.d (.v (.int .u32 p2.2.2.2.2.2.2.2.2.1))),(.d (.v (.int .u32 p2.2.2.2.2.2.2.2.2.2.1))),(.d (.v (.int .u32 p2.2.2.2.2.2.2.2.2.2.2.1))),(.d (.v (.int .u32 p2.2.2.2.2.2.2.2.2.2.2.2)))]),(.box 3 [(di p3)])] (.d (bo r)) [some (.box 267 [(.d (.v (.int .u32 p2.1))),(.d (.v (.int .u32 p2.2.1))),(.d (.v (.int .u32 p2.2.2.1))),(.d (.v (.int .u32 p2.2.2.2.1))),(.d (.v (.int .u32 p2.2.2.2.2.1))),(.d (.v (.int .u32 p2.2.2.2.2.2.1))),(.d (.v (.int .u32 p2.2.2.2.2.2.2.1))),(.d (.v (.int .u32 p2.2.2.2.2.2.2.2.1))),(.d (.v (.int .u32 p2.2.2.2.2.2.2.2.2.1))),(.d (.v (.int .u32 p2.2.2.2.2.2.2.2.2.2.1))),(.d (.v (.int .u32 p2.2.2.2.2.2.2.2.2.2.2.1))),(.d (.v (.int .u32 p2.2.2.2.2.2.2.2.2.2.2.2)))]),some (.box 3 [(di p3)])] []:=by
 refine Y6 (fk func246 ntmps246 m0 (by with_unfolding_all rfl)) Z (nl Z) ?_
 unfold Lo at h
 refine A7 (s0:=⟨T [(0,(.d _)),(1,(.ptr _ _)),(2,(.ptr _ _))],G [((900000,0),some<|.box 267 _),((900001,0),some<|.box 3 _)]⟩) (E3 Z Z) ?_
 refine B8<|sm Z<|sv Z<|A1<|A3<|M8 Z<|sq Z<|sl Z G_hit Z<|bs h fun _ hv1 h=>sp Z (Zm Z Z hv1 Z)<|sd Z (FB (f:=fun x=>(.v (.int .u32 x))) Z (gq Z) hv1 Z)<|sl Z (gq Z) Z (bs h fun _ hv2 h=>D1 Z Z A6 (BD _ _ _ hv2) (.inl Z) (sv Z<|A1<|B9 ?_))
 obtain rfl:=(lC h)
 exact Ar (.inr Z) [] (As (C0 Z) D4) (.refl _) ⟨⟨_,_,_,(gq Z),G3,Z,X3,Z⟩,⟨_,_,_,(gq Z),G3,Z,X3,Z⟩,trivial⟩
def R0 (p1:(List Part))(p2:(Int×Int×Int×Int×Int×Int×Int×Int×Int×Int×Int×Int))(p3:Int)(x1:Int):Option (Stp Int (Sum Unit Int)):=
  cond (decide (x1< (p1.length:Int))) ((F0 p1 x1).bind fun v1=>(Lo v1 p2 p3).bind fun v2=>cond v2 (some (.out (.inr x1))) (some (.go (K2 (x1+1))))) (some (.out (.inl ())))
def K1 [Lp](p1:(List Part))(p2:(Int×Int×Int×Int×Int×Int×Int×Int×Int×Int×Int×Int))(p3:Int):Option Int:=
  thenS (loop (R0 p1 p2 p3) 0) (fun _=>some (-1)) (fun r=>some r)
theorem Fp(p1 p2 p3 r)(h:K1 p1 p2 p3=some r):MCall prog 228 [(dl G8 p1),(.fn (.func 246) [] [(.ptr (900000,0) 0),(.ptr (900001,0) 0)])] [(.box 267 [(.d (.v (.int .u32 p2.1))),(.d (.v (.int .u32 p2.2.1))),(.d (.v (.int .u32 p2.2.2.1))),(.d (.v (.int .u32 p2.2.2.2.1))),(.d (.v (.int .u32 p2.2.2.2.2.1))),(.d (.v (.int .u32 p2.2.2.2.2.2.1))),(.d (.v (.int .u32 p2.2.2.2.2.2.2.1))),(.d (.v (.int .u32 p2.2.2.2.2.2.2.2.1))),(.d (.v (.int .u32 p2.2.2.2.2.2.2.2.2.1))),(.d (.v (.int .u32 p2.2.2.2.2.2.2.2.2.2.1))),(.d (.v (.int .u32 p2.2.2.2.2.2.2.2.2.2.2.1))),(.d (.v (.int .u32 p2.2.2.2.2.2.2.2.2.2.2.2)))]),(.box 3 [(di p3)])] (di r) [some (.box 267 [(.d (.v (.int .u32 p2.1))),(.d (.v (.int .u32 p2.2.1))),(.d (.v (.int .u32 p2.2.2.1))),(.d (.v (.int .u32 p2.2.2.2.1))),(.d (.v (.int .u32 p2.2.2.2.2.1))),(.d (.v (.int .u32 p2.2.2.2.2.2.1))),(.d (.v (.int .u32 p2.2.2.2.2.2.2.1))),(.d (.v (.int .u32 p2.2.2.2.2.2.2.2.1))),(.d (.v (.int .u32 p2.2.2.2.2.2.2.2.2.1))),(.d (.v (.int .u32 p2.2.2.2.2.2.2.2.2.2.1))),(.d (.v (.int .u32 p2.2.2.2.2.2.2.2.2.2.2.1))),(.d (.v (.int .u32 p2.2.2.2.2.2.2.2.2.2.2.2)))]),some (.box 3 [(di p3)])] []:=by
 refine Y6 (fk func228 ntmps228 (fun r=>if r==4 then [1004005]else []) (by with_unfolding_all rfl)) Z (nl Z) ?_
 unfold K1 at h
 refine A7 (s0:=⟨T [(0,(.d _)),(1,(.fn _ _ _))],G [((900000,0),some<|.box 267 _),((900001,0),some<|.box 3 _)]⟩) (E3 Z Z) ?_
 refine B8<|sv Z<|A1<|A3<|B8<|sv Z<|sd Z (C8 Z)<|sv Z<|A1<|js h fun z1 hz1 h=>D0 (fun s=> ∃(y1:Unit) (g1:Unit),z1= .inl y1∧Sb ⟨T [(1,(.fn (.func 246) [] [(.ptr (900000,0) 0),(.ptr (900001,0) 0)]))],G [((900000,0),some<|.box 267 [(.d (.v (.int .u32 p2.1))),(.d (.v (.int .u32 p2.2.1))),(.d (.v (.int .u32 p2.2.2.1))),(.d (.v (.int .u32 p2.2.2.2.1))),(.d (.v (.int .u32 p2.2.2.2.2.1))),(.d (.v (.int .u32 p2.2.2.2.2.2.1))),(.d (.v (.int .u32 p2.2.2.2.2.2.2.1))),(.d (.v (.int .u32 p2.2.2.2.2.2.2.2.1))),(.d (.v (.int .u32 p2.2.2.2.2.2.2.2.2.1))),(.d (.v (.int .u32 p2.2.2.2.2.2.2.2.2.2.1))),(.d (.v (.int .u32 p2.2.2.2.2.2.2.2.2.2.2.1))),(.d (.v (.int .u32 p2.2.2.2.2.2.2.2.2.2.2.2)))]),((900001,0),some<|.box 3 [(di p3)])]⟩ s) ?_ ?_
 refine A5<|D2 (R0 p1 p2 p3) (fun (x1:Int) (g2:Unit)=>⟨T [(0,(dl G8 p1)),(1,(.fn (.func 246) [] [(.ptr (900000,0) 0),(.ptr (900001,0) 0)])),(7,(di (p1.length:Int))),(8,(di x1))],G [((900000,0),some<|.box 267 [(.d (.v (.int .u32 p2.1))),(.d (.v (.int .u32 p2.2.1))),(.d (.v (.int .u32 p2.2.2.1))),(.d (.v (.int .u32 p2.2.2.2.1))),(.d (.v (.int .u32 p2.2.2.2.2.1))),(.d (.v (.int .u32 p2.2.2.2.2.2.1))),(.d (.v (.int .u32 p2.2.2.2.2.2.2.1))),(.d (.v (.int .u32 p2.2.2.2.2.2.2.2.1))),(.d (.v (.int .u32 p2.2.2.2.2.2.2.2.2.1))),(.d (.v (.int .u32 p2.2.2.2.2.2.2.2.2.2.1))),(.d (.v (.int .u32 p2.2.2.2.2.2.2.2.2.2.2.1))),(.d (.v (.int .u32 p2.2.2.2.2.2.2.2.2.2.2.2)))]),((900001,0),some<|.box 3 [(di p3)])]⟩) 0 () _ hz1 (E3 Z Z) ?_
 intro x1 g2 z2 hz2 ez2
 unfold R0 at hz2
 refine B8<|sv Z<|A1<|A3<|cc Z hz2 (fun c1 hz2=> ?_)<|fun c1 hz2=> ?_
 refine B3<|A3<|A5<|B8<|sv Z<|sv Z<|A1<|B8<|B6 (.fn _ _ _) Z Z (sv Z<|sv Z<|bs hz2 fun _ hv1 hz2=>sd Z (D8 Z Z hv1 Z)<|sd Z (D9 Z hv1 Z Z)<|bs hz2 fun v2 hv2 hz2=>V5 (v:= .d (bo v2)) (us:= [(900000,0),(900001,0)]) (R9 (Vy _ _ _ _ hv2) [(900000,0),(900001,0)] [(900000,0),(900001,0)] _ (((900001,0),some<|.box 3 [(di p3)])::(((900000,0),some<|.box 267 [(.d (.v (.int .u32 p2.1))),(.d (.v (.int .u32 p2.2.1))),(.d (.v (.int .u32 p2.2.2.1))),(.d (.v (.int .u32 p2.2.2.2.1))),(.d (.v (.int .u32 p2.2.2.2.2.1))),(.d (.v (.int .u32 p2.2.2.2.2.2.1))),(.d (.v (.int .u32 p2.2.2.2.2.2.2.1))),(.d (.v (.int .u32 p2.2.2.2.2.2.2.2.1))),(.d (.v (.int .u32 p2.2.2.2.2.2.2.2.2.1))),(.d (.v (.int .u32 p2.2.2.2.2.2.2.2.2.2.1))),(.d (.v (.int .u32 p2.2.2.2.2.2.2.2.2.2.2.1))),(.d (.v (.int .u32 p2.2.2.2.2.2.2.2.2.2.2.2)))])::_)) Z F3 (D3 Ts<|D3 (F9 G_hit Z)<|D3 (F9 (A9 Z G_hit) Z) G0) (C9 G_hit<|C9 (A9 Z G_hit) E2) ⟨⟨_,G_hit, .of Z⟩,⟨_,(A9 Z G_hit), .of Z⟩,trivial⟩ (fun _ h=>h) (iV<|Ec Z) Z Z Z) (A1<|cc Z hz2 (fun c2 hz2=> ?_)<|fun c2 hz2=> ?_))
 refine B8<|sv Z<|sv Z<|A1<|B9 ?_
 cases hz2
 obtain rfl:=ez2 _ rfl
 refine ⟨nofun,F8 ?_⟩
 rw [bN]at h
 cases h
 exact Ar (.inr Z) [] (As (C0 Z) D4) (.refl _) ⟨⟨_,_,_,(gq Z),G3,Z,X3,Z⟩,⟨_,_,_,G_hit,G3,Z,X3,Z⟩,trivial⟩
 refine B3<|E0<|B5<|sv Z<|sv Z<|A1<|D6 ?_
 cases hz2
 exact ⟨Z,(),(E3 Z Z)⟩
 refine C3 Z ?_
 cases hz2
 obtain rfl:=ez2 _ rfl
 refine ⟨nofun,C2 Z<|T4 ?_⟩
 exact ⟨_,(),Z,(E3 Z Z)⟩
 rintro _ ⟨y1,g1,rfl,q1⟩
 rw [bM]at h
 refine A7 q1<|B8<|sv Z<|A1<|B9 ?_
 cases h
 exact Ar (.inr Z) [] (As (C0 Z) D4) (.refl _) ⟨⟨_,_,_,G_hit,G3,Z,X3,Z⟩,⟨_,_,_,(gq Z),G3,Z,X3,Z⟩,trivial⟩
def J3 [Lp](p1:(List Part))(p2:(Int×Int×Int×Int×Int×Int×Int×Int×Int×Int×Int×Int))(p3:Int):Option Bool:=
  (K1 p1 p2 p3).bind fun v1=>some (decide (v1≥0))
theorem Ed(p1 p2 p3 r)(h:J3 p1 p2 p3=some r):MCall prog 245 [(dl G8 p1),(.fn (.func 246) [] [(.ptr (900000,0) 0),(.ptr (900001,0) 0)])] [(.box 267 [(.d (.v (.int .u32 p2.1))),(.d (.v (.int .u32 p2.2.1))),(.d (.v (.int .u32 p2.2.2.1))),(.d (.v (.int .u32 p2.2.2.2.1))),(.d (.v (.int .u32 p2.2.2.2.2.1))),(.d (.v (.int .u32 p2.2.2.2.2.2.1))),(.d (.v (.int .u32 p2.2.2.2.2.2.2.1))),(.d (.v (.int .u32 p2.2.2.2.2.2.2.2.1))),(.d (.v (.int .u32 p2.2.2.2.2.2.2.2.2.1))),(.d (.v (.int .u32 p2.2.2.2.2.2.2.2.2.2.1))),(.d (.v (.int .u32 p2.2.2.2.2.2.2.2.2.2.2.1))),(.d (.v (.int .u32 p2.2.2.2.2.2.2.2.2.2.2.2)))]),(.box 3 [(di p3)])] (.d (bo r)) [some (.box 267 [(.d (.v (.int .u32 p2.1))),(.d (.v (.int .u32 p2.2.1))),(.d (.v (.int .u32 p2.2.2.1))),(.d (.v (.int .u32 p2.2.2.2.1))),(.d (.v (.int .u32 p2.2.2.2.2.1))),(.d (.v (.int .u32 p2.2.2.2.2.2.1))),(.d (.v (.int .u32 p2.2.2.2.2.2.2.1))),(.d (.v (.int .u32 p2.2.2.2.2.2.2.2.1))),(.d (.v (.int .u32 p2.2.2.2.2.2.2.2.2.1))),(.d (.v (.int .u32 p2.2.2.2.2.2.2.2.2.2.1))),(.d (.v (.int .u32 p2.2.2.2.2.2.2.2.2.2.2.1))),(.d (.v (.int .u32 p2.2.2.2.2.2.2.2.2.2.2.2)))]),some (.box 3 [(di p3)])] []:=by
 refine Y6 (fk func245 ntmps245 (fun r=>if r==1 then [1001002]else []) (by with_unfolding_all rfl)) Z (nl Z) ?_
 unfold J3 at h
 refine A7 (s0:=⟨T [(0,(.d _)),(1,(.fn _ _ _))],G [((900000,0),some<|.box 267 _),((900001,0),some<|.box 3 _)]⟩) (E3 Z Z) ?_
 refine B8<|sv Z<|A1<|B8<|sv Z<|B6 (.fn _ _ _) Z Z (bs h fun v1 hv1 h=>V5 (v:= .d (i64 v1)) (us:= [(900000,0),(900001,0)]) (R9 (Fp _ _ _ _ hv1) [(900000,0),(900001,0)] [(900000,0),(900001,0)] _ (((900001,0),some<|.box 3 [(di p3)])::(((900000,0),some<|.box 267 [(.d (.v (.int .u32 p2.1))),(.d (.v (.int .u32 p2.2.1))),(.d (.v (.int .u32 p2.2.2.1))),(.d (.v (.int .u32 p2.2.2.2.1))),(.d (.v (.int .u32 p2.2.2.2.2.1))),(.d (.v (.int .u32 p2.2.2.2.2.2.1))),(.d (.v (.int .u32 p2.2.2.2.2.2.2.1))),(.d (.v (.int .u32 p2.2.2.2.2.2.2.2.1))),(.d (.v (.int .u32 p2.2.2.2.2.2.2.2.2.1))),(.d (.v (.int .u32 p2.2.2.2.2.2.2.2.2.2.1))),(.d (.v (.int .u32 p2.2.2.2.2.2.2.2.2.2.2.1))),(.d (.v (.int .u32 p2.2.2.2.2.2.2.2.2.2.2.2)))])::_)) Z F3 (D3 Ts<|D3 (Up Z<|D3 (F9 G_hit Z)<|D3 (F9 (A9 Z G_hit) Z) G0) G0) (C9 G_hit<|C9 (A9 Z G_hit) E2) ⟨⟨_,G_hit, .of Z⟩,⟨_,(A9 Z G_hit), .of Z⟩,trivial⟩ (fun _ h=>h) (iV<|Ec Z) Z Z Z) (sv Z<|sv Z<|A1<|B9 ?_))
 cases h
 exact Ar (.inr Z) [] (As (C0 Z) D4) (.refl _) ⟨⟨_,_,_,(gq Z),G3,Z,X3,Z⟩,⟨_,_,_,G_hit,G3,Z,X3,Z⟩,trivial⟩
def Gf [Lp](p1:Map)(p2:Zone)(p3:Int):Option Bool:=
  (Kq p1).bind fun v1=>(J3 p2.Parts v1 p3).bind fun v2=>some (!v2)
theorem Ql(p1 p2 p3 r)(h:Gf p1 p2 p3=some r):PCall prog 184 [(.agg (N8 p1)),(.agg [(.list (List.map G8 p2.Parts)),(i64 p2.Signal_)]),(i64 p3)] (bo r):=by
 refine D7 (fk func184 ntmps184 (fun r=>if r==2 then [1002003]else []) (by with_unfolding_all rfl)) (nl Z) ?_
 unfold Gf at h
 refine A7 (s0:=⟨T [(0,(.d _)),(1,(.d _)),(2,(.d _))],G []⟩) (E3 Z Z) ?_
 refine lr<|fun u1 _=>sm Z<|sm Z<|sn Z Z<|sv Z<|A1<|lr<|fun u2 _=>sd Z (C6 Z (gq Z) Z Z)<|bs h fun v1 hv1 h=>D1 Z Z A6 (FF _ _ hv1) (.inl Z) (sm Z<|V6 Z G_hit [(.d (.v (.int .u32 v1.1))),(.d (.v (.int .u32 v1.2.1))),(.d (.v (.int .u32 v1.2.2.1))),(.d (.v (.int .u32 v1.2.2.2.1))),(.d (.v (.int .u32 v1.2.2.2.2.1))),(.d (.v (.int .u32 v1.2.2.2.2.2.1))),(.d (.v (.int .u32 v1.2.2.2.2.2.2.1))),(.d (.v (.int .u32 v1.2.2.2.2.2.2.2.1))),(.d (.v (.int .u32 v1.2.2.2.2.2.2.2.2.1))),(.d (.v (.int .u32 v1.2.2.2.2.2.2.2.2.2.1))),(.d (.v (.int .u32 v1.2.2.2.2.2.2.2.2.2.2.1))),(.d (.v (.int .u32 v1.2.2.2.2.2.2.2.2.2.2.2)))] Z (A1<|B8<|sq Z<|sl Z (gq Z) Z (B6 (.fn _ _ _) Z Z (bs h fun v2 hv2 h=>V5 (v:= .d (bo v2)) (us:= [(7,u2),(5,u1)]) (R9 (Ed _ _ _ _ hv2) [(7,u2),(5,u1)] [(7,u2),(5,u1)] _ (((5,u1),some<|.box 3 [(di p3)])::(((7,u2),some<|.box 267 [(.d (.v (.int .u32 v1.1))),(.d (.v (.int .u32 v1.2.1))),(.d (.v (.int .u32 v1.2.2.1))),(.d (.v (.int .u32 v1.2.2.2.1))),(.d (.v (.int .u32 v1.2.2.2.2.1))),(.d (.v (.int .u32 v1.2.2.2.2.2.1))),(.d (.v (.int .u32 v1.2.2.2.2.2.2.1))),(.d (.v (.int .u32 v1.2.2.2.2.2.2.2.1))),(.d (.v (.int .u32 v1.2.2.2.2.2.2.2.2.1))),(.d (.v (.int .u32 v1.2.2.2.2.2.2.2.2.2.1))),(.d (.v (.int .u32 v1.2.2.2.2.2.2.2.2.2.2.1))),(.d (.v (.int .u32 v1.2.2.2.2.2.2.2.2.2.2.2)))])::_)) Z F3 (D3 Ts<|D3 (Up Z<|D3 (F9 G_hit Z)<|D3 (F9 (A9 Z<|A9 Z G_hit) Z) G0) G0) (C9 G_hit<|C9 (A9 Z<|A9 Z G_hit) E2) ⟨⟨_,G_hit, .of Z⟩,⟨_,(A9 Z<|A9 Z G_hit), .of Z⟩,trivial⟩ (fun _ h=>h) (iV<|Ec Z) Z Z Z) (B6 (.d (bo (!v2))) Z Z (sv Z<|A1<|B9 ?_))))))
 cases h
 exact B4 (.inr Z) (C5 (C0 Z) D4) (.refl _)
def Y0 [Lp](p1:Int)(p2:Map)(p3:Zone):Option Bool:=
  (Gf p2 p3 p1).bind fun v1=>some (!v1)
theorem Tb(p1 p2 p3 r)(h:Y0 p1 p2 p3=some r):PCall prog 183 [(i64 p1),(.bp (N8 p2) 0),(.bp [(.list (List.map G8 p3.Parts)),(i64 p3.Signal_)] 0)] (bo r):=by
 refine D7 (fk func183 ntmps183 m0 (by with_unfolding_all rfl)) (nl Z) ?_
 unfold Y0 at h
 refine A7 (s0:=⟨T [(0,(.d _)),(1,(.d _)),(2,(.d _))],G []⟩) (E3 Z Z) ?_
 refine B8<|sv Z<|A1<|B8<|sv Z<|sv Z<|sv Z<|bs h fun v1 hv1 h=>D1 Z Z A6 (Ql _ _ _ _ hv1) (.inl Z) (B6 (.d (bo (!v1))) Z Z (sv Z<|A1<|B9 ?_))
 cases h
 exact B4 (.inr Z) (C5 (C0 Z) D4) (.refl _)
def I9 [Lp](p1:(List Int))(p2:Map)(p3:Zone)(x1:Int):Option (Stp Int (Sum Unit Int)):=
  cond (decide (x1< (p1.length:Int))) ((F0 p1 x1).bind fun v1=>(Y0 v1 p2 p3).bind fun v2=>cond v2 (some (.out (.inr x1))) (some (.go (K2 (x1+1))))) (some (.out (.inl ())))
def J8 [Lp](p1:(List Int))(p2:Map)(p3:Zone):Option Int:=
  thenS (loop (I9 p1 p2 p3) 0) (fun _=>some (-1)) (fun r=>some r)
theorem Fi(p1 p2 p3 r)(h:J8 p1 p2 p3=some r):PCall prog 145 [(.list (List.map A4 p1)),(.fn (.func 183) [] [(.bp (N8 p2) 0),(.bp [(.list (List.map G8 p3.Parts)),(i64 p3.Signal_)] 0)])] (i64 r):=by
 refine D7 (fk func145 ntmps145 m0 (by with_unfolding_all rfl)) (nl Z) ?_
 unfold J8 at h
 refine A7 (s0:=⟨T [(0,(.d _)),(1,(.d _))],G []⟩) (E3 Z Z) ?_
 refine B8<|sv Z<|A1<|A3<|B8<|sv Z<|sd Z (C8 Z)<|sv Z<|A1<|js h fun z1 hz1 h=>D0 (fun s=> ∃(y1:Unit) (g1:Unit),z1= .inl y1∧Sb ⟨T [],G []⟩ s) ?_ ?_
 refine A5<|D2 (I9 p1 p2 p3) (fun (x1:Int) (g2:Unit)=>⟨T [(0,(dl A4 p1)),(1,(.d (.fn (.func 183) [] [(.bp (N8 p2) 0),(.bp [(.list (List.map G8 p3.Parts)),(i64 p3.Signal_)] 0)]))),(7,(di (p1.length:Int))),(8,(di x1))],G []⟩) 0 () _ hz1 (E3 Z Z) ?_
 intro x1 g2 z2 hz2 ez2
 unfold I9 at hz2
 refine B8<|sv Z<|A1<|A3<|cc Z hz2 (fun c1 hz2=> ?_)<|fun c1 hz2=> ?_
 refine B3<|A3<|A5<|B8<|sv Z<|sv Z<|A1<|B8<|sv Z<|sv Z<|sv Z<|bs hz2 fun _ hv1 hz2=>sd Z (D8 Z Z hv1 Z)<|sd Z (E9 Z hv1 Z)<|bs hz2 fun _ hv2 hz2=>D1 Z Z A6 (Tb _ _ _ _ hv2) (.inl Z) (A1<|cc Z hz2 (fun c2 hz2=> ?_)<|fun c2 hz2=> ?_)
 refine B8<|sv Z<|sv Z<|A1<|B9 ?_
 cases hz2
 obtain rfl:=ez2 _ rfl
 refine ⟨nofun,F8 ?_⟩
 rw [bN]at h
 cases h
 exact B4 (.inr Z) (C5 (C0 Z) D4) (.refl _)
 refine B3<|E0<|B5<|sv Z<|sv Z<|A1<|D6 ?_
 cases hz2
 exact ⟨Z,(),(E3 Z Z)⟩
 refine C3 Z ?_
 cases hz2
 obtain rfl:=ez2 _ rfl
 refine ⟨nofun,C2 Z<|T4 ?_⟩
 exact ⟨_,(),Z,(E3 Z Z)⟩
 rintro _ ⟨y1,g1,rfl,q1⟩
 rw [bM]at h
 refine A7 q1<|B8<|sv Z<|A1<|B9 ?_
 cases h
 exact B4 (.inr Z) (C5 (C0 Z) D4) (.refl _)
def J0 [Lp](p1:(List Int))(p2:Map)(p3:Zone):Option Bool:=
  (J8 p1 p2 p3).bind fun v1=>some (decide (v1≥0))
theorem Dz(p1 p2 p3 r)(h:J0 p1 p2 p3=some r):PCall prog 182 [(.list (List.map A4 p1)),(.fn (.func 183) [] [(.bp (N8 p2) 0),(.bp [(.list (List.map G8 p3.Parts)),(i64 p3.Signal_)] 0)])] (bo r):=by
 refine D7 (fk func182 ntmps182 m0 (by with_unfolding_all rfl)) (nl Z) ?_
 unfold J0 at h
 refine A7 (s0:=⟨T [(0,(.d _)),(1,(.d _))],G []⟩) (E3 Z Z) ?_
 refine B8<|sv Z<|A1<|B8<|sv Z<|sv Z<|bs h fun _ hv1 h=>D1 Z Z A6 (Fi _ _ _ _ hv1) (.inl Z) (sv Z<|sv Z<|A1<|B9 ?_)
 cases h
 exact B4 (.inr Z) (C5 (C0 Z) D4) (.refl _)
end
end Go.Abs.Roadsz
