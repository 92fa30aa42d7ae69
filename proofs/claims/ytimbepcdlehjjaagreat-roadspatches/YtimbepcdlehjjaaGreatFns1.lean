/-
  The Go functions that RoadsPatches reaches, as plain Lean functions, and the proofs that the program computes them.
-/
import Derived.Test.YtimbepcdlehjjaaGreatCoreD
import Derived.Test.YtimbepcdlehjjaaGreatProg
import Derived.KernelRfl
import Derived.IntWalk
import Derived.Shelf.Spec.SlicesGrow
set_option maxRecDepth 20000
set_option maxHeartbeats 4000000
set_option linter.unusedVariables false
namespace Go.Abs.Roadsz
noncomputable section
open Go Go.Abs Go.Proofs Tryz
attribute [local irreducible] J0 Ij Di
structure Spot where
  X:Int
  Y:Int
  deriving Inhabited
structure CurveVector where
  x:Int
  y:Int
  deriving Inhabited
structure CurvePiece where
  p:Spot
  v:CurveVector
  l:Int
  start:Int
  deriving Inhabited
abbrev P0:Spot→List D:=fun x=> [(i64 x.X),(i64 x.Y)]
structure Curve where
  Pts:(List Spot)
  deriving Inhabited
abbrev WU:Curve→List D:=fun x=> [(.list (List.map P0 x.Pts))]
abbrev A6:Int→List D:=fun x=> [.v (.int .i64 x)]
structure Part where
  Lane_:Int
  From:Int
  To:Int
  Rank:Int
  deriving Inhabited
abbrev H3:Part→List D:=fun x=> [(i64 x.Lane_),(i64 x.From),(i64 x.To),(i64 x.Rank)]
structure Phase where
  Ticks:Int
  Green:(List Int)
  deriving Inhabited
abbrev J2:Phase→List D:=fun x=> [(i64 x.Ticks),(.list (List.map A6 x.Green))]
structure Lane where
  Kind:Int
  Curve_:Curve
  Half:Int
  Limit:Int
  Next:(List Int)
  deriving Inhabited
structure Zone where
  Parts:(List Part)
  Signal_:Int
  deriving Inhabited
structure Signal where
  Offset:Int
  Phases:(List Phase)
  deriving Inhabited
structure Work where
  Lane_:Int
  From:Int
  To:Int
  Begin:Int
  End:Int
  Limit:Int
  deriving Inhabited
structure Map where
  Version:Int
  Lanes:(List Lane)
  Zones:(List Zone)
  Signals:(List Signal)
  Works:(List Work)
  deriving Inhabited
abbrev G5:Lane→List D:=fun x=> [(i64 x.Kind),(.list (List.map P0 x.Curve_.Pts)),(i64 x.Half),(i64 x.Limit),(.list (List.map A6 x.Next))]
abbrev F4:Zone→List D:=fun x=> [(.list (List.map H3 x.Parts)),(i64 x.Signal_)]
abbrev E2:Signal→List D:=fun x=> [(i64 x.Offset),(.list (List.map J2 x.Phases))]
abbrev I6:Work→List D:=fun x=> [(i64 x.Lane_),(i64 x.From),(i64 x.To),(i64 x.Begin),(i64 x.End),(i64 x.Limit)]
structure Edit where
  Kind:Int
  Table:Int
  At:Int
  Lane_:Lane
  Zone_:Zone
  Signal_:Signal
  Work_:Work
  deriving Inhabited
structure Patch where
  Base:Int
  Edits:(List Edit)
  deriving Inhabited
abbrev XH:Nat→List D:=fun x=> [.fn (.func x) [] []]
structure RoadsCheck where
  Map_:Map
  deriving Inhabited
abbrev VY:(Int×Int×Int)→List D:=fun x=> [(i64 x.1),(i64 x.2.1),(i64 x.2.2)]
abbrev G2:Edit→List D:=fun x=> [(i64 x.Kind),(i64 x.Table),(i64 x.At),(i64 x.Lane_.Kind),(.list (List.map P0 x.Lane_.Curve_.Pts)),(i64 x.Lane_.Half),(i64 x.Lane_.Limit),(.list (List.map A6 x.Lane_.Next)),(.list (List.map H3 x.Zone_.Parts)),(i64 x.Zone_.Signal_),(i64 x.Signal_.Offset),(.list (List.map J2 x.Signal_.Phases)),(i64 x.Work_.Lane_),(i64 x.Work_.From),(i64 x.Work_.To),(i64 x.Work_.Begin),(i64 x.Work_.End),(i64 x.Work_.Limit)]
abbrev Pb:(List Edit)→List D:=fun x=> [.list (List.map G2 x)]
structure Clash where
  Kind:Int
  Zone_:Int
  A:Int
  B:Int
  deriving Inhabited
abbrev J6:Clash→List D:=fun x=> [(i64 x.Kind),(i64 x.Zone_),(i64 x.A),(i64 x.B)]
structure RoadsWay where
  Map_:Map
  lanes:(List Int)
  starts:(List Int)
  length:Int
  deriving Inhabited
structure Anon7 where
  x:Int
  y:Int
  signed:Bool
  code:Int
  deriving Inhabited
structure RuntimeBoundsError where
  x:Int
  y:Int
  signed:Bool
  code:Int
  deriving Inhabited
structure Anon13 where
  msg:ByteArray
  addr:Int
  deriving Inhabited
structure RuntimeErrorAddressString where
  msg:ByteArray
  addr:Int
  deriving Inhabited
structure Anon26 where
  Version:Int
  Lanes:(List Lane)
  Zones:(List Zone)
  Signals:(List Signal)
  Works:(List Work)
  deriving Inhabited
structure Anon35 where
  Base:Int
  Edits:(List Edit)
  deriving Inhabited
structure Anon38 where
  Pts:(List Spot)
  deriving Inhabited
structure Anon41 where
  Kind:Int
  Curve_:Curve
  Half:Int
  Limit:Int
  Next:(List Int)
  deriving Inhabited
structure Anon44 where
  Parts:(List Part)
  Signal_:Int
  deriving Inhabited
structure Anon47 where
  Offset:Int
  Phases:(List Phase)
  deriving Inhabited
structure Anon49 where
  Lane_:Int
  From:Int
  To:Int
  Begin:Int
  End:Int
  Limit:Int
  deriving Inhabited
structure Anon51 where
  Kind:Int
  Table:Int
  At:Int
  Lane_:Lane
  Zone_:Zone
  Signal_:Signal
  Work_:Work
  deriving Inhabited
structure Anon90 where
  Lane_:Int
  From:Int
  To:Int
  Rank:Int
  deriving Inhabited
structure Anon92 where
  Kind:Int
  Zone_:Int
  A:Int
  B:Int
  deriving Inhabited
structure Anon94 where
  Zone_:Int
  Part_:Int
  From:Int
  To:Int
  deriving Inhabited
structure Pass where
  Zone_:Int
  Part_:Int
  From:Int
  To:Int
  deriving Inhabited
structure Anon96 where
  Ticks:Int
  Green:(List Int)
  deriving Inhabited
structure Anon104 where
  Map_:Map
  deriving Inhabited
structure Anon144 where
  b:(List Int)
  deriving Inhabited
structure RoadsWriter where
  b:(List Int)
  deriving Inhabited
structure Anon147 where
  X:Int
  Y:Int
  deriving Inhabited
structure Anon153 where
  s:ByteArray
  short:Bool
  deriving Inhabited
structure RoadsReader where
  s:ByteArray
  short:Bool
  deriving Inhabited
structure Anon168 where
  Map_:Map
  lanes:(List Int)
  starts:(List Int)
  length:Int
  deriving Inhabited
structure Anon186 where
  s:ByteArray
  bad:Bool
  deriving Inhabited
structure Ref03Reader where
  s:ByteArray
  bad:Bool
  deriving Inhabited
structure Anon225 where
  FromA:Int
  ToA:Int
  FromB:Int
  ToB:Int
  deriving Inhabited
structure Cross where
  FromA:Int
  ToA:Int
  FromB:Int
  ToB:Int
  deriving Inhabited
structure Anon252 where
  x:Int
  y:Int
  deriving Inhabited
structure Anon279 where
  p:Spot
  v:CurveVector
  l:Int
  start:Int
  deriving Inhabited
structure Anon282 where
  piece:CurvePiece
  half:Int
  ends:(Int×Int)
  deriving Inhabited
structure CurveCorridor where
  piece:CurvePiece
  half:Int
  ends:(Int×Int)
  deriving Inhabited
structure Anon290 where
  p:Spot
  v:Spot
  l:Int
  h:Int
  s:Int
  t:Int
  deriving Inhabited
structure Ref01Stripe where
  p:Spot
  v:Spot
  l:Int
  h:Int
  s:Int
  t:Int
  deriving Inhabited
abbrev Od:Edit→List AV:=fun x=> [(.d (i64 x.Kind)),(.d (i64 x.Table)),(.d (i64 x.At)),(.d (i64 x.Lane_.Kind)),(.d (.list (List.map P0 x.Lane_.Curve_.Pts))),(.d (i64 x.Lane_.Half)),(.d (i64 x.Lane_.Limit)),(.d (.list (List.map A6 x.Lane_.Next))),(.d (.list (List.map H3 x.Zone_.Parts))),(.d (i64 x.Zone_.Signal_)),(.d (i64 x.Signal_.Offset)),(.d (.list (List.map J2 x.Signal_.Phases))),(.d (i64 x.Work_.Lane_)),(.d (i64 x.Work_.From)),(.d (i64 x.Work_.To)),(.d (i64 x.Work_.Begin)),(.d (i64 x.Work_.End)),(.d (i64 x.Work_.Limit))]
abbrev JL:RoadsWay→List D:=fun x=> [(i64 x.Map_.Version),(.list (List.map G5 x.Map_.Lanes)),(.list (List.map F4 x.Map_.Zones)),(.list (List.map E2 x.Map_.Signals)),(.list (List.map I6 x.Map_.Works)),(.list (List.map A6 x.lanes)),(.list (List.map A6 x.starts)),(i64 x.length)]
abbrev Fk:RoadsWay→List AV:=fun x=> [(.d (i64 x.Map_.Version)),(.d (.list (List.map G5 x.Map_.Lanes))),(.d (.list (List.map F4 x.Map_.Zones))),(.d (.list (List.map E2 x.Map_.Signals))),(.d (.list (List.map I6 x.Map_.Works))),(.d (.list (List.map A6 x.lanes))),(.d (.list (List.map A6 x.starts))),(.d (i64 x.length))]
abbrev DS:Work→List AV:=fun x=> [(.d (i64 x.Lane_)),(.d (i64 x.From)),(.d (i64 x.To)),(.d (i64 x.Begin)),(.d (i64 x.End)),(.d (i64 x.Limit))]
abbrev DT:CurvePiece→List D:=fun x=> [(i64 x.p.X),(i64 x.p.Y),(i64 x.v.x),(i64 x.v.y),(i64 x.l),(i64 x.start)]
abbrev DU:CurvePiece→List AV:=fun x=> [(.d (i64 x.p.X)),(.d (i64 x.p.Y)),(.d (i64 x.v.x)),(.d (i64 x.v.y)),(.d (i64 x.l)),(.d (i64 x.start))]
abbrev Q8:Map→List D:=fun x=> [(i64 x.Version),(.list (List.map G5 x.Lanes)),(.list (List.map F4 x.Zones)),(.list (List.map E2 x.Signals)),(.list (List.map I6 x.Works))]
abbrev R3:Map→List AV:=fun x=> [(.d (i64 x.Version)),(.d (.list (List.map G5 x.Lanes))),(.d (.list (List.map F4 x.Zones))),(.d (.list (List.map E2 x.Signals))),(.d (.list (List.map I6 x.Works)))]
abbrev In:Lane→List AV:=fun x=> [(.d (i64 x.Kind)),(.d (.list (List.map P0 x.Curve_.Pts))),(.d (i64 x.Half)),(.d (i64 x.Limit)),(.d (.list (List.map A6 x.Next)))]
abbrev Pr:Part→List AV:=fun x=> [(.d (i64 x.Lane_)),(.d (i64 x.From)),(.d (i64 x.To)),(.d (i64 x.Rank))]
def Rz (p1:Int)(p2:Int):Option Int:=
  (MR p1 p2).bind fun v1=>cond (decide (v1<0)) (some (H6 (v1+p2))) (some v1)
theorem GK(p1 p2 r)(h:Rz p1 p2=some r):PCall prog 33 [(i64 p1),(i64 p2)] (i64 r):=by
 refine C4 (fk func33 ntmps33 m0 (by with_unfolding_all rfl)) (nl Z) ?_
 unfold Rz at h
 refine A7 (s0:=⟨T [(0,(.d _)),(1,(.d _))],G []⟩) (G1 Z Z) ?_
 refine B6<|sv Z<|A1<|B6<|sv Z<|sv Z<|bs h fun _ hv1 h=>sd Z (VM Z Z hv1)<|sv Z<|A1<|A3<|B6<|sv Z<|sv Z<|A1<|cc Z h (fun c1 h=> ?_)<|fun c1 h=> ?_
 refine B9<|sv Z<|sv Z<|sv Z<|sv Z<|A1<|B6<|sv Z<|sv Z<|A1<|B4 ?_
 cases h
 exact B0 (.inr Z) (C1 (B1 Z) D4) (.refl _)
 refine B2<|B6<|sv Z<|sv Z<|A1<|B4 ?_
 cases h
 exact B0 (.inr Z) (C1 (B1 Z) D4) (.refl _)
def Oe (p4:(List Int))(x1:(Int×Lane)):Option (Stp (Int×Lane) Lane):=
  cond (decide ((H6 (x1.1+1))< (p4.length:Int))) ((E8 p4 x1.1).bind fun v1=>(E8 p4 (H6 (x1.1+1))).bind fun v2=>(X6 x1.2.Curve_.Pts [(Spot.mk v1 v2)]).bind fun v3=>some (.go ((H6 (x1.1+2)),(Lane.mk x1.2.Kind (Curve.mk v3) x1.2.Half x1.2.Limit x1.2.Next)))) (some (.out x1.2))
def R4 [Lp](p1:Int)(p2:Int)(p3:(List Int))(p4:(List Int)):Option Lane:=
  (loop (Oe p4) (0,(Lane.mk p1 (Curve.mk []) 1500 p2 p3))).bind fun y1=>cond (p1==3) (some (Lane.mk y1.Kind y1.Curve_ 500 y1.Limit y1.Next)) (some y1)
theorem P1(p1 p2 p3 p4 r)(h:R4 p1 p2 p3 p4=some r):PCall prog 115 [(i64 p1),(i64 p2),(.list (List.map A6 p3)),(.list (List.map A6 p4))] (.agg (G5 r)):=by
 refine C4 (fk func115 ntmps115 (fun r=>if r==5 then [1013]else []) (by with_unfolding_all rfl)) (nl Z) ?_
 unfold R4 at h
 refine A7 (s0:=⟨T [(0,(.d _)),(1,(.d _)),(2,(.d _)),(3,(.d _))],G []⟩) (G1 Z Z) ?_
 refine lr<|fun u1 _=>sm Z<|A1<|lr<|fun u2 _=>sv Z<|sv Z<|sv Z<|sv Z<|sm Z<|Aa Z G_hit [(di p1),(.d .nilS),(di 1500),(di p2),(dl A6 p3)] Z (A1<|A3<|B6<|sv Z<|A1<|bs h fun y1 hy1 h=>F6 (fun s=> ∃g1:Nat,Sb ⟨T [(0,(di p1)),(8,(.ptr (8,u1) 0)),(9,(.ptr (9,u2) 0))],G [((8,u1),some<|.box 42 (((zs 4).set 1 (.d .nilS))++ [(.d .nilS)])),((9,u2),some<|.box 42 ((In y1).set 1 (oS y1.Curve_.Pts (36,g1)))),((36,g1),oB 148 2 P0 y1.Curve_.Pts)]⟩ s) ?_ ?_)
 refine A8<|G0 (Oe p4) (fun (x1:(Int×Lane)) (g2:Nat)=>⟨T [(0,(di p1)),(3,(dl A6 p4)),(8,(.ptr (8,u1) 0)),(9,(.ptr (9,u2) 0)),(10,(di x1.1))],G [((8,u1),some<|.box 42 (((zs 4).set 1 (.d .nilS))++ [(.d .nilS)])),((9,u2),some<|.box 42 ((In x1.2).set 1 (oS x1.2.Curve_.Pts (36,g2)))),((36,g2),oB 148 2 P0 x1.2.Curve_.Pts)]⟩) (0,(Lane.mk p1 (Curve.mk []) 1500 p2 p3)) 0 _ hy1 (C0 (V4 Z)<|sg Z<|B7 G_hit (.of Z)<|M4 trivial) ?_
 intro x1 g2 z1 hz1 ez1
 unfold Oe at hz1
 refine A3<|B6<|sv Z<|sv Z<|sv Z<|sd Z (D6 Z)<|sv Z<|A1<|cc Z hz1 (fun c1 hz1=> ?_)<|fun c1 hz1=> ?_
 refine B2<|A3<|A8<|Tc Z fun u5 _=>sq Z<|sq Z<|A9 (oS x1.2.Curve_.Pts (36,g2)) Z (Bp Z (gq Z) Z) (sv Z<|sv Z<|bs hz1 fun v1 hv1 hz1=>sd Z (F0 Z Z hv1 Z)<|sd Z (J8 Z hv1 Z)<|sv Z<|sv Z<|sv Z<|bs hz1 fun v2 hv2 hz1=>sd Z (F0 Z Z hv2 Z)<|sd Z (J8 Z hv2 Z)<|sv Z<|A9 (dl P0 [(Spot.mk v1 v2)]) Z Z (bs hz1 fun _ hv3 hz1=>H9 P0 (36,g2) x1.2.Curve_.Pts (Spot.mk v1 v2) [] _ (E4<|fun _=>Z) Z (gq Z) hv3 (sq Z<|sp Z Z<|Aa Z (gq Z) ((In x1.2).set 1 (.sl (36,u5))) Z (A1<|E3<|A7 (s0:=⟨T [(0,(.d _)),(3,(.d _)),(8,(.ptr _ _)),(9,(.ptr _ _)),(10,(.d _))],G [((8,u1),some<|.box 42 _),((9,u2),some<|.box 42 _),((36,u5),some _)]⟩) (G1 Z Z) ?_))))
 refine B9<|sv Z<|sv Z<|sv Z<|A1<|G9 ?_
 cases hz1
 exact ⟨Z,u5,(C0 (V4 Z)<|B7 G_hit (.of Z)<|B7 (gq Z) (.box (cv<|.cons (.of (Q7<|L4 hv3).symm) cw)) (H7 (gq Z) trivial))⟩
 refine D8 Z ?_
 cases hz1
 obtain rfl:=ez1 _ rfl
 refine ⟨nofun,D1 Z<|Az ?_⟩
 exact ⟨g2,(C0 (V4 Z)<|B7 G_hit (.of Z)<|sg Z<|C7 (gq Z) trivial)⟩
 rintro _ ⟨g1,q1⟩
 refine A7 q1<|A3<|B6<|sv Z<|sv Z<|A1<|cc Z h (fun c2 h=> ?_)<|fun c2 h=> ?_
 refine B9<|sq Z<|Aa Z (gq Z) (((In y1).set 1 (oS y1.Curve_.Pts (36,g1))).set 2 (di 500)) Z (A1<|B6<|A9 (Ao (((In y1).set 1 (oS y1.Curve_.Pts (36,g1))).set 2 (di 500))) Z (B5 Z G_hit Z Z) (Dp _ _ _ _ _ (Aj _) Z Z (gq Z) (nl Z) (((In y1).set 1 (oS y1.Curve_.Pts (36,g1))).set 2 (di 500)) Z (A1<|B4 ?_)))
 cases h
 exact B0 (.inr Z) (C1 (I3 Z G_hit (nl Z) Z)<|Im<|rD<|J5 (Cx<|gq Z)<|rD<|rD<|rD M3) (.agg (ca Z<|.cons ⟨Cw,Z⟩ (cz Z)))
 refine B2<|B6<|A9 (Ao ((In y1).set 1 (oS y1.Curve_.Pts (36,g1)))) Z (B5 Z (gq Z) Z Z) (Dp _ _ _ _ _ (Aj _) Z Z G_hit (nl Z) ((In y1).set 1 (oS y1.Curve_.Pts (36,g1))) Z (A1<|B4 ?_))
 cases h
 exact B0 (.inr Z) (C1 (I3 Z G_hit (nl Z) Z)<|Im<|rD<|J5 (Cx<|gq Z)<|rD<|rD<|rD M3) (.agg (ca Z<|.cons ⟨Cw,Z⟩ (cz Z)))
def Js (p1:Int)(p2:Int)(p3:Int):Option Signal:=
  some (Signal.mk p1 [(Phase.mk 12 [p2]),(Phase.mk 5 []),(Phase.mk 9 [p3]),(Phase.mk 4 [])])
theorem Ky(p1 p2 p3 r)(h:Js p1 p2 p3=some r):PCall prog 116 [(i64 p1),(i64 p2),(i64 p3)] (.agg [(i64 r.Offset),(.list (List.map J2 r.Phases))]):=by
 refine C4 (fk func116 ntmps116 (fun r=>if r==1 then [1002,1006,1009]else []) (by with_unfolding_all rfl)) (nl Z) ?_
 unfold Js at h
 refine A7 (s0:=⟨T [(0,(.d _)),(1,(.d _)),(2,(.d _))],G []⟩) (G1 Z Z) ?_
 refine B6<|sm Z<|A1<|B6<|sv Z<|sv Z<|A9 (dl A6 [p2]) Z Z (sv Z<|sv Z<|sv Z<|A9 (dl A6 [p3]) Z Z (sv Z<|sv Z<|A9 (dl J2 [(Phase.mk 12 [p2]),(Phase.mk 5 []),(Phase.mk 9 [p3]),(Phase.mk 4 [])]) Z Z (sv Z<|Aa Z G_hit [(di p1),(dl J2 [(Phase.mk 12 [p2]),(Phase.mk 5 []),(Phase.mk 9 [p3]),(Phase.mk 4 [])])] Z (A1<|B4 ?_))))
 cases h
 exact B0 (.inr Z) (C1 (I3 Z G_hit (nl Z) Z) D4) (.refl _)
def Pc [Lp](p1:Int):Option Map:=
  (Rz p1 16777216).bind fun v1=>(E8 [1500,600,1000,300] ((H6 (v1.tdiv 7)).tmod 4)).bind fun v2=>(cond ((v1.tmod 7)==0) ((R4 1 v2 [] [0,0,60000,0]).bind fun v3=>some (Map.mk 0 [v3] [] [] [])) ((cond ((v1.tmod 7)==1) (some ((v1.tmod 7)==1)) (some ((v1.tmod 7)==2))).bind fun y2=>cond y2 ((R4 1 v2 [] [0,0,50000,0]).bind fun v4=>(R4 1 1500 [] [30000,(-20000),30000,20000]).bind fun v5=>cond ((v1.tmod 7)==2) ((E8 [(Zone.mk [(Part.mk 0 28000 32000 ((H6 (v1.tdiv 28)).tmod 2)),(Part.mk 1 18000 22000 (H6 (2 - (H6 (2* ((H6 (v1.tdiv 28)).tmod 2))))))] 0)] 0).bind fun v6=>(Js ((H6 (v1.tdiv 28)).tmod 31) 0 1).bind fun v7=>some (Map.mk 0 [v4,v5] (Lj [(Zone.mk [(Part.mk 0 28000 32000 ((H6 (v1.tdiv 28)).tmod 2)),(Part.mk 1 18000 22000 (H6 (2 - (H6 (2* ((H6 (v1.tdiv 28)).tmod 2))))))] 0)] 0 (Zone.mk v6.Parts 1)) [v7] [])) (some (Map.mk 0 [v4,v5] [(Zone.mk [(Part.mk 0 28000 32000 ((H6 (v1.tdiv 28)).tmod 2)),(Part.mk 1 18000 22000 (H6 (2 - (H6 (2* ((H6 (v1.tdiv 28)).tmod 2))))))] 0)] [] []))) (cond ((v1.tmod 7)==3) ((R4 1 v2 [1,2] [0,0,30000,0]).bind fun v8=>(R4 1 1500 [] [30000,0,60000,0]).bind fun v9=>(R4 1 800 [] [30000,0,54000,10000]).bind fun v10=>some (Map.mk 0 [v8,v9,v10] [] [] [])) (cond ((v1.tmod 7)==4) ((R4 1 v2 [2] [0,0,30000,0]).bind fun v11=>(R4 1 1500 [2] [6000,(-10000),30000,0]).bind fun v12=>(R4 1 1500 [] [30000,0,60000,0]).bind fun v13=>some (Map.mk 0 [v11,v12,v13] [(Zone.mk [(Part.mk 0 25000 30000 1),(Part.mk 1 20000 26000 0),(Part.mk 2 0 5000 0)] 0)] [] [])) (cond ((v1.tmod 7)==5) ((R4 1 v2 [1] [0,0,20000,0]).bind fun v14=>(R4 1 v2 [] [20000,0,50000,0]).bind fun v15=>(R4 3 200 [] [35000,(-8000),35000,8000]).bind fun v16=>some (Map.mk 0 [v14,v15,v16] [(Zone.mk [(Part.mk 1 14000 16000 0),(Part.mk 2 6000 10000 3)] 0)] [] [])) (cond ((v1.tmod 7)==6) ((R4 1 v2 [1,2] [0,0,20000,0]).bind fun v17=>(R4 1 1500 [] [20000,0,50000,0]).bind fun v18=>(R4 1 1000 [] [20000,0,44000,10000]).bind fun v19=>(R4 2 700 [] [36000,(-12000),36000,18000]).bind fun v20=>cond (((H6 (v1.tdiv 28)).tmod 2)==1) ((E8 [(Zone.mk [(Part.mk 1 14000 18000 1),(Part.mk 3 10000 14000 0)] 0),(Zone.mk [(Part.mk 2 14000 21000 1),(Part.mk 3 14500 23000 0)] 0)] 0).bind fun v21=>(E8 (Lj [(Zone.mk [(Part.mk 1 14000 18000 1),(Part.mk 3 10000 14000 0)] 0),(Zone.mk [(Part.mk 2 14000 21000 1),(Part.mk 3 14500 23000 0)] 0)] 0 (Zone.mk v21.Parts 1)) 1).bind fun v22=>(Js ((H6 (v1.tdiv 56)).tmod 31) 1 3).bind fun v23=>(Js ((H6 (v1.tdiv 56)).tmod 17) 2 3).bind fun v24=>some (Map.mk 0 [v17,v18,v19,v20] (Lj (Lj [(Zone.mk [(Part.mk 1 14000 18000 1),(Part.mk 3 10000 14000 0)] 0),(Zone.mk [(Part.mk 2 14000 21000 1),(Part.mk 3 14500 23000 0)] 0)] 0 (Zone.mk v21.Parts 1)) 1 (Zone.mk v22.Parts 2)) [v23,v24] [])) (some (Map.mk 0 [v17,v18,v19,v20] [(Zone.mk [(Part.mk 1 14000 18000 1),(Part.mk 3 10000 14000 0)] 0),(Zone.mk [(Part.mk 2 14000 21000 1),(Part.mk 3 14500 23000 0)] 0)] [] []))) (some (Map.mk 0 [] [] [] [])))))))).bind fun y1=>cond (((H6 (v1.tdiv 1736)).tmod 3)==1) (some (Map.mk ((H6 (v1.tdiv 28)).tmod 5) y1.Lanes y1.Zones y1.Signals [(Work.mk 0 10000 15000 ((H6 (v1.tdiv 5208)).tmod 40) (H6 (((H6 (v1.tdiv 5208)).tmod 40)+20)) (H6 (((H6 (v1.tdiv 208320)).tmod 3)*200)))])) (some (Map.mk ((H6 (v1.tdiv 28)).tmod 5) y1.Lanes y1.Zones y1.Signals []))
theorem Xb(p1 r)(h:Pc p1=some r):PCall prog 29 [(i64 p1)] (.agg (Q8 r)):=by
 refine C4 (fk func29 ntmps29 (fun r=>if r==2 then [1000]else if r==6 then [1001]else if r==9 then [1001,1003]else if r==10 then [1010]else if r==15 then [1001,1002,1004,1006]else if r==17 then [1001,1002,1004,1005,1007]else if r==18 then [1003]else if r==20 then [1001,1002,1005,1007]else if r==21 then [1002]else if r==23 then [1001,1002,1004,1006,1008]else if r==24 then [1002,1006]else if r==30 then [1012]else []) (by with_unfolding_all rfl)) (nl Z) ?_
 unfold Pc at h
 refine A7 (s0:=⟨T [(0,(.d _))],G []⟩) (G1 Z Z) ?_
 refine lr<|fun u1 _=>sm Z<|A1<|B6<|sv Z<|bs h fun v1 hv1 h=>B8 Z Z A2 (GK _ _ _ hv1) (.inl Z) (sv Z<|A1<|B6<|A9 (dl A6 [1500,600,1000,300]) Z Z (sv Z<|sv Z<|sv Z<|bs h fun v2 hv2 h=>sd Z (F0 Z Z hv2 Z)<|sd Z (J8 Z hv2 Z)<|sv Z<|A1<|lr<|fun u4 _=>sm Z<|A1<|A3<|B6<|sv Z<|sv Z<|A1<|bs h fun y1 hy1 h=>F6 (fun s=> ∃g1:(({d:Nat // d∈ [20,30,69,82,102,122]}×Nat)× ({d:Nat // d∈ [44,89,108,132]}×Nat)× ({d:Nat // d∈ [57,154]}×Nat)),Sb ⟨T [(0,(di v1)),(2,(.ptr (2,u1) 0)),(4,(.ptr (4,u4) 0))],G [((2,u1),some<|.box 27 [(di 0),(.d .nilS),(.d .nilS),(.d .nilS),(.d .nilS)]),((4,u4),some<|.box 27 [(di y1.Version),(oS y1.Lanes (g1.1.1.val,g1.1.2)),(oS y1.Zones (g1.2.1.1.val,g1.2.1.2)),(oS y1.Signals (g1.2.2.1.val,g1.2.2.2)),(.d .nilS)]),((g1.1.1.val,g1.1.2),oB 42 5 G5 y1.Lanes),((g1.2.1.1.val,g1.2.1.2),oB 45 2 F4 y1.Zones),((g1.2.2.1.val,g1.2.2.2),oB 48 2 E2 y1.Signals)]⟩ s) ?_ ?_))
 refine A8<|B6<|sv Z<|sv Z<|A1<|cc Z hy1 (fun c1 hy1=> ?_)<|fun c1 hy1=> ?_
 refine K8 fun u7 _=>sv Z<|A9 (dl A6 [0,0,60000,0]) Z Z (bs hy1 fun v3 hv3 hy1=>B8 Z Z (.cons (.refl _) (.cons (.refl _) (.cons DLe.nil A2))) (P1 _ _ _ _ _ hv3) (.inl Z) (Hf (.sl _) (.arr 42 5 (List.map G5 ([v3]:List Lane))) Z Z (sq Z<|Aa Z (gq Z) [(di 0),(.sl (20,u7)),(.d .nilS),(.d .nilS),(.d .nilS)] Z (A1<|E3 ?_))))
 cases hy1
 exact Az ⟨((⟨20, .head _⟩,u7),(⟨44, .head _⟩,0),(⟨57, .head _⟩,0)),(C0 (V4 Z)<|sg Z<|B7 G_hit (.box (cv<|.cons (.of (Q7<|List.cons_ne_nil _ _).symm) cw))<|H7 (gq Z)<|M4<|M4 trivial)⟩
 refine A3<|B6<|sv Z<|sv Z<|A1<|bs hy1 fun y2 hy2 hy1=>F6 (fun s=> ∃g2:Unit,Sb ⟨T [(0,(di v1)),(2,(.ptr (2,u1) 0)),(3,(di v2)),(4,(.ptr (4,u4) 0)),(14,(di<|v1.tmod 7)),(22,(.d (bo y2)))],G [((2,u1),some<|.box 27 [(di 0),(.d .nilS),(.d .nilS),(.d .nilS),(.d .nilS)]),((4,u4),some<|.box 27 [(di 0),(.d .nilS),(.d .nilS),(.d .nilS),(.d .nilS)])]⟩ s) ?_ ?_
 refine cc Z hy2 (fun c2 hy2=> ?_)<|fun c2 hy2=> ?_
 refine B2 ?_
 cases hy2
 exact Az ⟨(),(G1 Z Z)⟩
 refine B9<|sv Z<|sv Z<|A1 ?_
 cases hy2
 exact Az ⟨(),(G1 Z Z)⟩
 rintro _ ⟨g2,q1⟩
 refine A7 q1<|cc Z hy1 (fun c3 hy1=> ?_)<|fun c3 hy1=> ?_
 refine lr<|fun u10 _=>sv Z<|A9 (dl A6 [0,0,50000,0]) Z Z (bs hy1 fun v4 hv4 hy1=>B8 Z Z (.cons (.refl _) (.cons (.refl _) (.cons DLe.nil A2))) (P1 _ _ _ _ _ hv4) (.inl Z) (A9 (dl A6 [30000,(-20000),30000,20000]) Z Z (bs hy1 fun v5 hv5 hy1=>B8 Z Z (.cons (.refl _) (.cons (.refl _) (.cons DLe.nil A2))) (P1 _ _ _ _ _ hv5) (.inl Z) (Hf (.sl _) (.arr 42 5 (List.map G5 ([v4,v5]:List Lane))) Z (Hh G5 _ (fun _=>Z) Z Z ⟨Z,Z,Z,Z,Z,Z,trivial⟩) (sq Z<|Aa Z (gq Z) [(di 0),(.sl (30,u10)),(.d .nilS),(.d .nilS),(.d .nilS)] Z (A1<|lr<|fun u11 _=>sv Z<|sv Z<|sv Z<|sv Z<|sv Z<|sv Z<|sv Z<|sv Z<|sv Z<|sv Z<|A9 (dl H3 [(Part.mk 0 28000 32000 ((H6<|v1.tdiv 28).tmod 2)),(Part.mk 1 18000 22000<|H6 (2 - (H6 (2* ((H6<|v1.tdiv 28).tmod 2)))))]) Z Z (sv Z<|Hf (.sl _) (.arr 45 2 (List.map F4 ([(Zone.mk [(Part.mk 0 28000 32000 ((H6<|v1.tdiv 28).tmod 2)),(Part.mk 1 18000 22000<|H6 (2 - (H6 (2* ((H6<|v1.tdiv 28).tmod 2)))))] 0)]:List Zone))) Z Z (sq Z<|Aa Z (gq Z) [(di 0),(.sl (30,u10)),(.sl (44,u11)),(.d .nilS),(.d .nilS)] Z (A1<|A3<|A7 (s0:=⟨T [(0,(.d _)),(2,(.ptr _ _)),(4,(.ptr _ _))],G [((2,u1),some<|.box 27 _),((4,u4),some<|.box 27 _),((30,u10),some _),((44,u11),some _)]⟩) (G1 Z Z) ?_)))))))))
 refine B9<|sv Z<|sv Z<|sv Z<|A1<|cc Z hy1 (fun c4 hy1=> ?_)<|fun c4 hy1=> ?_
 refine B6<|sq Z<|A9 (.sl _) Z (Bp Z (gq Z) Z) (bs hy1 fun v6 hv6 hy1=>A9 (.aptr _ _ _ _) Z (Ob Z Z (gq Z) hv6) (A9 (.aptr _ _ _ _) Z Z (Lk F4 _ _ _ (0) _ (Zone.mk v6.Parts 1) [(i64 1)] Z Z Z (gq Z) hv6 (nl Z) Z (A1<|K8 fun u14 _=>sv Z<|sv Z<|sv Z<|bs hy1 fun v7 hv7 hy1=>B8 Z Z A2 (Ky _ _ _ _ hv7) (.inl Z) (Hf (.sl _) (.arr 48 2 (List.map E2 ([v7]:List Signal))) Z Z (sq Z<|Aa Z (gq Z) [(di 0),(.sl (30,u10)),(.sl (44,u11)),(.sl (57,u14)),(.d .nilS)] Z (A1<|E3 ?_)))))))
 cases hy1
 exact Az ⟨((⟨30, .tail _ (.head _)⟩,u10),(⟨44, .head _⟩,u11),(⟨57, .head _⟩,u14)),(C0 (V4 Z)<|sg Z<|B7 G_hit (.box (cv<|.cons (.of (Q7<|List.cons_ne_nil _ _).symm) (.cons (.of (Q7<|Vj<|List.cons_ne_nil _ _).symm) (.cons (.of (Q7<|List.cons_ne_nil _ _).symm) cw))))<|H7 (gq Z)<|H7 (gq Z)<|H7 (gq Z) trivial)⟩
 refine B2<|E3 ?_
 cases hy1
 exact Az ⟨((⟨30, .tail _ (.head _)⟩,u10),(⟨44, .head _⟩,u11),(⟨57, .head _⟩,0)),(C0 (V4 Z)<|B7 G_hit (.of Z)<|B7 (gq Z) (.box (cv<|.cons (.of (Q7<|List.cons_ne_nil _ _).symm) (.cons (.of (Q7<|List.cons_ne_nil _ _).symm) cw))) (H7 (gq Z)<|H7 (gq Z)<|M4 trivial))⟩
 refine B6<|sv Z<|sv Z<|A1<|cc Z hy1 (fun c5 hy1=> ?_)<|fun c5 hy1=> ?_
 refine K8 fun u16 _=>sv Z<|A9 (dl A6 [1,2]) Z Z (A9 (dl A6 [0,0,30000,0]) Z Z (bs hy1 fun v8 hv8 hy1=>B8 Z Z A2 (P1 _ _ _ _ _ hv8) (.inl Z) (A9 (dl A6 [30000,0,60000,0]) Z Z (bs hy1 fun v9 hv9 hy1=>B8 Z Z (.cons (.refl _) (.cons (.refl _) (.cons DLe.nil A2))) (P1 _ _ _ _ _ hv9) (.inl Z) (A9 (dl A6 [30000,0,54000,10000]) Z Z (bs hy1 fun v10 hv10 hy1=>B8 Z Z (.cons (.refl _) (.cons (.refl _) (.cons DLe.nil A2))) (P1 _ _ _ _ _ hv10) (.inl Z) (Hf (.sl _) (.arr 42 5 (List.map G5 ([v8,v9,v10]:List Lane))) Z (Hh G5 _ (fun _=>Z) Z Z ⟨Z,Z,Z,Z,Z,Z,Z,Z,Z,trivial⟩) (sq Z<|Aa Z (gq Z) [(di 0),(.sl (69,u16)),(.d .nilS),(.d .nilS),(.d .nilS)] Z (A1<|E3 ?_)))))))))
 cases hy1
 exact Az ⟨((⟨69, .tail _ (.tail _ (.head _))⟩,u16),(⟨44, .head _⟩,0),(⟨57, .head _⟩,0)),(C0 (V4 Z)<|sg Z<|B7 G_hit (.box (cv<|.cons (.of (Q7<|List.cons_ne_nil _ _).symm) cw))<|H7 (gq Z)<|M4<|M4 trivial)⟩
 refine B6<|sv Z<|sv Z<|A1<|cc Z hy1 (fun c6 hy1=> ?_)<|fun c6 hy1=> ?_
 refine lr<|fun u18 _=>sv Z<|A9 (dl A6 [2]) Z Z (A9 (dl A6 [0,0,30000,0]) Z Z (bs hy1 fun v11 hv11 hy1=>B8 Z Z A2 (P1 _ _ _ _ _ hv11) (.inl Z) (A9 (dl A6 [2]) Z Z (A9 (dl A6 [6000,(-10000),30000,0]) Z Z (bs hy1 fun v12 hv12 hy1=>B8 Z Z A2 (P1 _ _ _ _ _ hv12) (.inl Z) (A9 (dl A6 [30000,0,60000,0]) Z Z (bs hy1 fun v13 hv13 hy1=>B8 Z Z (.cons (.refl _) (.cons (.refl _) (.cons DLe.nil A2))) (P1 _ _ _ _ _ hv13) (.inl Z) (Hf (.sl _) (.arr 42 5 (List.map G5 ([v11,v12,v13]:List Lane))) Z (Hh G5 _ (fun _=>Z) Z Z ⟨Z,Z,Z,Z,Z,Z,Z,Z,Z,trivial⟩) (sq Z<|Aa Z (gq Z) [(di 0),(.sl (82,u18)),(.d .nilS),(.d .nilS),(.d .nilS)] Z (A1<|A7 (s0:=⟨T [(0,(.d _)),(2,(.ptr _ _)),(4,(.ptr _ _))],G [((2,u1),some<|.box 27 _),((4,u4),some<|.box 27 _),((82,u18),some _)]⟩) (G1 Z Z) ?_))))))))))
 refine K8 fun u19 _=>sv Z<|sv Z<|sv Z<|A9 (dl H3 [(Part.mk 0 25000 30000 1),(Part.mk 1 20000 26000 0),(Part.mk 2 0 5000 0)]) Z (Ef H3 ([(Part.mk 0 25000 30000 1),(Part.mk 1 20000 26000 0),(Part.mk 2 0 5000 0)]:List Part) (fun _=>Z) Z Z ⟨Z,Z,Z,Z,Z,Z,Z,Z,Z,trivial⟩ (fun _=>Z)) (sv Z<|Hf (.sl _) (.arr 45 2 (List.map F4 ([(Zone.mk [(Part.mk 0 25000 30000 1),(Part.mk 1 20000 26000 0),(Part.mk 2 0 5000 0)] 0)]:List Zone))) Z Z (sq Z<|Aa Z (gq Z) [(di 0),(.sl (82,u18)),(.sl (89,u19)),(.d .nilS),(.d .nilS)] Z (A1<|E3 ?_)))
 cases hy1
 exact Az ⟨((⟨82, .tail _ (.tail _ (.tail _ (.head _)))⟩,u18),(⟨89, .tail _ (.head _)⟩,u19),(⟨57, .head _⟩,0)),(C0 (V4 Z)<|sg Z<|B7 G_hit (.box (cv<|.cons (.of (Q7<|List.cons_ne_nil _ _).symm) (.cons (.of (Q7<|List.cons_ne_nil _ _).symm) cw)))<|H7 (gq Z)<|H7 (gq Z)<|M4 trivial)⟩
 refine B6<|sv Z<|sv Z<|A1<|cc Z hy1 (fun c7 hy1=> ?_)<|fun c7 hy1=> ?_
 refine lr<|fun u21 _=>sv Z<|A9 (dl A6 [1]) Z Z (A9 (dl A6 [0,0,20000,0]) Z Z (bs hy1 fun v14 hv14 hy1=>B8 Z Z A2 (P1 _ _ _ _ _ hv14) (.inl Z) (sv Z<|A9 (dl A6 [20000,0,50000,0]) Z Z (bs hy1 fun v15 hv15 hy1=>B8 Z Z (.cons (.refl _) (.cons (.refl _) (.cons DLe.nil A2))) (P1 _ _ _ _ _ hv15) (.inl Z) (A9 (dl A6 [35000,(-8000),35000,8000]) Z Z (bs hy1 fun v16 hv16 hy1=>B8 Z Z (.cons (.refl _) (.cons (.refl _) (.cons DLe.nil A2))) (P1 _ _ _ _ _ hv16) (.inl Z) (Hf (.sl _) (.arr 42 5 (List.map G5 ([v14,v15,v16]:List Lane))) Z (Hh G5 _ (fun _=>Z) Z Z ⟨Z,Z,Z,Z,Z,Z,Z,Z,Z,trivial⟩) (sq Z<|Aa Z (gq Z) [(di 0),(.sl (102,u21)),(.d .nilS),(.d .nilS),(.d .nilS)] Z (A1<|A7 (s0:=⟨T [(0,(.d _)),(2,(.ptr _ _)),(4,(.ptr _ _))],G [((2,u1),some<|.box 27 _),((4,u4),some<|.box 27 _),((102,u21),some _)]⟩) (G1 Z Z) ?_)))))))))
 refine K8 fun u22 _=>sv Z<|sv Z<|A9 (dl H3 [(Part.mk 1 14000 16000 0),(Part.mk 2 6000 10000 3)]) Z Z (sv Z<|Hf (.sl _) (.arr 45 2 (List.map F4 ([(Zone.mk [(Part.mk 1 14000 16000 0),(Part.mk 2 6000 10000 3)] 0)]:List Zone))) Z Z (sq Z<|Aa Z (gq Z) [(di 0),(.sl (102,u21)),(.sl (108,u22)),(.d .nilS),(.d .nilS)] Z (A1<|E3 ?_)))
 cases hy1
 exact Az ⟨((⟨102, .tail _ (.tail _ (.tail _ (.tail _ (.head _))))⟩,u21),(⟨108, .tail _ (.tail _ (.head _))⟩,u22),(⟨57, .head _⟩,0)),(C0 (V4 Z)<|sg Z<|B7 G_hit (.box (cv<|.cons (.of (Q7<|List.cons_ne_nil _ _).symm) (.cons (.of (Q7<|List.cons_ne_nil _ _).symm) cw)))<|H7 (gq Z)<|H7 (gq Z)<|M4 trivial)⟩
 refine B6<|sv Z<|sv Z<|A1<|cc Z hy1 (fun c8 hy1=> ?_)<|fun c8 hy1=> ?_
 refine lr<|fun u24 _=>sv Z<|A9 (dl A6 [1,2]) Z Z (A9 (dl A6 [0,0,20000,0]) Z Z (bs hy1 fun v17 hv17 hy1=>B8 Z Z A2 (P1 _ _ _ _ _ hv17) (.inl Z) (A9 (dl A6 [20000,0,50000,0]) Z Z (bs hy1 fun v18 hv18 hy1=>B8 Z Z (.cons (.refl _) (.cons (.refl _) (.cons DLe.nil A2))) (P1 _ _ _ _ _ hv18) (.inl Z) (A9 (dl A6 [20000,0,44000,10000]) Z Z (bs hy1 fun v19 hv19 hy1=>B8 Z Z (.cons (.refl _) (.cons (.refl _) (.cons DLe.nil A2))) (P1 _ _ _ _ _ hv19) (.inl Z) (A9 (dl A6 [36000,(-12000),36000,18000]) Z Z (bs hy1 fun v20 hv20 hy1=>B8 Z Z (.cons (.refl _) (.cons (.refl _) (.cons DLe.nil A2))) (P1 _ _ _ _ _ hv20) (.inl Z) (Hf (.sl _) (.arr 42 5 (List.map G5 ([v17,v18,v19,v20]:List Lane))) Z (Hh G5 _ (fun _=>Z) Z Z ⟨Z,Z,Z,Z,Z,Z,Z,Z,Z,Z,Z,Z,trivial⟩) (sq Z<|Aa Z (gq Z) [(di 0),(.sl (122,u24)),(.d .nilS),(.d .nilS),(.d .nilS)] Z (A1<|A3<|A7 (s0:=⟨T [(0,(.d _)),(2,(.ptr _ _)),(4,(.ptr _ _))],G [((2,u1),some<|.box 27 _),((4,u4),some<|.box 27 _),((122,u24),some _)]⟩) (G1 Z Z) ?_)))))))))))
 refine K8 fun u25 _=>sv Z<|sv Z<|A9 (dl H3 [(Part.mk 1 14000 18000 1),(Part.mk 3 10000 14000 0)]) Z Z (sv Z<|sv Z<|sv Z<|A9 (dl H3 [(Part.mk 2 14000 21000 1),(Part.mk 3 14500 23000 0)]) Z Z (sv Z<|Hf (.sl _) (.arr 45 2 (List.map F4 ([(Zone.mk [(Part.mk 1 14000 18000 1),(Part.mk 3 10000 14000 0)] 0),(Zone.mk [(Part.mk 2 14000 21000 1),(Part.mk 3 14500 23000 0)] 0)]:List Zone))) Z Z (sq Z<|Aa Z (gq Z) [(di 0),(.sl (122,u24)),(.sl (132,u25)),(.d .nilS),(.d .nilS)] Z (A1<|B6<|sv Z<|sv Z<|sv Z<|sv Z<|A1<|cc Z hy1 (fun c9 hy1=> ?_)<|fun c9 hy1=> ?_))))
 refine A3<|HR fun _ _=>Hg (.ptr _ _) Z Z (Hg (.sl _) Z (Bp Z G_hit Z) (Hg (.ptr _ _) Z Z (Hg (.sl _) Z (Bp Z G_hit Z) (bs hy1 fun v21 hv21 hy1=>Hg (.aptr _ _ _ _) Z (Ob Z Z (gq Z) hv21) (Hg (.aptr _ _ _ _) Z Z (DQ F4 _ _ _ (0) _ (Zone.mk v21.Parts 1) [(i64 1)] Z Z Z (gq Z) hv21 (nl Z) Z (bs hy1 fun v22 hv22 hy1=>Hg (.aptr _ _ _ _) Z (Ob Z Z G_hit hv22) (Hg (.aptr _ _ _ _) Z Z (DQ F4 _ _ _ (1) _ (Zone.mk v22.Parts 2) [(i64 2)] Z Z Z G_hit hv22 (nl Z) Z (SP ⟨Z,?_⟩))))))))))
 refine A7 (s0:=⟨T [(0,(.d _)),(2,(.ptr _ _)),(4,(.ptr _ _))],G [((2,u1),some<|.box 27 _),((4,u4),some<|.box 27 _),((122,u24),some _),((132,u25),some _)]⟩) (G1 Z Z) ?_
 refine K8 fun u28 _=>sv Z<|sv Z<|sv Z<|bs hy1 fun v23 hv23 hy1=>B8 Z Z A2 (Ky _ _ _ _ hv23) (.inl Z) (sv Z<|sv Z<|sv Z<|bs hy1 fun v24 hv24 hy1=>B8 Z Z A2 (Ky _ _ _ _ hv24) (.inl Z) (Hf (.sl _) (.arr 48 2 (List.map E2 ([v23,v24]:List Signal))) Z Z (sq Z<|Aa Z (gq Z) [(di 0),(.sl (122,u24)),(.sl (132,u25)),(.sl (154,u28)),(.d .nilS)] Z (A1<|E3 ?_))))
 cases hy1
 exact Az ⟨((⟨122, .tail _ (.tail _ (.tail _ (.tail _ (.tail _ (.head _)))))⟩,u24),(⟨132, .tail _ (.tail _ (.tail _ (.head _)))⟩,u25),(⟨154, .tail _ (.head _)⟩,u28)),(C0 (V4 Z)<|sg Z<|B7 G_hit (.box (cv<|.cons (.of (Q7<|List.cons_ne_nil _ _).symm) (.cons (.of (Q7<|Vj<|Vj<|List.cons_ne_nil _ _).symm) (.cons (.of (Q7<|List.cons_ne_nil _ _).symm) cw))))<|H7 (gq Z)<|H7 (gq Z)<|H7 (gq Z) trivial)⟩
 refine B2<|E3 ?_
 cases hy1
 exact Az ⟨((⟨122, .tail _ (.tail _ (.tail _ (.tail _ (.tail _ (.head _)))))⟩,u24),(⟨132, .tail _ (.tail _ (.tail _ (.head _)))⟩,u25),(⟨57, .head _⟩,0)),(C0 (V4 Z)<|sg Z<|B7 G_hit (.box (cv<|.cons (.of (Q7<|List.cons_ne_nil _ _).symm) (.cons (.of (Q7<|List.cons_ne_nil _ _).symm) cw)))<|H7 (gq Z)<|H7 (gq Z)<|M4 trivial)⟩
 refine B2<|E3 ?_
 cases hy1
 exact Az ⟨((⟨20, .head _⟩,0),(⟨44, .head _⟩,0),(⟨57, .head _⟩,0)),(C0 (V4 Z)<|B7 G_hit (.of Z)<|sg Z<|M4<|M4<|M4 trivial)⟩
 rintro _ ⟨g1,q2⟩
 refine A7 q2<|B6<|sv Z<|sv Z<|sv Z<|sq Z<|Aa Z (gq Z) [(di ((H6<|v1.tdiv 28).tmod 5)),(oS y1.Lanes (g1.1.1.val,g1.1.2)),(oS y1.Zones (g1.2.1.1.val,g1.2.1.2)),(oS y1.Signals (g1.2.2.1.val,g1.2.2.2)),(.d .nilS)] Z (A1<|A3<|B6<|sv Z<|sv Z<|sv Z<|sv Z<|A1<|cc Z h (fun c10 h=> ?_)<|fun c10 h=> ?_)
 refine B9<|sv Z<|sv Z<|sv Z<|sv Z<|sv Z<|sv Z<|sv Z<|sv Z<|sv Z<|sv Z<|sv Z<|sv Z<|A9 (dl I6 [(Work.mk 0 10000 15000 ((H6<|v1.tdiv 5208).tmod 40) (H6 (((H6<|v1.tdiv 5208).tmod 40)+20)) (H6 (((H6<|v1.tdiv 208320).tmod 3)*200)))]) Z Z (sq Z<|Aa Z G_hit [(di ((H6<|v1.tdiv 28).tmod 5)),(oS y1.Lanes (g1.1.1.val,g1.1.2)),(oS y1.Zones (g1.2.1.1.val,g1.2.1.2)),(oS y1.Signals (g1.2.2.1.val,g1.2.2.2)),(dl I6 [(Work.mk 0 10000 15000 ((H6<|v1.tdiv 5208).tmod 40) (H6 (((H6<|v1.tdiv 5208).tmod 40)+20)) (H6 (((H6<|v1.tdiv 208320).tmod 3)*200)))])] Z (A1<|A3<|A7 (s0:=⟨T [(2,(.ptr (2,u1) 0)),(4,(.ptr (4,u4) 0))],G [((2,u1),some<|.box 27 [(di 0),(.d .nilS),(.d .nilS),(.d .nilS),(.d .nilS)]),((4,u4),some<|.box 27 [(di ((H6<|v1.tdiv 28).tmod 5)),(oS y1.Lanes (g1.1.1.val,g1.1.2)),(oS y1.Zones (g1.2.1.1.val,g1.2.1.2)),(oS y1.Signals (g1.2.2.1.val,g1.2.2.2)),(dl I6 [(Work.mk 0 10000 15000 ((H6<|v1.tdiv 5208).tmod 40) (H6 (((H6<|v1.tdiv 5208).tmod 40)+20)) (H6 (((H6<|v1.tdiv 208320).tmod 3)*200)))])]),((g1.1.1.val,g1.1.2),oB 42 5 G5 y1.Lanes),((g1.2.1.1.val,g1.2.1.2),oB 45 2 F4 y1.Zones),((g1.2.2.1.val,g1.2.2.2),oB 48 2 E2 y1.Signals)]⟩) (C0 (V4 Z)<|sg Z<|B7 G_hit (.of Z)<|C7 (PI g1.1.1.property 4 Z G_hit)<|C7 (PI g1.2.1.1.property 4 Z<|A4 (Q3 g1.2.1.1.property g1.1.1.property Z) G_hit)<|C7 (PI g1.2.2.1.property 4 Z<|A4 (Q3 g1.2.2.1.property g1.1.1.property Z)<|A4 (Q3 g1.2.2.1.property g1.2.1.1.property Z) G_hit) trivial) ?_))
 refine B9<|A9 (Ao [(di ((H6<|v1.tdiv 28).tmod 5)),(oS y1.Lanes (g1.1.1.val,g1.1.2)),(oS y1.Zones (g1.2.1.1.val,g1.2.1.2)),(oS y1.Signals (g1.2.2.1.val,g1.2.2.2)),(dl I6 [(Work.mk 0 10000 15000 ((H6<|v1.tdiv 5208).tmod 40) (H6 (((H6<|v1.tdiv 5208).tmod 40)+20)) (H6 (((H6<|v1.tdiv 208320).tmod 3)*200)))])]) Z (B5 Z (gq Z) Z Z) (Dp _ _ _ _ _ (Aj _) Z Z G_hit (nl Z) [(di ((H6<|v1.tdiv 28).tmod 5)),(oS y1.Lanes (g1.1.1.val,g1.1.2)),(oS y1.Zones (g1.2.1.1.val,g1.2.1.2)),(oS y1.Signals (g1.2.2.1.val,g1.2.2.2)),(dl I6 [(Work.mk 0 10000 15000 ((H6<|v1.tdiv 5208).tmod 40) (H6 (((H6<|v1.tdiv 5208).tmod 40)+20)) (H6 (((H6<|v1.tdiv 208320).tmod 3)*200)))])] Z (A1<|B4 ?_))
 cases h
 exact B0 (.inr Z) (C1 (I3 Z G_hit (nl Z) Z)<|Im<|rD<|J5 (Cx<|PI g1.1.1.property 3 Z G_hit)<|J5 (Cx<|PI g1.2.1.1.property 3 Z<|A4 (Q3 g1.2.1.1.property g1.1.1.property Z) G_hit)<|J5 (Cx<|PI g1.2.2.1.property 3 Z<|A4 (Q3 g1.2.2.1.property g1.1.1.property Z)<|A4 (Q3 g1.2.2.1.property g1.2.1.1.property Z) G_hit)<|rD M3) (.agg (ca Z<|.cons ⟨Cw,Z⟩ (.cons ⟨Cw,Z⟩ (.cons ⟨Cw,Z⟩ (cz Z)))))
 refine B2<|B6<|A9 (Ao [(di ((H6<|v1.tdiv 28).tmod 5)),(oS y1.Lanes (g1.1.1.val,g1.1.2)),(oS y1.Zones (g1.2.1.1.val,g1.2.1.2)),(oS y1.Signals (g1.2.2.1.val,g1.2.2.2)),(.d .nilS)]) Z (B5 Z G_hit Z Z) (Dp _ _ _ _ _ (Aj _) Z Z (gq Z) (nl Z) [(di ((H6<|v1.tdiv 28).tmod 5)),(oS y1.Lanes (g1.1.1.val,g1.1.2)),(oS y1.Zones (g1.2.1.1.val,g1.2.1.2)),(oS y1.Signals (g1.2.2.1.val,g1.2.2.2)),(.d .nilS)] Z (A1<|B4 ?_))
 cases h
 exact B0 (.inr Z) (C1 (I3 Z G_hit (nl Z) Z)<|Im<|rD<|J5 (Cx<|PI g1.1.1.property 4 Z G_hit)<|J5 (Cx<|PI g1.2.1.1.property 4 Z<|A4 (Q3 g1.2.1.1.property g1.1.1.property Z) G_hit)<|J5 (Cx<|PI g1.2.2.1.property 4 Z<|A4 (Q3 g1.2.2.1.property g1.1.1.property Z)<|A4 (Q3 g1.2.2.1.property g1.2.1.1.property Z) G_hit)<|rD M3) (.agg (ca Z<|.cons ⟨Cw,Z⟩ (.cons ⟨Cw,Z⟩ (.cons ⟨Cw,Z⟩ (.cons ⟨DLe.nil,Z⟩ .nil)))))
def T3 (p1:Int)(p2:Int)(p3:Int):Option Bool:=
  some ((decide (p2≤p1))&& (decide (p1≤p3)))
theorem T0(p1 p2 p3 r)(h:T3 p1 p2 p3=some r):PCall prog 134 [(i64 p1),(i64 p2),(i64 p3)] (bo r):=by
 refine C4 (fk func134 ntmps134 m0 (by with_unfolding_all rfl)) (nl Z) ?_
 unfold T3 at h
 refine A7 (s0:=⟨T [(0,(.d _)),(1,(.d _)),(2,(.d _))],G []⟩) (G1 Z Z) ?_
 refine B6<|sv Z<|A1<|B6<|sv Z<|sv Z<|sv Z<|sv Z<|gt Z (fun _=>Z)<|gt Z (fun _=>Z)<|gt Z (fun w3=>(J3 (A5 w3) (A5 w3) Z))<|sa Z Z Z<|sv Z<|A1<|B4 ?_
 cases h
 exact B0 (.inr Z) (C1 (B1 Z) D4) (.refl _)
def W4 (p1:RoadsCheck):Option Int:=
  (T3 p1.Map_.Version 0 1099511627776).bind fun v1=>cond (!v1) (some 2) (cond ((p1.Map_.Lanes.length:Int)==0) (some 6) (cond ((((decide ((p1.Map_.Lanes.length:Int)>12))||(decide ((p1.Map_.Zones.length:Int)>12)))||(decide ((p1.Map_.Signals.length:Int)>4)))||(decide ((p1.Map_.Works.length:Int)>8))) (some 8) (some 0)))
theorem Mh(p1 r)(h:W4 p1=some r):PCall prog 65 [(.agg (Q8 p1.Map_))] (i64 r):=by
 refine C4 (fk func65 ntmps65 m0 (by with_unfolding_all rfl)) (nl Z) ?_
 unfold W4 at h
 refine A7 (s0:=⟨T [(0,(.d _))],G []⟩) (G1 Z Z) ?_
 refine B6<|sm Z<|sv Z<|A1<|A3<|A8<|B6<|sq Z<|sp Z Z<|sl Z G_hit Z<|bs h fun v1 hv1 h=>B8 Z Z A2 (T0 _ _ _ _ hv1) (.inl Z) (A9 (.d (bo (!v1))) Z Z (sv Z<|A1<|cc Z h (fun c1 h=> ?_)<|fun c1 h=> ?_))
 refine B6<|sv Z<|A1<|B4 ?_
 cases h
 exact B0 (.inr Z) (C1 (B1 Z) D4) (.refl _)
 refine B6<|sq Z<|sp Z Z<|sl Z G_hit Z<|sd Z (D6 Z)<|sv Z<|sv Z<|A1<|cc Z h (fun c2 h=> ?_)<|fun c2 h=> ?_
 refine B6<|sv Z<|A1<|B4 ?_
 cases h
 exact B0 (.inr Z) (C1 (B1 Z) D4) (.refl _)
 refine B6<|sq Z<|sp Z Z<|sl Z G_hit Z<|sd Z (D6 Z)<|sv Z<|sv Z<|gp Z (X3 Z) (fun _=>Z) ?_
 refine Ab _ (.ptr _ _) Z (X3 Z) (fun w2=>(by simp only [A5 w2];rfl)) ?_
 refine gf Z (vl Z G_hit Z)<|gf Z (fun w4=>(D6<|A5 w4))<|gf Z (vb Z Z Z)<|sd Z (Gi Z Z<|fun hc=>A5<|Bd hc)<|sv Z<|gp Z (X3 Z) (fun _=>Z) ?_
 refine Ab _ (.ptr _ _) Z (X3 Z) (fun w7=>(by simp only [A5 w7];rfl)) ?_
 refine gf Z (vl Z G_hit Z)<|gf Z (fun w9=>(D6<|A5 w9))<|gf Z (vb Z Z Z)<|sd Z (Gi Z Z<|fun hc=>A5<|Bd hc)<|sv Z<|gp Z (X3 Z) (fun _=>Z) ?_
 refine Ab _ (.ptr _ _) Z (X3 Z) (fun w12=>(by simp only [A5 w12];rfl)) ?_
 refine gf Z (vl Z G_hit Z)<|gf Z (fun w14=>(D6<|A5 w14))<|gf Z (vb Z Z Z)<|sd Z (Gi Z Z<|fun hc=>A5<|Bd hc)<|sv Z<|A1<|cc Z h (fun c3 h=> ?_)<|fun c3 h=> ?_
 refine A3<|A7 (s0:=⟨T [],G []⟩) (G1 Z Z) ?_
 refine B9<|sv Z<|A1<|B4 ?_
 cases h
 exact B0 (.inr Z) (C1 (B1 Z) D4) (.refl _)
 refine B2<|E3<|A3<|A7 (s0:=⟨T [],G []⟩) (G1 Z Z) ?_
 refine B9<|sv Z<|A1<|B4 ?_
 cases h
 exact B0 (.inr Z) (C1 (B1 Z) D4) (.refl _)
def Fl (p1:Int):Option (Int×Int×Int):=
  cond ((decide (p1<0))||(decide (p1≥4))) (some (0,0,0)) ((E8 ([(0,0,0),(2000,30,90),(1000,20,60),(300,100,300)]:List (Int×Int×Int)) p1).bind fun v1=>some (v1.1,v1.2.1,v1.2.2))
theorem Ms(p1 r)(h:Fl p1=some r):PCall prog 169 [(i64 p1)] (.tup [(i64 r.1),(i64 r.2.1),(i64 r.2.2)]):=by
 refine C4 (fk func169 ntmps169 m0 (by with_unfolding_all rfl)) (nl Z) ?_
 unfold Fl at h
 refine A7 (s0:=⟨T [(0,(.d _))],G []⟩) (G1 Z Z) ?_
 refine B6<|sv Z<|sv Z<|sv Z<|A1<|B6<|sv Z<|sv Z<|sv Z<|sv Z<|sm Z<|Aa Z G_hit [(di 0),(di 0),(di 0),(di 2000),(di 30),(di 90),(di 1000),(di 20),(di 60),(di 300),(di 100),(di 300)] Z (A1<|A3<|B6<|sv Z<|sv Z<|sv Z<|gf Z (fun _=>Z)<|gf Z (vb Z Z Z)<|sd Z (Gi Z Z<|fun hc=>A5<|Bd hc)<|A1<|cc Z h (fun c1 h=> ?_)<|fun c1 h=> ?_)
 refine B6<|sv Z<|sv Z<|sv Z<|A1<|B4 ?_
 cases h
 exact B0 (.inr Z) (HO (B1 Z) (B1 Z) (B1 Z) D4 D4 D4) (.refl _)
 refine B2<|lr<|fun u5 _=>sv Z<|bs h fun v1 hv1 h=>sp Z (Rv Z Z hv1 Z)<|sd Z (NL (f:=VY) Z G_hit hv1 (fun _=>Z) Z Z)<|sm Z<|Aa Z G_hit [(di v1.1),(di v1.2.1),(di v1.2.2)] Z (A1<|A3<|A7 (s0:=⟨T [(6,(.ptr _ _))],G [((6,u5),some<|.box 249 _)]⟩) (G1 Z Z) ?_)
 refine Q1 Z<|sq Z<|sl Z G_hit Z<|sq Z<|sl Z G_hit Z<|sq Z<|sl Z G_hit Z<|sv Z<|sv Z<|sv Z<|A1<|B4 ?_
 cases h
 exact B0 (.inr Z) (HO (B1 Z) (B1 Z) (B1 Z) D4 D4 D4) (.refl _)
def Co (p1:(List Spot))(x1:Int):Option (Stp Int (Sum Unit Bool)):=
  cond (decide (x1< (p1.length:Int))) ((E8 p1 x1).bind fun v1=>cond ((decide ((Fi false v1.X v1.Y)< (-16777216)))||(decide ((Fi true v1.X v1.Y)>16777216))) (some (.out (.inr false))) (some (.go (H6 (x1+1))))) (some (.out (.inl ())))
def Fc [Lp](p1:(List Spot)):Option Bool:=
  thenS (loop (Co p1) 0) (fun _=>some true) (fun r=>some r)
theorem Yg(p1 r)(h:Fc p1=some r):PCall prog 233 [(.list (List.map P0 p1))] (bo r):=by
 refine C4 (fk func233 ntmps233 m0 (by with_unfolding_all rfl)) (nl Z) ?_
 unfold Fc at h
 refine A7 (s0:=⟨T [(0,(.d _))],G []⟩) (G1 Z Z) ?_
 refine B6<|sv Z<|A1<|A3<|B6<|sv Z<|sd Z (D6 Z)<|sv Z<|A1<|js h fun z1 hz1 h=>F6 (fun s=> ∃(y1:Unit) (g1:Unit),z1= .inl y1∧Sb ⟨T [],G []⟩ s) ?_ ?_
 refine A8<|G0 (Co p1) (fun (x1:Int) (g2:Unit)=>⟨T [(5,(dl P0 p1)),(6,(di (p1.length:Int))),(7,(di x1))],G []⟩) 0 () _ hz1 (G1 Z Z) ?_
 intro x1 g2 z2 hz2 ez2
 unfold Co at hz2
 refine B6<|sv Z<|A1<|A3<|cc Z hz2 (fun c1 hz2=> ?_)<|fun c1 hz2=> ?_
 refine B2<|A3<|A8<|B6<|bs hz2 fun v1 hv1 hz2=>sd Z (F0 Z Z hv1 Z)<|sd Z (C8 Z hv1 Z Z)<|sm Z<|Aa Z G_hit [(di v1.X),(di v1.Y)] Z (A1<|B6<|sq Z<|sl Z G_hit Z<|sq Z<|sl Z G_hit Z<|sv Z<|sv Z<|sv Z<|gp Z (X3 Z) (fun _=>Z) (gf Z (vl Z G_hit Z)<|gp Z (X3 Z) (fun _=>Z) (gf Z (vl Z G_hit Z) ?_)))
 refine gf Z (fun w5=>(by simp only [A5 w5];rfl)) ?_
 refine gf Z (vb Z Z Z)<|sd Z (Gi Z Z<|fun hc=>A5<|Bd hc)<|A1<|cc Z hz2 (fun c2 hz2=> ?_)<|fun c2 hz2=> ?_
 refine A3<|A7 (s0:=⟨T [],G []⟩) (G1 Z Z) ?_
 refine B9<|sv Z<|A1<|B4 ?_
 cases hz2
 obtain rfl:=ez2 _ rfl
 refine ⟨nofun,G6 ?_⟩
 rw [bM]at h
 cases h
 exact B0 (.inr Z) (C1 (B1 Z) D4) (.refl _)
 refine B2<|E3<|A7 (s0:=⟨T [(5,(.d _)),(6,(.d _)),(7,(.d _))],G []⟩) (G1 Z Z) ?_
 refine B9<|sv Z<|sv Z<|A1<|G9 ?_
 cases hz2
 exact ⟨Z,(),(G1 Z Z)⟩
 refine D8 Z ?_
 cases hz2
 obtain rfl:=ez2 _ rfl
 refine ⟨nofun,D1 Z<|Az ?_⟩
 exact ⟨_,(),Z,(G1 Z Z)⟩
 rintro _ ⟨y1,g1,rfl,q1⟩
 rw [bL]at h
 refine A7 q1<|B6<|sv Z<|A1<|B4 ?_
 cases h
 exact B0 (.inr Z) (C1 (B1 Z) D4) (.refl _)
def Hy (p1:Spot)(p2:Spot):Option CurveVector:=
  some (CurveVector.mk (H6 (p2.X - p1.X)) (H6 (p2.Y - p1.Y)))
theorem Ps(p1 p2 r)(h:Hy p1 p2=some r):PCall prog 234 [(.agg [(i64 p1.X),(i64 p1.Y)]),(.agg [(i64 p2.X),(i64 p2.Y)])] (.agg [(i64 r.x),(i64 r.y)]):=by
 refine C4 (fk func234 ntmps234 m0 (by with_unfolding_all rfl)) (nl Z) ?_
 unfold Hy at h
 refine A7 (s0:=⟨T [(0,(.d _)),(1,(.d _))],G []⟩) (G1 Z Z) ?_
 refine B6<|sm Z<|sn Z Z<|sm Z<|A1<|B6<|sq Z<|sl Z (gq Z) Z (sq Z<|sl Z (gq Z) Z (sv Z<|sq Z<|sl Z (gq Z) Z (sq Z<|sl Z (gq Z) Z (sv Z<|sv Z<|Aa Z G_hit [(di<|H6 (p2.X - p1.X)),(di<|H6 (p2.Y - p1.Y))] Z (A1<|B4 ?_)))))
 cases h
 exact B0 (.inr Z) (C1 (I3 Z G_hit (nl Z) Z) D4) (.refl _)
def X9 (p1:CurveVector)(p2:CurveVector):Option Int:=
  some (H6 ((H6 (p1.x*p2.x))+ (H6 (p1.y*p2.y))))
theorem Fz(p1 p2 r)(h:X9 p1 p2=some r):PCall prog 236 [(.agg [(i64 p1.x),(i64 p1.y)]),(.agg [(i64 p2.x),(i64 p2.y)])] (i64 r):=by
 refine C4 (fk func236 ntmps236 m0 (by with_unfolding_all rfl)) (nl Z) ?_
 unfold X9 at h
 refine A7 (s0:=⟨T [(0,(.d _)),(1,(.d _))],G []⟩) (G1 Z Z) ?_
 refine B6<|sm Z<|sn Z Z<|sv Z<|A1<|B6<|sq Z<|sl Z (gq Z) Z (sq Z<|sl Z G_hit Z<|sv Z<|sq Z<|sl Z (gq Z) Z (sq Z<|sl Z G_hit Z<|sv Z<|sv Z<|sv Z<|A1<|B4 ?_))
 cases h
 exact B0 (.inr Z) (C1 (B1 Z) D4) (.refl _)
def Gc (p1:Int)(x1:(Int×Int)):Option (Stp (Int×Int) Int):=
  cond (decide (x1.1<x1.2)) (cond (decide ((H6 ((H6 ((H6 (x1.1+x1.2)).tdiv 2))* (H6 ((H6 (x1.1+x1.2)).tdiv 2))))<p1)) (some (.go ((H6 ((H6 ((H6 (x1.1+x1.2)).tdiv 2))+1)),x1.2))) (some (.go (x1.1,(H6 ((H6 (x1.1+x1.2)).tdiv 2)))))) (some (.out x1.1))
def Cp [Lp](p1:Int):Option (Int×Bool):=
  (loop (Gc p1) (0,67108864)).bind fun y1=>some (y1,((H6 (y1*y1))==p1))
theorem Pt(p1 r)(h:Cp p1=some r):PCall prog 235 [(i64 p1)] (.tup [(i64 r.1),(bo r.2)]):=by
 refine C4 (fk func235 ntmps235 m0 (by with_unfolding_all rfl)) (nl Z) ?_
 unfold Cp at h
 refine A7 (s0:=⟨T [(0,(.d _))],G []⟩) (G1 Z Z) ?_
 refine B6<|sv Z<|sv Z<|A1<|B6<|sv Z<|sv Z<|A1<|A3<|bs h fun y1 hy1 h=>F6 (fun s=> ∃g1:Unit,Sb ⟨T [(0,(di p1)),(4,(di y1))],G []⟩ s) ?_ ?_
 refine A8<|G0 (Gc p1) (fun (x1:(Int×Int)) (g2:Unit)=>⟨T [(0,(di p1)),(4,(di x1.1)),(5,(di x1.2))],G []⟩) (0,67108864) () _ hy1 (G1 Z Z) ?_
 intro x1 g2 z1 hz1 ez1
 unfold Gc at hz1
 refine A3<|B6<|sv Z<|sv Z<|sv Z<|A1<|cc Z hz1 (fun c1 hz1=> ?_)<|fun c1 hz1=> ?_
 refine B2<|A8<|B6<|sv Z<|sv Z<|sv Z<|sv Z<|sv Z<|A1<|B6<|sv Z<|sv Z<|sv Z<|sv Z<|sv Z<|A1<|cc Z hz1 (fun c2 hz1=> ?_)<|fun c2 hz1=> ?_
 refine B9<|sv Z<|sv Z<|sv Z<|A1<|E3<|G9 ?_
 cases hz1
 exact ⟨Z,(),(G1 Z Z)⟩
 refine B9<|sv Z<|sv Z<|A1<|E3<|G9 ?_
 cases hz1
 exact ⟨Z,(),(G1 Z Z)⟩
 refine D8 Z ?_
 cases hz1
 obtain rfl:=ez1 _ rfl
 refine ⟨nofun,D1 Z<|Az ?_⟩
 exact ⟨(),(G1 Z Z)⟩
 rintro _ ⟨g1,q1⟩
 refine A7 q1<|B6<|sv Z<|sv Z<|sv Z<|sv Z<|sv Z<|sv Z<|sv Z<|sv Z<|A1<|B4 ?_
 cases h
 exact B0 (.inr Z) (Kn (B1 Z) (B1 Z) D4 D4) (.refl _)
def U1 [Lp](p1:Curve)(x1:(Int×CurveVector)):Option (Stp (Int×CurveVector) (Sum Unit Int)):=
  cond (decide (x1.1< (H6 ((p1.Pts.length:Int) - 1)))) ((E8 p1.Pts x1.1).bind fun v2=>(E8 p1.Pts (H6 (x1.1+1))).bind fun v3=>(Hy v2 v3).bind fun v4=>(X9 v4 v4).bind fun v5=>(Cp v5).bind fun v6=>cond (!v6.2) (some (.out (.inr 3))) (cond ((decide (v6.1<1000))||(decide (v6.1>1048576))) (some (.out (.inr 2))) (((cond (decide (x1.1>0)) (X9 x1.2 v4) (some default))).bind fun v7=>cond ((decide (x1.1>0))&& (decide (v7≤0))) (some (.out (.inr 12))) (some (.go ((H6 (x1.1+1)),v4)))))) (some (.out (.inl ())))
def Ca [Lp](p1:Curve):Option Int:=
  cond (decide ((p1.Pts.length:Int)<2)) (some 6) (cond (decide ((p1.Pts.length:Int)>16)) (some 5) ((Fc p1.Pts).bind fun v1=>cond (!v1) (some 2) (thenS (loop (U1 p1) (0,(CurveVector.mk 0 0))) (fun _=>some 0) (fun r=>some r))))
theorem Of(p1 r)(h:Ca p1=some r):PCall prog 170 [(.agg [(.list (List.map P0 p1.Pts))])] (i64 r):=by
 refine C4 (fk func170 ntmps170 m0 (by with_unfolding_all rfl)) (nl Z) ?_
 unfold Ca at h
 refine A7 (s0:=⟨T [(0,(.d _))],G []⟩) (G1 Z Z) ?_
 refine lr<|fun u1 _=>sm Z<|sv Z<|A1<|A3<|A8<|B6<|sq Z<|sl Z G_hit Z<|sd Z (D6 Z)<|sv Z<|sv Z<|A1<|cc Z h (fun c1 h=> ?_)<|fun c1 h=> ?_
 refine B6<|sv Z<|A1<|B4 ?_
 cases h
 exact B0 (.inr Z) (C1 (B1 Z) D4) (.refl _)
 refine B6<|sq Z<|sl Z G_hit Z<|sd Z (D6 Z)<|sv Z<|sv Z<|A1<|cc Z h (fun c2 h=> ?_)<|fun c2 h=> ?_
 refine B6<|sv Z<|A1<|B4 ?_
 cases h
 exact B0 (.inr Z) (C1 (B1 Z) D4) (.refl _)
 refine B6<|sq Z<|sl Z G_hit Z<|bs h fun v1 hv1 h=>B8 Z Z A2 (Yg _ _ hv1) (.inl Z) (A9 (.d (bo (!v1))) Z Z (sv Z<|A1<|cc Z h (fun c3 h=> ?_)<|fun c3 h=> ?_))
 refine B6<|sv Z<|A1<|B4 ?_
 cases h
 exact B0 (.inr Z) (C1 (B1 Z) D4) (.refl _)
 refine B2<|E3<|lr<|fun u8 _=>sm Z<|A1<|A3<|B6<|sq Z<|sl Z (gq Z) Z (sd Z (D6 Z)<|sv Z<|sv Z<|A1<|js h fun z1 hz1 h=>F6 (fun s=> ∃(y1:Unit) (g1:Unit),z1= .inl y1∧Sb ⟨T [],G []⟩ s) ?_ ?_)
 refine A8<|G0 (U1 p1) (fun (x1:(Int×CurveVector)) (g2:Unit)=>⟨T [(1,(.ptr (1,u1) 0)),(3,(.ptr (3,u8) 0)),(26,(di<|H6 ((p1.Pts.length:Int) - 1))),(27,(di x1.1))],G [((1,u1),some<|.box 39 [(dl P0 p1.Pts)]),((3,u8),some<|.box 253 [(di x1.2.x),(di x1.2.y)])]⟩) (0,(CurveVector.mk 0 0)) () _ hz1 (G1 Z Z) ?_
 intro x1 g2 z2 hz2 ez2
 unfold U1 at hz2
 refine B6<|sv Z<|A1<|A3<|cc Z hz2 (fun c4 hz2=> ?_)<|fun c4 hz2=> ?_
 refine B2<|A3<|A8<|B6<|sv Z<|sv Z<|A1<|A3<|Tc Z fun u12 _=>sq Z<|sl Z G_hit Z<|sv Z<|bs hz2 fun _ hv2 hz2=>sd Z (F0 Z Z hv2 Z)<|sd Z (C8 Z hv2 Z Z)<|sq Z<|sl Z G_hit Z<|sv Z<|sv Z<|bs hz2 fun _ hv3 hz2=>sd Z (F0 Z Z hv3 Z)<|sd Z (C8 Z hv3 Z Z)<|bs hz2 fun v4 hv4 hz2=>B8 Z Z A2 (Ps _ _ _ hv4) (.inl Z) (sm Z<|Aa Z G_hit [(di v4.x),(di v4.y)] Z (A1<|A3<|A7 (s0:=⟨T [(1,(.ptr _ _)),(3,(.ptr _ _)),(4,(.d _)),(5,(.ptr _ _)),(26,(.d _)),(27,(.d _))],G [((1,u1),some<|.box 39 _),((3,u8),some<|.box 253 _),((5,u12),some<|.box 253 _)]⟩) (G1 Z Z) ?_))
 refine B9<|sd Z (B5 Z (gq Z) Z Z)<|sd Z (B5 Z (gq Z) Z Z)<|bs hz2 fun _ hv5 hz2=>B8 Z Z A2 (Fz _ _ _ hv5) (.inl Z) (bs hz2 fun v6 hv6 hz2=>B8 Z Z A2 (Pt _ _ hv6) (.inl Z) (sv Z<|sv Z<|sv Z<|sv Z<|sv Z<|A1<|A3<|A8<|B6<|sv Z<|A9 (.d (bo (!v6.2))) Z Z (sv Z<|A1<|cc Z hz2 (fun c5 hz2=> ?_)<|fun c5 hz2=> ?_)))
 refine B6<|sv Z<|A1<|B4 ?_
 cases hz2
 obtain rfl:=ez2 _ rfl
 refine ⟨nofun,G6 ?_⟩
 rw [bM]at h
 cases h
 exact B0 (.inr Z) (C1 (B1 Z) D4) (.refl _)
 refine B6<|sv Z<|sv Z<|sv Z<|gf Z (fun _=>Z)<|gf Z (vb Z Z Z)<|sd Z (Gi Z Z<|fun hc=>A5<|Bd hc)<|sv Z<|A1<|cc Z hz2 (fun c6 hz2=> ?_)<|fun c6 hz2=> ?_
 refine A3<|A7 (s0:=⟨T [],G []⟩) (G1 Z Z) ?_
 refine B9<|sv Z<|A1<|B4 ?_
 cases hz2
 obtain rfl:=ez2 _ rfl
 refine ⟨nofun,G6 ?_⟩
 rw [bM]at h
 cases h
 exact B0 (.inr Z) (C1 (B1 Z) D4) (.refl _)
 refine A3<|A7 (s0:=⟨T [(1,(.ptr _ _)),(3,(.ptr _ _)),(4,(.d _)),(5,(.ptr _ _)),(26,(.d _)),(27,(.d _))],G [((1,u1),some<|.box 39 _),((3,u8),some<|.box 253 _),((5,u12),some<|.box 253 _)]⟩) (G1 Z Z) ?_
 refine B9<|sv Z<|sv Z<|sv Z<|gt Z (fun _=>(B5 Z (gq Z) Z Z))<|gt Z (fun _=>(B5 Z (gq Z) Z Z))<|bs hz2 fun v7 hv7 hz2=> ?_
 refine S4 _ (i64 v7) (J1 Z) (fun w5=>⟨_,[(.d (.agg [(i64 x1.2.x),(i64 x1.2.y)])),(.d (.agg [(i64 v4.x),(i64 v4.y)]))],_,_,(by simp only [A5 w5];rfl),Z,A2,Fz _ _ _<|L8 w5 hv7,(.inl Z)⟩) ?_
 refine gt Z (vb Z Z Z)<|sa Z Z Z<|sv Z<|A1<|cc Z hz2 (fun c7 hz2=> ?_)<|fun c7 hz2=> ?_
 refine B6<|sv Z<|A1<|B4 ?_
 cases hz2
 obtain rfl:=ez2 _ rfl
 refine ⟨nofun,G6 ?_⟩
 rw [bM]at h
 cases h
 exact B0 (.inr Z) (C1 (B1 Z) D4) (.refl _)
 refine B2<|E3<|B9<|sd Z (B5 Z (gq Z) Z Z)<|Aa Z (gq Z) [(di v4.x),(di v4.y)] Z (A1<|E3<|B9<|sv Z<|sv Z<|A1<|G9 ?_)
 cases hz2
 exact ⟨Z,(),(G1 Z Z)⟩
 refine D8 Z ?_
 cases hz2
 obtain rfl:=ez2 _ rfl
 refine ⟨nofun,D1 Z<|Az ?_⟩
 exact ⟨_,(),Z,(G1 Z Z)⟩
 rintro _ ⟨y1,g1,rfl,q1⟩
 rw [bL]at h
 refine A7 q1<|B6<|sv Z<|A1<|B4 ?_
 cases h
 exact B0 (.inr Z) (C1 (B1 Z) D4) (.refl _)
def Ad (p1:(List Int))(p3:Int)(x1:(Int×Int)):Option (Stp (Int×Int) (Sum Unit Bool)):=
  cond (decide (x1.2< (p1.length:Int))) ((E8 p1 x1.2).bind fun v1=>cond ((decide (v1<x1.1))||(decide (v1≥p3))) (some (.out (.inr false))) (some (.go ((H6 (v1+1)),(H6 (x1.2+1)))))) (some (.out (.inl ())))
def Y5 [Lp](p1:(List Int))(p2:Int)(p3:Int):Option Bool:=
  thenS (loop (Ad p1 p3) (p2,0)) (fun _=>some true) (fun r=>some r)
theorem Iu(p1 p2 p3 r)(h:Y5 p1 p2 p3=some r):PCall prog 171 [(.list (List.map A6 p1)),(i64 p2),(i64 p3)] (bo r):=by
 refine C4 (fk func171 ntmps171 m0 (by with_unfolding_all rfl)) (nl Z) ?_
 unfold Y5 at h
 refine A7 (s0:=⟨T [(0,(.d _)),(1,(.d _)),(2,(.d _))],G []⟩) (G1 Z Z) ?_
 refine B6<|sv Z<|A1<|A3<|B6<|sv Z<|sd Z (D6 Z)<|sv Z<|A1<|js h fun z1 hz1 h=>F6 (fun s=> ∃(y1:Unit) (g1:Unit),z1= .inl y1∧Sb ⟨T [],G []⟩ s) ?_ ?_
 refine A8<|G0 (Ad p1 p3) (fun (x1:(Int×Int)) (g2:Unit)=>⟨T [(1,(di x1.1)),(2,(di p3)),(9,(dl A6 p1)),(10,(di (p1.length:Int))),(11,(di x1.2))],G []⟩) (p2,0) () _ hz1 (G1 Z Z) ?_
 intro x1 g2 z2 hz2 ez2
 unfold Ad at hz2
 refine B6<|sv Z<|A1<|A3<|cc Z hz2 (fun c1 hz2=> ?_)<|fun c1 hz2=> ?_
 refine B2<|A3<|A8<|B6<|bs hz2 fun _ hv1 hz2=>sd Z (F0 Z Z hv1 Z)<|sd Z (J8 Z hv1 Z)<|sv Z<|A1<|A3<|B6<|sv Z<|sv Z<|sv Z<|sv Z<|gf Z (fun _=>Z)<|gf Z (fun _=>Z)<|gf Z (fun w3=>(J3 (A5 w3) (A5 w3) Z))<|sd Z (Gi Z Z<|fun hc=>A5<|Bd hc)<|A1<|cc Z hz2 (fun c2 hz2=> ?_)<|fun c2 hz2=> ?_
 refine B6<|sv Z<|A1<|B4 ?_
 cases hz2
 obtain rfl:=ez2 _ rfl
 refine ⟨nofun,G6 ?_⟩
 rw [bM]at h
 cases h
 exact B0 (.inr Z) (C1 (B1 Z) D4) (.refl _)
 refine B2<|B9<|sv Z<|sv Z<|sv Z<|A1<|E3<|B9<|sv Z<|sv Z<|A1<|G9 ?_
 cases hz2
 exact ⟨Z,(),(G1 Z Z)⟩
 refine D8 Z ?_
 cases hz2
 obtain rfl:=ez2 _ rfl
 refine ⟨nofun,D1 Z<|Az ?_⟩
 exact ⟨_,(),Z,(G1 Z Z)⟩
 rintro _ ⟨y1,g1,rfl,q1⟩
 rw [bL]at h
 refine A7 q1<|B6<|sv Z<|A1<|B4 ?_
 cases h
 exact B0 (.inr Z) (C1 (B1 Z) D4) (.refl _)
def N5 [Lp](p1:RoadsCheck)(x1:Int):Option (Stp Int (Sum Unit Int)):=
  cond (decide (x1< (p1.Map_.Lanes.length:Int))) ((E8 p1.Map_.Lanes x1).bind fun v1=>(Fl v1.Kind).bind fun v2=>cond (v2.1==0) (some (.out (.inr 4))) ((Ca v1.Curve_).bind fun v3=>cond (v3 !=0) (some (.out (.inr v3))) ((T3 v1.Half 200 4000).bind fun v4=>((cond (!(!v4)) (T3 v1.Limit 1 v2.1) (some default))).bind fun v5=>cond ((!v4)||(!v5)) (some (.out (.inr 2))) (cond (decide ((v1.Next.length:Int)>3)) (some (.out (.inr 8))) ((Y5 v1.Next (H6 (x1+1)) (p1.Map_.Lanes.length:Int)).bind fun v6=>cond (!v6) (some (.out (.inr 11))) (some (.go (H6 (x1+1))))))))) (some (.out (.inl ())))
def R7 [Lp](p1:RoadsCheck):Option Int:=
  thenS (loop (N5 p1) 0) (fun _=>some 0) (fun r=>some r)
theorem Og(p1 r)(h:R7 p1=some r):PCall prog 66 [(.agg (Q8 p1.Map_))] (i64 r):=by
 refine C4 (fk func66 ntmps66 m0 (by with_unfolding_all rfl)) (nl Z) ?_
 unfold R7 at h
 refine A7 (s0:=⟨T [(0,(.d _))],G []⟩) (G1 Z Z) ?_
 refine lr<|fun u1 _=>sm Z<|sv Z<|A1<|A3<|B6<|sq Z<|sp Z Z<|sl Z G_hit Z<|sd Z (D6 Z)<|sv Z<|A1<|js h fun z1 hz1 h=>F6 (fun s=> ∃(y1:Unit) (g1:Unit),z1= .inl y1∧Sb ⟨T [],G []⟩ s) ?_ ?_
 refine A8<|G0 (N5 p1) (fun (x1:Int) (g2:Unit)=>⟨T [(1,(.ptr (1,u1) 0)),(11,(dl G5 p1.Map_.Lanes)),(12,(di (p1.Map_.Lanes.length:Int))),(13,(di x1))],G [((1,u1),some<|.box 105 (R3 p1.Map_))]⟩) 0 () _ hz1 (G1 Z Z) ?_
 intro x1 g2 z2 hz2 ez2
 unfold N5 at hz2
 refine B6<|sv Z<|A1<|A3<|cc Z hz2 (fun c1 hz2=> ?_)<|fun c1 hz2=> ?_
 refine B2<|A3<|A8<|lr<|fun u4 _=>sv Z<|bs hz2 fun v1 hv1 hz2=>sd Z (F0 Z Z hv1 Z)<|sd Z (C8 Z hv1 Z Z)<|sm Z<|sv Z<|Aa Z G_hit (In v1) Z (A1<|B6<|sq Z<|sl Z G_hit Z<|bs hz2 fun v2 hv2 hz2=>B8 Z Z A2 (Ms _ _ hv2) (.inl Z) (sv Z<|sv Z<|sv Z<|sv Z<|sv Z<|sv Z<|sv Z<|A1<|A3<|A3<|A7 (s0:=⟨T [(1,(.ptr _ _)),(3,(.d _)),(4,(.ptr _ _)),(5,(.d _)),(11,(.d _)),(12,(.d _)),(13,(.d _))],G [((1,u1),some<|.box 105 _),((4,u4),some<|.box 42 _)]⟩) (G1 Z Z) ?_))
 refine B9<|sv Z<|sv Z<|A1<|cc Z hz2 (fun c2 hz2=> ?_)<|fun c2 hz2=> ?_
 refine B6<|sv Z<|A1<|B4 ?_
 cases hz2
 obtain rfl:=ez2 _ rfl
 refine ⟨nofun,G6 ?_⟩
 rw [bM]at h
 cases h
 exact B0 (.inr Z) (C1 (B1 Z) D4) (.refl _)
 refine B2<|A3<|B6<|sq Z<|sd Z (B5 Z (gq Z) Z Z)<|bs hz2 fun _ hv3 hz2=>B8 Z Z A2 (Of _ _ hv3) (.inl Z) (sv Z<|A1<|B6<|sv Z<|sv Z<|A1<|cc Z hz2 (fun c3 hz2=> ?_)<|fun c3 hz2=> ?_)
 refine B6<|sv Z<|sv Z<|A1<|B4 ?_
 cases hz2
 obtain rfl:=ez2 _ rfl
 refine ⟨nofun,G6 ?_⟩
 rw [bM]at h
 cases h
 exact B0 (.inr Z) (C1 (B1 Z) D4) (.refl _)
 refine B2<|A8<|B6<|sq Z<|sl Z (gq Z) Z (bs hz2 fun v4 hv4 hz2=>B8 Z Z A2 (T0 _ _ _ _ hv4) (.inl Z) (A9 (.d (bo (!v4))) Z Z (sv Z<|gp Z (X3 Z) (fun _=>Z) (gf Z (vl Z (gq Z) Z)<|gf Z (fun _=>Z)<|bs hz2 fun v5 hv5 hz2=> ?_))))
 refine S4 _ (bo v5) (X3 Z) (fun w4=>⟨_,[(di v1.Limit),(di 1),(di v2.1)],_,_,(by simp only [A5 w4];rfl),Z,A2,T0 _ _ _ _<|L8 w4 hv5,(.inl Z)⟩) ?_
 refine Ab _ (.d (bo (!v5))) Z (X3 Z) (fun w5=>(by simp only [A5 w5];rfl)) ?_
 refine sd Z (Gi Z Z<|fun hc=>A5<|Bd hc)<|sv Z<|A1<|cc Z hz2 (fun c4 hz2=> ?_)<|fun c4 hz2=> ?_
 refine A3<|A7 (s0:=⟨T [],G []⟩) (G1 Z Z) ?_
 refine B9<|sv Z<|A1<|B4 ?_
 cases hz2
 obtain rfl:=ez2 _ rfl
 refine ⟨nofun,G6 ?_⟩
 rw [bM]at h
 cases h
 exact B0 (.inr Z) (C1 (B1 Z) D4) (.refl _)
 refine A3<|A7 (s0:=⟨T [(1,(.ptr _ _)),(3,(.d _)),(4,(.ptr _ _)),(11,(.d _)),(12,(.d _)),(13,(.d _))],G [((1,u1),some<|.box 105 _),((4,u4),some<|.box 42 _)]⟩) (G1 Z Z) ?_
 refine B9<|sq Z<|sl Z (gq Z) Z (sd Z (D6 Z)<|sv Z<|sv Z<|A1<|cc Z hz2 (fun c5 hz2=> ?_)<|fun c5 hz2=> ?_)
 refine B6<|sv Z<|A1<|B4 ?_
 cases hz2
 obtain rfl:=ez2 _ rfl
 refine ⟨nofun,G6 ?_⟩
 rw [bM]at h
 cases h
 exact B0 (.inr Z) (C1 (B1 Z) D4) (.refl _)
 refine B6<|sq Z<|sl Z (gq Z) Z (sv Z<|sv Z<|sq Z<|sp Z Z<|sl Z G_hit Z<|sd Z (D6 Z)<|bs hz2 fun v6 hv6 hz2=>B8 Z Z A2 (Iu _ _ _ _ hv6) (.inl Z) (A9 (.d (bo (!v6))) Z Z (sv Z<|A1<|cc Z hz2 (fun c6 hz2=> ?_)<|fun c6 hz2=> ?_)))
 refine A3<|A7 (s0:=⟨T [],G []⟩) (G1 Z Z) ?_
 refine B9<|sv Z<|A1<|B4 ?_
 cases hz2
 obtain rfl:=ez2 _ rfl
 refine ⟨nofun,G6 ?_⟩
 rw [bM]at h
 cases h
 exact B0 (.inr Z) (C1 (B1 Z) D4) (.refl _)
 refine B2<|E3<|E3<|A7 (s0:=⟨T [(1,(.ptr _ _)),(11,(.d _)),(12,(.d _)),(13,(.d _))],G [((1,u1),some<|.box 105 _)]⟩) (G1 Z Z) ?_
 refine B9<|sv Z<|sv Z<|A1<|G9 ?_
 cases hz2
 exact ⟨Z,(),(G1 Z Z)⟩
 refine D8 Z ?_
 cases hz2
 obtain rfl:=ez2 _ rfl
 refine ⟨nofun,D1 Z<|Az ?_⟩
 exact ⟨_,(),Z,(G1 Z Z)⟩
 rintro _ ⟨y1,g1,rfl,q1⟩
 rw [bL]at h
 refine A7 q1<|B6<|sv Z<|A1<|B4 ?_
 cases h
 exact B0 (.inr Z) (C1 (B1 Z) D4) (.refl _)
def T9 (p1:RoadsCheck)(v1:Lane)(v2:Spot)(x2:Int):Option (Stp Int (Sum Unit Int)):=
  cond (decide (x2< (v1.Next.length:Int))) ((E8 v1.Next x2).bind fun v3=>(E8 p1.Map_.Lanes v3).bind fun v4=>cond (v4.Kind !=v1.Kind) (some (.out (.inr 4))) ((E8 p1.Map_.Lanes v3).bind fun v5=>(E8 v5.Curve_.Pts 0).bind fun v6=>cond (!(v6.X==v2.X&& (v6.Y==v2.Y&&true))) (some (.out (.inr 3))) (some (.go (H6 (x2+1)))))) (some (.out (.inl ())))
def M7 [Lp](p1:RoadsCheck)(x1:Int):Option (Stp Int (Sum Unit Int)):=
  cond (decide (x1< (p1.Map_.Lanes.length:Int))) ((E8 p1.Map_.Lanes x1).bind fun v1=>(E8 v1.Curve_.Pts (H6 ((v1.Curve_.Pts.length:Int) - 1))).bind fun v2=>thenS (loop (T9 p1 v1 v2) 0) (fun _=>some (.go (H6 (x1+1)))) (fun r=>some (.out (.inr r)))) (some (.out (.inl ())))
def Q6 [Lp](p1:RoadsCheck):Option Int:=
  thenS (loop (M7 p1) 0) (fun _=>some 0) (fun r=>some r)
theorem Ng(p1 r)(h:Q6 p1=some r):PCall prog 67 [(.agg (Q8 p1.Map_))] (i64 r):=by
 refine C4 (fk func67 ntmps67 m0 (by with_unfolding_all rfl)) (nl Z) ?_
 unfold Q6 at h
 refine A7 (s0:=⟨T [(0,(.d _))],G []⟩) (G1 Z Z) ?_
 refine lr<|fun u1 _=>sm Z<|sv Z<|A1<|A3<|B6<|sq Z<|sp Z Z<|sl Z G_hit Z<|sd Z (D6 Z)<|sv Z<|A1<|js h fun z1 hz1 h=>F6 (fun s=> ∃(y1:Unit) (g1:Unit),z1= .inl y1∧Sb ⟨T [],G []⟩ s) ?_ ?_
 refine A8<|G0 (M7 p1) (fun (x1:Int) (g2:Unit)=>⟨T [(1,(.ptr (1,u1) 0)),(10,(dl G5 p1.Map_.Lanes)),(11,(di (p1.Map_.Lanes.length:Int))),(12,(di x1))],G [((1,u1),some<|.box 105 (R3 p1.Map_))]⟩) 0 () _ hz1 (G1 Z Z) ?_
 intro x1 g2 z2 hz2 ez2
 unfold M7 at hz2
 refine B6<|sv Z<|A1<|A3<|cc Z hz2 (fun c1 hz2=> ?_)<|fun c1 hz2=> ?_
 refine B2<|A3<|A8<|lr<|fun u4 _=>bs hz2 fun v1 hv1 hz2=>sd Z (F0 Z Z hv1 Z)<|sd Z (C8 Z hv1 Z Z)<|sm Z<|Aa Z G_hit (In v1) Z (A1<|lr<|fun u5 _=>sq Z<|sq Z<|sl Z G_hit Z<|sq Z<|sp Z Z<|sl Z G_hit Z<|sd Z (D6 Z)<|sv Z<|bs hz2 fun v2 hv2 hz2=>sd Z (F0 Z Z hv2 Z)<|sd Z (C8 Z hv2 Z Z)<|sm Z<|Aa Z G_hit [(di v2.X),(di v2.Y)] Z (A1<|A3<|A7 (s0:=⟨T [(1,(.ptr _ _)),(4,(.ptr _ _)),(5,(.ptr _ _)),(10,(.d _)),(11,(.d _)),(12,(.d _))],G [((1,u1),some<|.box 105 _),((4,u4),some<|.box 42 _),((5,u5),some<|.box 148 _)]⟩) (G1 Z Z) ?_))
 refine B9<|sq Z<|sl Z (gq Z) Z (sd Z (D6 Z)<|sv Z<|A1<|js hz2 fun z3 hz3 hz2=>F6 (fun s=> ∃(y2:Unit) (g3:Unit),z3= .inl y2∧Sb ⟨T [(1,(.ptr (1,u1) 0)),(10,(dl G5 p1.Map_.Lanes)),(11,(di (p1.Map_.Lanes.length:Int))),(12,(di x1))],G [((1,u1),some<|.box 105 (R3 p1.Map_))]⟩ s) ?_ ?_)
 refine A8<|G0 (T9 p1 v1 v2) (fun (x2:Int) (g4:Unit)=>⟨T [(1,(.ptr (1,u1) 0)),(4,(.ptr (4,u4) 0)),(5,(.ptr (5,u5) 0)),(10,(dl G5 p1.Map_.Lanes)),(11,(di (p1.Map_.Lanes.length:Int))),(12,(di x1)),(27,(dl A6 v1.Next)),(28,(di (v1.Next.length:Int))),(29,(di x2))],G [((1,u1),some<|.box 105 (R3 p1.Map_)),((4,u4),some<|.box 42 (In v1)),((5,u5),some<|.box 148 [(di v2.X),(di v2.Y)])]⟩) 0 () _ hz3 (G1 Z Z) ?_
 intro x2 g4 z4 hz4 ez4
 unfold T9 at hz4
 refine B6<|sv Z<|A1<|A3<|cc Z hz4 (fun c2 hz4=> ?_)<|fun c2 hz4=> ?_
 refine B2<|A3<|A8<|B6<|bs hz4 fun _ hv3 hz4=>sd Z (F0 Z Z hv3 Z)<|sd Z (J8 Z hv3 Z)<|sv Z<|A1<|A3<|A3<|Q1 Z<|sq Z<|sq Z<|sl Z G_hit Z<|sv Z<|bs hz4 fun _ hv4 hz4=>sd Z (F0 Z Z hv4 Z)<|sv Z<|sd Z (J8 Z hv4 Z)<|sq Z<|sl Z (gq Z) Z (sv Z<|A1<|cc Z hz4 (fun c3 hz4=> ?_)<|fun c3 hz4=> ?_)
 refine A3<|A7 (s0:=⟨T [],G []⟩) (G1 Z Z) ?_
 refine B9<|sv Z<|A1<|B4 ?_
 cases hz4
 obtain rfl:=ez4 _ rfl
 refine ⟨nofun,G6 ?_⟩
 rw [bM]at hz2
 cases hz2
 obtain rfl:=ez2 _ rfl
 refine ⟨nofun,G6 ?_⟩
 rw [bM]at h
 cases h
 exact B0 (.inr Z) (C1 (B1 Z) D4) (.refl _)
 refine B2<|A3<|A7 (s0:=⟨T [(1,(.ptr _ _)),(4,(.ptr _ _)),(5,(.ptr _ _)),(7,(.d _)),(10,(.d _)),(11,(.d _)),(12,(.d _)),(27,(.d _)),(28,(.d _)),(29,(.d _))],G [((1,u1),some<|.box 105 _),((4,u4),some<|.box 42 _),((5,u5),some<|.box 148 _)]⟩) (G1 Z Z) ?_
 refine Q1 Z<|sq Z<|sq Z<|sl Z G_hit Z<|sv Z<|bs hz4 fun _ hv5 hz4=>sd Z (F0 Z Z hv5 Z)<|sv Z<|sv Z<|sd Z (J8 Z hv5 Z)<|bs hz4 fun v6 hv6 hz4=>sd Z (F0 Z Z hv6 Z)<|sd Z (C8 Z hv6 Z Z)<|sd Z (B5 Z (gq Z) Z Z)<|A9 (.d (bo (!(v6.X==v2.X&& (v6.Y==v2.Y&&true))))) Z Z (A1<|cc Z hz4 (fun c4 hz4=> ?_)<|fun c4 hz4=> ?_)
 refine A3<|A7 (s0:=⟨T [],G []⟩) (G1 Z Z) ?_
 refine B9<|sv Z<|A1<|B4 ?_
 cases hz4
 obtain rfl:=ez4 _ rfl
 refine ⟨nofun,G6 ?_⟩
 rw [bM]at hz2
 cases hz2
 obtain rfl:=ez2 _ rfl
 refine ⟨nofun,G6 ?_⟩
 rw [bM]at h
 cases h
 exact B0 (.inr Z) (C1 (B1 Z) D4) (.refl _)
 refine B2<|E3<|A7 (s0:=⟨T [(1,(.ptr _ _)),(4,(.ptr _ _)),(5,(.ptr _ _)),(10,(.d _)),(11,(.d _)),(12,(.d _)),(27,(.d _)),(28,(.d _)),(29,(.d _))],G [((1,u1),some<|.box 105 _),((4,u4),some<|.box 42 _),((5,u5),some<|.box 148 _)]⟩) (G1 Z Z) ?_
 refine B9<|sv Z<|sv Z<|A1<|G9 ?_
 cases hz4
 exact ⟨Z,(),(G1 Z Z)⟩
 refine D8 Z ?_
 cases hz4
 obtain rfl:=ez4 _ rfl
 refine ⟨nofun,D1 Z<|Az ?_⟩
 exact ⟨_,(),Z,(G1 Z Z)⟩
 rintro _ ⟨y2,g3,rfl,q1⟩
 rw [bL]at hz2
 refine E3<|A7 q1<|B9<|sv Z<|sv Z<|A1<|G9 ?_
 cases hz2
 exact ⟨Z,(),(G1 Z Z)⟩
 refine D8 Z ?_
 cases hz2
 obtain rfl:=ez2 _ rfl
 refine ⟨nofun,D1 Z<|Az ?_⟩
 exact ⟨_,(),Z,(G1 Z Z)⟩
 rintro _ ⟨y1,g1,rfl,q2⟩
 rw [bL]at h
 refine A7 q2<|B6<|sv Z<|A1<|B4 ?_
 cases h
 exact B0 (.inr Z) (C1 (B1 Z) D4) (.refl _)
def Bk (p1:Phase):Option Bool:=
  (T3 p1.Ticks 1 10000).bind fun v1=>some (!v1)
theorem Kz(p1 r)(h:Bk p1=some r):PCall prog 173 [(.agg [(i64 p1.Ticks),(.list (List.map A6 p1.Green))])] (bo r):=by
 refine C4 (fk func173 ntmps173 m0 (by with_unfolding_all rfl)) (nl Z) ?_
 unfold Bk at h
 refine A7 (s0:=⟨T [(0,(.d _))],G []⟩) (G1 Z Z) ?_
 refine B6<|sm Z<|sv Z<|A1<|B6<|sq Z<|sl Z G_hit Z<|bs h fun v1 hv1 h=>B8 Z Z A2 (T0 _ _ _ _ hv1) (.inl Z) (A9 (.d (bo (!v1))) Z Z (sv Z<|A1<|B4 ?_))
 cases h
 exact B0 (.inr Z) (C1 (B1 Z) D4) (.refl _)
def G3 (p1:(List Phase))(x1:Int):Option (Stp Int (Sum Unit Int)):=
  cond (decide (x1< (p1.length:Int))) ((E8 p1 x1).bind fun v1=>(Bk v1).bind fun v2=>cond v2 (some (.out (.inr x1))) (some (.go (H6 (x1+1))))) (some (.out (.inl ())))
def E1 [Lp](p1:(List Phase)):Option Int:=
  thenS (loop (G3 p1) 0) (fun _=>some (-1)) (fun r=>some r)
theorem Ag(p1 r)(h:E1 p1=some r):PCall prog 237 [(.list (List.map J2 p1)),(.fn (.func 173) [] [])] (i64 r):=by
 refine C4 (fk func237 ntmps237 m0 (by with_unfolding_all rfl)) (nl Z) ?_
 unfold E1 at h
 refine A7 (s0:=⟨T [(0,(.d _)),(1,(.d _))],G []⟩) (G1 Z Z) ?_
 refine B6<|sv Z<|A1<|A3<|B6<|sv Z<|sd Z (D6 Z)<|sv Z<|A1<|js h fun z1 hz1 h=>F6 (fun s=> ∃(y1:Unit) (g1:Unit),z1= .inl y1∧Sb ⟨T [],G []⟩ s) ?_ ?_
 refine A8<|G0 (G3 p1) (fun (x1:Int) (g2:Unit)=>⟨T [(0,(dl J2 p1)),(1,(.d (.fn (.func 173) [] []))),(7,(di (p1.length:Int))),(8,(di x1))],G []⟩) 0 () _ hz1 (G1 Z Z) ?_
 intro x1 g2 z2 hz2 ez2
 unfold G3 at hz2
 refine B6<|sv Z<|A1<|A3<|cc Z hz2 (fun c1 hz2=> ?_)<|fun c1 hz2=> ?_
 refine B2<|A3<|A8<|B6<|sv Z<|sv Z<|A1<|B6<|sv Z<|sv Z<|sv Z<|bs hz2 fun _ hv1 hz2=>sd Z (F0 Z Z hv1 Z)<|sd Z (C8 Z hv1 Z Z)<|bs hz2 fun _ hv2 hz2=>B8 Z Z A2 (Kz _ _ hv2) (.inl Z) (A1<|cc Z hz2 (fun c2 hz2=> ?_)<|fun c2 hz2=> ?_)
 refine B6<|sv Z<|sv Z<|A1<|B4 ?_
 cases hz2
 obtain rfl:=ez2 _ rfl
 refine ⟨nofun,G6 ?_⟩
 rw [bM]at h
 cases h
 exact B0 (.inr Z) (C1 (B1 Z) D4) (.refl _)
 refine B2<|E3<|B9<|sv Z<|sv Z<|A1<|G9 ?_
 cases hz2
 exact ⟨Z,(),(G1 Z Z)⟩
 refine D8 Z ?_
 cases hz2
 obtain rfl:=ez2 _ rfl
 refine ⟨nofun,D1 Z<|Az ?_⟩
 exact ⟨_,(),Z,(G1 Z Z)⟩
 rintro _ ⟨y1,g1,rfl,q1⟩
 rw [bL]at h
 refine A7 q1<|B6<|sv Z<|A1<|B4 ?_
 cases h
 exact B0 (.inr Z) (C1 (B1 Z) D4) (.refl _)
def C5 [Lp](p1:(List Phase)):Option Bool:=
  (E1 p1).bind fun v1=>some (decide (v1≥0))
theorem Z1(p1 r)(h:C5 p1=some r):PCall prog 172 [(.list (List.map J2 p1)),(.fn (.func 173) [] [])] (bo r):=by
 refine C4 (fk func172 ntmps172 m0 (by with_unfolding_all rfl)) (nl Z) ?_
 unfold C5 at h
 refine A7 (s0:=⟨T [(0,(.d _)),(1,(.d _))],G []⟩) (G1 Z Z) ?_
 refine B6<|sv Z<|A1<|B6<|sv Z<|sv Z<|bs h fun _ hv1 h=>B8 Z Z A2 (Ag _ _ hv1) (.inl Z) (sv Z<|sv Z<|A1<|B4 ?_)
 cases h
 exact B0 (.inr Z) (C1 (B1 Z) D4) (.refl _)
def P4 [Lp](p1:Phase)(p2:RoadsCheck):Option Bool:=
  (Y5 p1.Green 0 (p2.Map_.Lanes.length:Int)).bind fun v1=>some (!v1)
theorem Jt(p1 p2 r)(h:P4 p1 p2=some r):PCall prog 174 [(.agg [(i64 p1.Ticks),(.list (List.map A6 p1.Green))]),(.bp (Q8 p2.Map_) 0)] (bo r):=by
 refine C4 (fk func174 ntmps174 m0 (by with_unfolding_all rfl)) (nl Z) ?_
 unfold P4 at h
 refine A7 (s0:=⟨T [(0,(.d _)),(1,(.d _))],G []⟩) (G1 Z Z) ?_
 refine B6<|sm Z<|sv Z<|A1<|B6<|sq Z<|sl Z G_hit Z<|sv Z<|sv Z<|sv Z<|sd Z (D6 Z)<|bs h fun v1 hv1 h=>B8 Z Z A2 (Iu _ _ _ _ hv1) (.inl Z) (A9 (.d (bo (!v1))) Z Z (sv Z<|A1<|B4 ?_))
 cases h
 exact B0 (.inr Z) (C1 (B1 Z) D4) (.refl _)
def C2 [Lp](p1:(List Phase))(p2:RoadsCheck)(x1:Int):Option (Stp Int (Sum Unit Int)):=
  cond (decide (x1< (p1.length:Int))) ((E8 p1 x1).bind fun v1=>(P4 v1 p2).bind fun v2=>cond v2 (some (.out (.inr x1))) (some (.go (H6 (x1+1))))) (some (.out (.inl ())))
def D9 [Lp](p1:(List Phase))(p2:RoadsCheck):Option Int:=
  thenS (loop (C2 p1 p2) 0) (fun _=>some (-1)) (fun r=>some r)
theorem Ae(p1 p2 r)(h:D9 p1 p2=some r):PCall prog 237 [(.list (List.map J2 p1)),(.fn (.func 174) [] [(.bp (Q8 p2.Map_) 0)])] (i64 r):=by
 refine C4 (fk func237 ntmps237 m0 (by with_unfolding_all rfl)) (nl Z) ?_
 unfold D9 at h
 refine A7 (s0:=⟨T [(0,(.d _)),(1,(.d _))],G []⟩) (G1 Z Z) ?_
 refine B6<|sv Z<|A1<|A3<|B6<|sv Z<|sd Z (D6 Z)<|sv Z<|A1<|js h fun z1 hz1 h=>F6 (fun s=> ∃(y1:Unit) (g1:Unit),z1= .inl y1∧Sb ⟨T [],G []⟩ s) ?_ ?_
 refine A8<|G0 (C2 p1 p2) (fun (x1:Int) (g2:Unit)=>⟨T [(0,(dl J2 p1)),(1,(.d (.fn (.func 174) [] [(.bp (Q8 p2.Map_) 0)]))),(7,(di (p1.length:Int))),(8,(di x1))],G []⟩) 0 () _ hz1 (G1 Z Z) ?_
 intro x1 g2 z2 hz2 ez2
 unfold C2 at hz2
 refine B6<|sv Z<|A1<|A3<|cc Z hz2 (fun c1 hz2=> ?_)<|fun c1 hz2=> ?_
 refine B2<|A3<|A8<|B6<|sv Z<|sv Z<|A1<|B6<|sv Z<|sv Z<|sv Z<|bs hz2 fun _ hv1 hz2=>sd Z (F0 Z Z hv1 Z)<|sd Z (C8 Z hv1 Z Z)<|bs hz2 fun _ hv2 hz2=>B8 Z Z A2 (Jt _ _ _ hv2) (.inl Z) (A1<|cc Z hz2 (fun c2 hz2=> ?_)<|fun c2 hz2=> ?_)
 refine B6<|sv Z<|sv Z<|A1<|B4 ?_
 cases hz2
 obtain rfl:=ez2 _ rfl
 refine ⟨nofun,G6 ?_⟩
 rw [bM]at h
 cases h
 exact B0 (.inr Z) (C1 (B1 Z) D4) (.refl _)
 refine B2<|E3<|B9<|sv Z<|sv Z<|A1<|G9 ?_
 cases hz2
 exact ⟨Z,(),(G1 Z Z)⟩
 refine D8 Z ?_
 cases hz2
 obtain rfl:=ez2 _ rfl
 refine ⟨nofun,D1 Z<|Az ?_⟩
 exact ⟨_,(),Z,(G1 Z Z)⟩
 rintro _ ⟨y1,g1,rfl,q1⟩
 rw [bL]at h
 refine A7 q1<|B6<|sv Z<|A1<|B4 ?_
 cases h
 exact B0 (.inr Z) (C1 (B1 Z) D4) (.refl _)
def C3 [Lp](p1:(List Phase))(p2:RoadsCheck):Option Bool:=
  (D9 p1 p2).bind fun v1=>some (decide (v1≥0))
theorem Y6(p1 p2 r)(h:C3 p1 p2=some r):PCall prog 172 [(.list (List.map J2 p1)),(.fn (.func 174) [] [(.bp (Q8 p2.Map_) 0)])] (bo r):=by
 refine C4 (fk func172 ntmps172 m0 (by with_unfolding_all rfl)) (nl Z) ?_
 unfold C3 at h
 refine A7 (s0:=⟨T [(0,(.d _)),(1,(.d _))],G []⟩) (G1 Z Z) ?_
 refine B6<|sv Z<|A1<|B6<|sv Z<|sv Z<|bs h fun _ hv1 h=>B8 Z Z A2 (Ae _ _ _ hv1) (.inl Z) (sv Z<|sv Z<|A1<|B4 ?_)
 cases h
 exact B0 (.inr Z) (C1 (B1 Z) D4) (.refl _)
def L5 [Lp](p1:RoadsCheck)(x1:Int):Option (Stp Int (Sum Unit Int)):=
  cond (decide (x1< (p1.Map_.Signals.length:Int))) ((E8 p1.Map_.Signals x1).bind fun v1=>cond ((v1.Phases.length:Int)==0) (some (.out (.inr 6))) (cond (decide ((v1.Phases.length:Int)>6)) (some (.out (.inr 8))) ((T3 v1.Offset 0 1099511627776).bind fun v2=>cond (!v2) (some (.out (.inr 2))) ((C5 v1.Phases).bind fun v3=>cond v3 (some (.out (.inr 2))) ((C3 v1.Phases p1).bind fun v4=>cond v4 (some (.out (.inr 11))) (some (.go (H6 (x1+1))))))))) (some (.out (.inl ())))
def P2 [Lp](p1:RoadsCheck):Option Int:=
  thenS (loop (L5 p1) 0) (fun _=>some 0) (fun r=>some r)
theorem Mi(p1 r)(h:P2 p1=some r):PCall prog 68 [(.agg (Q8 p1.Map_))] (i64 r):=by
 refine C4 (fk func68 ntmps68 m0 (by with_unfolding_all rfl)) (nl Z) ?_
 unfold P2 at h
 refine A7 (s0:=⟨T [(0,(.d _))],G []⟩) (G1 Z Z) ?_
 refine lr<|fun u1 _=>sm Z<|sv Z<|A1<|A3<|B6<|sq Z<|sp Z Z<|sl Z G_hit Z<|sd Z (D6 Z)<|sv Z<|A1<|js h fun z1 hz1 h=>F6 (fun s=> ∃(y1:Unit) (g1:Unit),z1= .inl y1∧Sb ⟨T [],G []⟩ s) ?_ ?_
 refine A8<|G0 (L5 p1) (fun (x1:Int) (g2:Unit)=>⟨T [(1,(.ptr (1,u1) 0)),(8,(dl E2 p1.Map_.Signals)),(9,(di (p1.Map_.Signals.length:Int))),(10,(di x1))],G [((1,u1),some<|.box 105 (R3 p1.Map_))]⟩) 0 () _ hz1 (G1 Z Z) ?_
 intro x1 g2 z2 hz2 ez2
 unfold L5 at hz2
 refine B6<|sv Z<|A1<|A3<|cc Z hz2 (fun c1 hz2=> ?_)<|fun c1 hz2=> ?_
 refine B2<|A3<|A8<|lr<|fun u4 _=>bs hz2 fun v1 hv1 hz2=>sd Z (F0 Z Z hv1 Z)<|sd Z (C8 Z hv1 Z Z)<|sm Z<|Aa Z G_hit [(di v1.Offset),(dl J2 v1.Phases)] Z (A1<|B6<|sq Z<|sl Z G_hit Z<|sd Z (D6 Z)<|sv Z<|A1<|A8<|B6<|sv Z<|sv Z<|sv Z<|A1<|cc Z hz2 (fun c2 hz2=> ?_)<|fun c2 hz2=> ?_)
 refine B6<|sv Z<|A1<|B4 ?_
 cases hz2
 obtain rfl:=ez2 _ rfl
 refine ⟨nofun,G6 ?_⟩
 rw [bM]at h
 cases h
 exact B0 (.inr Z) (C1 (B1 Z) D4) (.refl _)
 refine B6<|sv Z<|sv Z<|sv Z<|A1<|cc Z hz2 (fun c3 hz2=> ?_)<|fun c3 hz2=> ?_
 refine B6<|sv Z<|A1<|B4 ?_
 cases hz2
 obtain rfl:=ez2 _ rfl
 refine ⟨nofun,G6 ?_⟩
 rw [bM]at h
 cases h
 exact B0 (.inr Z) (C1 (B1 Z) D4) (.refl _)
 refine B6<|sq Z<|sl Z G_hit Z<|bs hz2 fun v2 hv2 hz2=>B8 Z Z A2 (T0 _ _ _ _ hv2) (.inl Z) (A9 (.d (bo (!v2))) Z Z (sv Z<|A1<|cc Z hz2 (fun c4 hz2=> ?_)<|fun c4 hz2=> ?_))
 refine A3<|A7 (s0:=⟨T [],G []⟩) (G1 Z Z) ?_
 refine B9<|sv Z<|A1<|B4 ?_
 cases hz2
 obtain rfl:=ez2 _ rfl
 refine ⟨nofun,G6 ?_⟩
 rw [bM]at h
 cases h
 exact B0 (.inr Z) (C1 (B1 Z) D4) (.refl _)
 refine A3<|A7 (s0:=⟨T [(1,(.ptr _ _)),(4,(.ptr _ _)),(8,(.d _)),(9,(.d _)),(10,(.d _))],G [((1,u1),some<|.box 105 _),((4,u4),some<|.box 48 _)]⟩) (G1 Z Z) ?_
 refine B9<|sq Z<|sl Z (gq Z) Z (bs hz2 fun _ hv3 hz2=>B8 Z Z A2 (Z1 _ _ hv3) (.inl Z) (sv Z<|A1<|cc Z hz2 (fun c5 hz2=> ?_)<|fun c5 hz2=> ?_))
 refine B6<|sv Z<|A1<|B4 ?_
 cases hz2
 obtain rfl:=ez2 _ rfl
 refine ⟨nofun,G6 ?_⟩
 rw [bM]at h
 cases h
 exact B0 (.inr Z) (C1 (B1 Z) D4) (.refl _)
 refine B6<|sq Z<|sl Z (gq Z) Z (A9 (.fn _ _ _) Z Z (bs hz2 fun _ hv4 hz2=>B8 Z (rD<|J5 (Zh M3<|J5 (Kx G_hit<|rD<|rD<|rD<|rD<|rD M3) M3) M3) A2 (Y6 _ _ _ hv4) (.inr Z) (sv Z<|A1<|cc Z hz2 (fun c6 hz2=> ?_)<|fun c6 hz2=> ?_)))
 refine B6<|sv Z<|A1<|B4 ?_
 cases hz2
 obtain rfl:=ez2 _ rfl
 refine ⟨nofun,G6 ?_⟩
 rw [bM]at h
 cases h
 exact B0 (.inr Z) (C1 (B1 Z) D4) (.refl _)
 refine B2<|E3<|E3<|B9<|sv Z<|sv Z<|A1<|G9 ?_
 cases hz2
 exact ⟨Z,(),(G1 Z Z)⟩
 refine D8 Z ?_
 cases hz2
 obtain rfl:=ez2 _ rfl
 refine ⟨nofun,D1 Z<|Az ?_⟩
 exact ⟨_,(),Z,(G1 Z Z)⟩
 rintro _ ⟨y1,g1,rfl,q1⟩
 rw [bL]at h
 refine A7 q1<|B6<|sv Z<|A1<|B4 ?_
 cases h
 exact B0 (.inr Z) (C1 (B1 Z) D4) (.refl _)
/-- kerbstone/curve.pieces$1 -/
def Ko:AC:=(.seq (.reg [oo 3 (.mv (ci 0))]) (.seq (.reg [oo 8 (.fieldA 0 (.t 1)),oo 9 (.load 1 false (.t 8)),oo 10 (.len (.t 9)),oo 11 (.bin .sub (.t 10) (ci 1)),oo 12 (.mv (ci 0))]) (.block 0 (.loop (.seq (.reg [oo 13 (.bin .lss (.t 12) (.t 11))]) (.seq (.cond (.t 13) .skip (.exit 0)) (.seq (.block 1 (.seq (.reg [oo 14 (.mv (.t 12)),oo 4 (.mv (.t 14))]) (.seq (.draw [oo 15 (.fieldA 0 (.t 1)),oo 16 (.load 1 false (.t 15)),oo 17 (.mv (.t 4)),oo 18 (.idxS 2 (.t 16) (.t 17)),oo 19 (.load 2 true (.t 18)),oo 20 (.fieldA 0 (.t 1)),oo 21 (.load 1 false (.t 20)),oo 22 (.mv (.t 4)),oo 23 (.bin .add (.t 22) (ci 1)),oo 24 (.idxS 2 (.t 21) (.t 23)),oo 25 (.load 2 true (.t 24)),oo 26 (.call (cf 234) [(.t 19),(.t 25)]),oo 5 (.alloc 253 [z0,z0]),oe (.store 2 (.t 5) (.t 26))] []) (.seq (.reg [oo 28 (.load 2 true (.t 5)),oo 29 (.load 2 true (.t 5)),oo 30 (.call (cf 236) [(.t 28),(.t 29)]),oo 31 (.call (cf 235) [(.t 30)]),oo 27 (.mv (.t 31)),oo 32 (.ext (.t 27) 0),oo 33 (.ext (.t 27) 1),oo 6 (.mv (.t 32)),oo 7 (.mv (.t 33))]) (.seq (.seq (.drawB [oo 34 (.mv (.t 0)),oo 35 (.mv (.t 4)),oo 36 (.fieldA 0 (.t 1)),oo 37 (.load 1 false (.t 36)),oo 38 (.mv (.t 4)),oo 39 (.idxS 2 (.t 37) (.t 38)),oo 40 (.load 2 true (.t 39)),oo 41 (.load 2 true (.t 5)),oo 42 (.mv (.t 6)),oo 43 (.mv (.t 3)),oo 44 (.build [z0,z0,z0,z0,z0,z0] [(0,2,(.t 40)),(2,2,(.t 41)),(4,1,(.t 42)),(5,1,(.t 43))]),oo 45 (.icall (.t 34) [(.t 35),(.t 44)]),oo 46 (.un .not (.t 45))] 11 []) (.cond (.t 46) .ret .skip)) (.reg [oo 47 (.mv (.t 3)),oo 48 (.mv (.t 6)),oo 49 (.bin .add (.t 47) (.t 48)),oo 3 (.mv (.t 49))])))))) (.reg [oo 50 (.bin .add (.t 12) (ci 1)),oo 12 (.mv (.t 50))]))))))))
theorem Sa:FnOK prog 271 51 [] Ko:=⟨_,_,func271,rfl,ntmps271,by kernel_rfl,⟨fun r=>if r==6 then [11]else [],by kernel_rfl⟩,by kernel_rfl⟩
/-- The pieces of a chain of points, from a number on. -/
def Ec [Lp](pts:List Spot):Nat→Nat→Int→Option (List (Int×CurvePiece))
  |0,_,_=>some []
  |n+1,i,start=>(pts[i]?).bind fun p=>(pts[i+1]?).bind fun q=>(Hy p q).bind fun v=>(X9 v v).bind fun d=>(Cp d).bind fun r=>
   (Ec pts n (i+1) (H6 (start+r.1))).bind fun l=>some (((i:Int),CurvePiece.mk p v r.1 start)::l)
def Kp [Lp](pts:List Spot):Option (List (Int×CurvePiece)):=if pts.length≤1000000 then Ec pts (pts.length - 1) 0 0 else none
/-- kerbstone/curve.pieces -/
def Mt:AC:=(.seq (.reg [oo 1 (.box 39 true (.t 0)),oo 2 (.mv (.c (.v .nilFunc)))]) (.seq (.reg [oo 3 (.mkfn (.func 271) [] [(.t 1)]),oo 2 (.mv (.t 3))]) .ret))
theorem Up:FnOK prog 257 4 [.t 2] Mt:=⟨_,_,func257,rfl,ntmps257,by kernel_rfl,⟨fun _=> [],by kernel_rfl⟩,by kernel_rfl⟩
abbrev BK (a:Int×CurvePiece):List D:= [i64 a.1, .agg [i64 a.2.p.X,i64 a.2.p.Y,i64 a.2.v.x,i64 a.2.v.y,i64 a.2.l,i64 a.2.start]]
theorem DV (c:Curve):PCall prog 257 [.agg [.list (List.map P0 c.Pts)]] (.fn (.func 271) [] [.bp [.list (List.map P0 c.Pts)] 0]):=by
  refine MF Up (by simp) ?_
  unfold Mt
  refine Hv<|Kw fun _ _=> ?_
  refine GB (.ptr _ _) _ Z Z ?_
  refine N3 (.d _) Z Z ?_
  refine He ?_
  refine Hv<|Kw fun u' hu'=> ?_
  refine N3 (.fn _ _ _) Z Z ?_
  refine N3 (.fn _ _ _) Z Z ?_
  refine He ?_
  refine FX ⟨.inr Z,?_⟩
  refine C1 (B1 (v:= .fn _ _ _) Z) ?_
  exact Zh M3<|J5 (Kx (by simp only [U4,if_true];rfl)<|J5 D4 M3) M3
theorem NP (ps:List Spot)(n:Int)(i:Nat)(p:Spot)(hn:n=i)(h:ps[i]? =some p):(List.map P0 ps)[n.toNat]? =some (P0 p):=by
  subst hn
  rw [bN,lI,h];rfl
theorem GL {n:Int}(h: -9223372036854775808≤n∧n≤9223372036854775807):H6 n=n:=Go.IntWalk.i64_in n h
theorem Uq (pts:List Spot): ∀n i s L,Ec pts n i s=some L→L.length=n:=by
  intro n
  induction n with
  |zero=>intro i s L h;cases h;rfl
  |succ n ih=>
   intro i s L h
   rw [Ec]at h
   obtain ⟨p,hp,h⟩:=bind_some h
   obtain ⟨q,hq,h⟩:=bind_some h
   obtain ⟨v,hv,h⟩:=bind_some h
   obtain ⟨d,hd,h⟩:=bind_some h
   obtain ⟨r,hr,h⟩:=bind_some h
   obtain ⟨l,hl,h⟩:=bind_some h
   cases h
   rw [lJ,ih _ _ _ hl]
theorem DW {pts:List Spot}{L:List (Int×CurvePiece)}(h:Kp pts=some L):MW prog (.fn (.func 271) [] [.bp [.list (List.map P0 pts)] 0]) (L.map BK):=by
  unfold Kp at h
  split at h
  case isFalse=>cases h
  rename_i hlen
  refine ⟨271,[],_,Z,?_⟩
  intro k h0 Inv Stop hi0 hy
  refine ME Sa (by simp) ?_
  unfold Ko
  refine Hv<|Kw fun u hu=> ?_
  refine N3 (.d _) Z Z ?_
  refine He ?_
  refine Hv<|Kw fun u hu=> ?_
  refine N3 (.d _) Z Z ?_
  refine N3 (.d _) Z Z ?_
  refine N3 (.d (i64 pts.length)) Z (D6 (f:=P0) Z) ?_
  refine N3 (.d _) Z Z ?_
  refine N3 (.d _) Z Z ?_
  refine He ?_
  refine Wl ?_
  refine MI (α:=Nat×Int×C6) (fun x=>⟨T [(0, .yld k),(1, .d (.bp [.list (List.map P0 pts)] 0)),(3, .d (i64 x.2.1)),(11, .d (i64<|H6 (pts.length - 1))),(12, .d (i64 x.1))],x.2.2⟩) (fun x=>pts.length - x.1)
    (fun x=>Inv x.1 x.2.2∧x.1≤pts.length - 1∧Ec pts (pts.length - 1 - x.1) x.1 x.2.1=some (L.drop x.1)) (0,0,h0) ⟨hi0,by omega,h⟩ (MO ⟨rfl,rfl,rfl,rfl,rfl,trivial⟩ fun _ _ h=>h) ?_
  rintro ⟨i,start,hh⟩ ⟨hinv,hi,hgo⟩
  dsimp only at hinv hi hgo ⊢
  refine Hv<|Kw fun u hu=> ?_
  refine N3 (.d _) Z Z ?_
  refine He ?_
  refine Hv ?_
  refine MJ Z (fun hlt=> ?_)<|fun hlt=> ?_
  ·refine AX ?_
   have hlen1:H6 ((pts.length:Int) - 1)=pts.length - 1:=GL (by omega)
   rw [hlen1]at hlt
   have hi1:i+1<pts.length:=by omega
   have hw1:IntKind.i64.wrap ((i:Int)+1)=(i:Int)+1:=GL (by omega)
   obtain ⟨m,hm⟩: ∃m,pts.length - 1 - i=m+1:=⟨pts.length - 1 - i - 1,by omega⟩
   rw [hm,Ec]at hgo
   obtain ⟨p,hp,hgo⟩:=bind_some hgo
   obtain ⟨q,hq,hgo⟩:=bind_some hgo
   obtain ⟨v,hv,hgo⟩:=bind_some hgo
   obtain ⟨d,hd,hgo⟩:=bind_some hgo
   obtain ⟨r,hr,hgo⟩:=bind_some hgo
   obtain ⟨l,hl,hgo⟩:=bind_some hgo
   have hgo:((i:Int),CurvePiece.mk p v r.1 start)::l=L.drop i:=lC hgo
   have hLi:L[i]? =some ((i:Int),CurvePiece.mk p v r.1 start):=by
     have:=congrArg (fun z=>z[0]?) hgo
     simpa using this.symm
   have hLd:L.drop (i+1)=l:=by
     have:=congrArg (fun z=>z.drop 1) hgo
     simpa using this.symm
   have hin: ∀(p:Spot) (n:Int) (j:Nat),n=j→pts[j]? =some p→(List.map P0 pts)[n.toNat]? =some (P0 p):=fun p n j=>NP pts n j p
   refine Hv ?_
   refine Wl ?_
   refine Hv<|Kw fun u hu=> ?_
   refine N3 (.d _) Z Z ?_
   refine N3 (.d _) Z Z ?_
   refine He ?_
   refine Hv<|HL Z fun u hu=> ?_
   refine N3 (.d _) Z Z ?_
   refine N3 (.d _) Z Z ?_
   refine N3 (.d _) Z Z ?_
   refine GC _ _ _ _ Z Z (Int.natCast_nonneg i) (hin p _ i Z hp) Z ?_
   refine Tb _ _ _ _ _ Z (hin p _ i Z hp) (by simp) Z ?_
   refine N3 (.d _) Z Z ?_
   refine N3 (.d _) Z Z ?_
   refine N3 (.d _) Z Z ?_
   refine N3 (.d _) Z Z ?_
   refine GC _ _ _ _ Z Z (by rw [hw1];omega) (hin q _ (i+1) (by rw [hw1];rfl) hq) Z ?_
   refine Tb _ _ _ _ _ Z (hin q _ (i+1) (by rw [hw1];rfl) hq) (by simp) Z ?_
   refine Vh Z Z (Ps p q _ hv) (.inl Z) ?_
   refine GB (.ptr _ _) _ Z Z ?_
   refine DE _ _ _ _ _ Z Z Z (by simp only [U4,if_true];rfl) (by simp) ?_
   refine He ?_
   refine Hv<|Kw fun u' hu'=> ?_
   refine Wq _ _ _ _ (.d (.agg [i64 v.x,i64 v.y])) Z (by simp only [U4,if_true];rfl) (by simp [Ey]) Z ?_
   refine Wq _ _ _ _ (.d (.agg [i64 v.x,i64 v.y])) Z (by simp only [U4,if_true];rfl) (by simp [Ey]) Z ?_
   refine Vh Z Z (Fz v v _ hd) (.inl Z) ?_
   refine Vh Z Z (Pt d _ hr) (.inl Z) ?_
   refine N3 (.d _) Z Z ?_
   refine N3 (.d _) Z Z ?_
   refine N3 (.d _) Z Z ?_
   refine N3 (.d _) Z Z ?_
   refine N3 (.d _) Z Z ?_
   refine He ?_
   refine Hv<|Hv ?_
   refine MD Z fun _ _=> ?_
   simp only [List.take,List.drop]
   refine N3 (.yld _) Z Z ?_
   refine N3 (.d _) Z Z ?_
   refine N3 (.d _) Z Z ?_
   refine N3 (.d _) Z Z ?_
   refine N3 (.d _) Z Z ?_
   refine GC _ _ _ _ Z Z (Int.natCast_nonneg i) (hin p _ i Z hp) Z ?_
   refine Tb _ _ _ _ _ Z (hin p _ i Z hp) (by simp) Z ?_
   refine Wq _ _ _ _ (.d (.agg [i64 v.x,i64 v.y])) Z (by simp only [U4,if_true];rfl) (by simp [Ey]) Z ?_
   refine N3 (.d _) Z Z ?_
   refine N3 (.d _) Z Z ?_
   refine N3 (.d _) Z Z ?_
   refine He ?_
   intro u3 hu3
   refine MP k ((BK ((i:Int),CurvePiece.mk p v r.1 start)).map .d) Z Z ?_
   refine YCall.weak (HN hu<|HN hu fun _ _ h=>h) ((hy i hh _ (by rw [lI,hLi];rfl) hinv).mono ?_)
   rintro v' h' (⟨rfl,hin⟩|⟨rfl,hst⟩)
   ·intro u4 hu4
    refine N3 (.d _) Z Z ?_
    refine He ?_
    refine Rk (t:=false) Z (fun h=>by cases h) (fun _=> ?_)
    refine AX ?_
    refine Kw fun u hu=> ?_
    refine N3 (.d _) Z Z ?_
    refine N3 (.d _) Z Z ?_
    refine N3 (.d _) Z Z ?_
    refine N3 (.d _) Z Z ?_
    refine He ?_
    refine Kw fun u hu=> ?_
    refine N3 (.d _) Z Z ?_
    refine N3 (.d _) Z Z ?_
    refine He ?_
    refine ⟨(i+1,H6 (start+r.1),h'),⟨hin,by dsimp only;omega,?_⟩,by dsimp only;omega,MO ⟨rfl,rfl,rfl,rfl,?_,trivial⟩ fun _ _ h=>h⟩
    ·dsimp only
     rw [hLd,show pts.length - 1 - (i+1)=m by omega];exact hl
    ·show AV.d (i64 (IntKind.i64.wrap ((i:Int)+1)))=_
     rw [hw1];rfl
   ·intro u4 hu4
    refine N3 (.d _) Z Z ?_
    refine He ?_
    refine Rk (t:=true) Z (fun _=> ?_) (fun h=>by cases h)
    refine FX ?_
    dsimp only
    exact ⟨Or.inr trivial,AV.tup [],Z,Or.inr hst⟩
  ·refine AY ?_
   have hlen1:1≤pts.length→H6 ((pts.length:Int) - 1)=pts.length - 1:=fun _=>GL (by omega)
   have:i=pts.length - 1:=by
     by_cases h:1≤pts.length
     ·rw [hlen1 h]at hlt;omega
     ·omega
   subst this
   rw [Nat.sub_self,Ec]at hgo
   have hL:(L.map BK).length=pts.length - 1:=by
     have h1:L.drop (pts.length - 1)= []:=(lC hgo).symm
     have h2:=List.drop_eq_nil_iff.1 h1
     rw [lP]
     refine Nat.le_antisymm h2 ?_
     exact Nat.le_of_eq (Uq _ _ _ _ _ h).symm
   exact ⟨.inl Z,_,Z, .inl (by rw [hL];exact hinv)⟩
def Bt (x1:(List Int))(a1:(Int×CurvePiece)):Option (Stp (List Int) (List Int)):=
  (X6 x1 [a1.2.l]).bind fun v3=>some (.go v3)
def Cb [Lp](p1:Curve):Option (List Int):=
  (Ca p1).bind fun v1=>cond (v1 !=0) (some []) (((Kp p1.Pts).bind fun v2=>loopL (Bt) (fun (x1:(List Int))=>x1) v2 []).bind fun y1=>some y1)
theorem Ur(p1 r)(h:Cb p1=some r):PCall prog 268 [(.agg [(.list (List.map P0 p1.Pts))])] (.list (List.map A6 r)):=by
 refine C4 (fk func268 ntmps268 (fun r=>if r==6 then [1003]else []) (by with_unfolding_all rfl)) (nl Z) ?_
 unfold Cb at h
 refine A7 (s0:=⟨T [(0,(.d _))],G []⟩) (G1 Z Z) ?_
 refine B6<|sm Z<|sv Z<|A1<|A3<|B6<|sd Z (B5 Z G_hit Z Z)<|bs h fun _ hv1 h=>B8 Z Z A2 (Of _ _ hv1) (.inl Z) (sv Z<|A1<|cc Z h (fun c1 h=> ?_)<|fun c1 h=> ?_)
 refine B6<|sv Z<|A1<|B4 ?_
 cases h
 exact B0 (.inr Z) (C1 (B1 Z) D4) DLe.nil
 refine B2<|lr<|fun u4 _=>sm Z<|A1<|A3<|B6<|sd Z (B5 Z (gq Z) Z Z)<|B8 Z Z A2 (DV p1) (.inl Z) (A1<|bs h fun y1 hy1 h=>F6 (fun s=> ∃g1:Nat,Sb ⟨T [(3,(.ptr (3,u4) 0))],G [((3,u4),some<|.box 75 [(oS y1 (17,g1))]),((17,g1),oB 2 1 A6 y1)]⟩ s) ?_ ?_)
 refine A8<|bs hy1 fun v2 hv2 hy1=>A7 (s0:=⟨T [(3,(.ptr _ _)),(10,(.d _))],G [((3,u4),some<|.box 75 _)]⟩) (G1 Z Z) ?_
 refine MX (.fn (.func 271) [] [(.bp [(.list (List.map P0 p1.Pts))] 0)]) BK v2 (Bt) (fun (x1:(List Int))=>x1) (fun (x1:(List Int)) (g2:Nat)=> [((3,u4),some<|.box 75 [(oS x1 (17,g2))]),((17,g2),oB 2 1 A6 x1)]) [] 0 _ Z (DW hv2) (fun _=>Z) hy1 (C0 trivial<|B7 G_hit (.of Z)<|M4 trivial) nofun ?_ ?_
 intro u7 hu7 hku7
 refine ⟨fun x1 g2=>(A4 Z<|A4 Z Z),?_⟩
 intro r1 x1 g2 a1 z1 hrr1 hz1 ez1
 unfold Bt at hz1
 show Di _ _ _ _ _ _ ⟨T [(12,(.d (.agg (DT a1.2)))),(11,(di a1.1)),(3,(.ptr (3,u4) 0)),(10,(.d (.fn (.func 271) [] [(.bp [(.list (List.map P0 p1.Pts))] 0)])))],G [((1000000,u7),some (.obj (T [(3,(.ptr (3,u4) 0)),(10,(.d (.fn (.func 271) [] [(.bp [(.list (List.map P0 p1.Pts))] 0)])))]) r1)),((3,u4),some (.box 75 [(oS x1 (17,g2))])),((17,g2),oB 2 1 A6 x1)]⟩
 refine B9<|sm Z<|Aa Z G_hit (DU a1.2) Z (A1<|Az<|TR (gq Z) ?_)
 refine A8<|K8 fun u9 _=>A9 (oS x1 (17,g2)) Z (Bp Z (gq Z) Z) (sq Z<|sl Z (gq Z) Z (A9 (dl A6 [a1.2.l]) Z Z (bs hz1 fun _ hv3 hz1=>H9 A6 (17,g2) x1 a1.2.l [] _ (E4<|fun _=>Z) Z (gq Z) hv3 (Aa Z (gq Z) [(.sl (17,u9))] Z (A1<|E3<|G9 ?_)))))
 cases hz1
 exact TS (gq Z) u9 (B7 G_hit (.box (.cons (.of (Q7<|L4 hv3).symm) .nil))<|H7 (gq Z) trivial)
 rintro x1 g2 _ rfl qx1
 refine E3<|Az ?_
 exact ⟨g2,(Sb.after qx1<|C0 ⟨.of Z,trivial⟩<|B7 G_hit (.of Z)<|C7 (gq Z) trivial)⟩
 rintro _ ⟨g1,q1⟩
 refine A7 q1<|B6<|A9 (oS y1 (17,g1)) Z (Bp Z G_hit Z) (A9 (oS y1 (17,g1)) Z Z (A1<|B4 ?_))
 cases h
 exact B0 (.inr Z) (C1 (B1 Z)<|Cx<|gq Z) Cw
def W6 (v1:(List Int))(x1:(Int×Int)):Option (Stp (Int×Int) Int):=
  cond (decide (x1.2< (v1.length:Int))) ((E8 v1 x1.2).bind fun v2=>some (.go ((H6 (x1.1+v2)),(H6 (x1.2+1))))) (some (.out x1.1))
def Ak [Lp](p1:Curve):Option Int:=
  (Cb p1).bind fun v1=>(loop (W6 v1) (0,0)).bind fun y1=>some y1
theorem Us(p1 r)(h:Ak p1=some r):PCall prog 232 [(.agg [(.list (List.map P0 p1.Pts))])] (i64 r):=by
 refine C4 (fk func232 ntmps232 m0 (by with_unfolding_all rfl)) (nl Z) ?_
 unfold Ak at h
 refine A7 (s0:=⟨T [(0,(.d _))],G []⟩) (G1 Z Z) ?_
 refine B6<|sm Z<|sv Z<|A1<|B6<|sv Z<|A1<|A3<|B6<|sd Z (B5 Z G_hit Z Z)<|bs h fun v1 hv1 h=>B8 Z Z A2 (Ur _ _ hv1) (.inl Z) (sd Z (D6 Z)<|sv Z<|A1<|bs h fun y1 hy1 h=>F6 (fun s=> ∃g1:Unit,Sb ⟨T [(3,(di y1))],G []⟩ s) ?_ ?_)
 refine A8<|G0 (W6 v1) (fun (x1:(Int×Int)) (g2:Unit)=>⟨T [(3,(di x1.1)),(7,(dl A6 v1)),(8,(di (v1.length:Int))),(9,(di x1.2))],G []⟩) (0,0) () _ hy1 (G1 Z Z) ?_
 intro x1 g2 z1 hz1 ez1
 unfold W6 at hz1
 refine B6<|sv Z<|A1<|A3<|cc Z hz1 (fun c1 hz1=> ?_)<|fun c1 hz1=> ?_
 refine B2<|A3<|A8<|B6<|bs hz1 fun _ hv2 hz1=>sd Z (F0 Z Z hv2 Z)<|sd Z (J8 Z hv2 Z)<|sv Z<|A1<|B9<|sv Z<|sv Z<|sv Z<|sv Z<|A1<|E3<|B9<|sv Z<|sv Z<|A1<|G9 ?_
 cases hz1
 exact ⟨Z,(),(G1 Z Z)⟩
 refine D8 Z ?_
 cases hz1
 obtain rfl:=ez1 _ rfl
 refine ⟨nofun,D1 Z<|Az ?_⟩
 exact ⟨(),(G1 Z Z)⟩
 rintro _ ⟨g1,q1⟩
 refine A7 q1<|B6<|sv Z<|sv Z<|A1<|B4 ?_
 cases h
 exact B0 (.inr Z) (C1 (B1 Z) D4) (.refl _)
def V6 [Lp](p1:Map)(p2:Int):Option Int:=
  (E8 p1.Lanes p2).bind fun v1=>(Ak v1.Curve_).bind fun v2=>some v2
theorem Eg(p1 p2 r)(h:V6 p1 p2=some r):PCall prog 165 [(.agg (Q8 p1)),(i64 p2)] (i64 r):=by
 refine C4 (fk func165 ntmps165 m0 (by with_unfolding_all rfl)) (nl Z) ?_
 unfold V6 at h
 refine A7 (s0:=⟨T [(0,(.d _)),(1,(.d _))],G []⟩) (G1 Z Z) ?_
 refine B6<|sm Z<|sv Z<|A1<|B6<|sq Z<|sl Z G_hit Z<|sv Z<|bs h fun _ hv1 h=>sd Z (F0 Z Z hv1 Z)<|sv Z<|sd Z (C8 Z hv1 Z Z)<|bs h fun _ hv2 h=>B8 Z Z A2 (Us _ _ hv2) (.inl Z) (sv Z<|A1<|B4 ?_)
 cases h
 exact B0 (.inr Z) (C1 (B1 Z) D4) (.refl _)
def N6 [Lp](p1:RoadsCheck)(v1:Zone)(x3:Int):Option (Stp Int (Sum Unit Int)):=
  cond (decide (x3< (v1.Parts.length:Int))) ((E8 v1.Parts x3).bind fun v5=>((cond (!((decide (v5.From<0))||(decide (v5.From≥v5.To)))) (V6 p1.Map_ v5.Lane_) (some default))).bind fun v6=>cond (((((decide (v5.From<0))||(decide (v5.From≥v5.To)))||(decide (v5.To>v6)))||(decide (v5.Rank<0)))||(decide (v5.Rank>100))) (some (.out (.inr 2))) (some (.go (H6 (x3+1))))) (some (.out (.inl ())))
def Cc (v1:Zone)(x2:((List Int)×Int)):Option (Stp ((List Int)×Int) (List Int)):=
  cond (decide (x2.2< (v1.Parts.length:Int))) ((E8 v1.Parts x2.2).bind fun v2=>(X6 x2.1 [v2.Lane_]).bind fun v3=>some (.go (v3,(H6 (x2.2+1))))) (some (.out x2.1))
def N7 [Lp](p1:RoadsCheck)(x1:Int):Option (Stp Int (Sum Unit Int)):=
  cond (decide (x1< (p1.Map_.Zones.length:Int))) ((E8 p1.Map_.Zones x1).bind fun v1=>cond (decide ((v1.Parts.length:Int)<2)) (some (.out (.inr 6))) (cond (decide ((v1.Parts.length:Int)>6)) (some (.out (.inr 8))) (cond ((decide (v1.Signal_<0))||(decide (v1.Signal_>(p1.Map_.Signals.length:Int)))) (some (.out (.inr 2))) ((loop (Cc v1) ([],0)).bind fun y2=>(Y5 y2 0 (p1.Map_.Lanes.length:Int)).bind fun v4=>cond (!v4) (some (.out (.inr 11))) (thenS (loop (N6 p1 v1) 0) (fun _=>some (.go (H6 (x1+1)))) (fun r=>some (.out (.inr r)))))))) (some (.out (.inl ())))
def R8 [Lp](p1:RoadsCheck):Option Int:=
  thenS (loop (N7 p1) 0) (fun _=>some 0) (fun r=>some r)
theorem Oh(p1 r)(h:R8 p1=some r):PCall prog 69 [(.agg (Q8 p1.Map_))] (i64 r):=by
 refine C4 (fk func69 ntmps69 (fun r=>if r==15 then [1003]else []) (by with_unfolding_all rfl)) (nl Z) ?_
 unfold R8 at h
 refine A7 (s0:=⟨T [(0,(.d _))],G []⟩) (G1 Z Z) ?_
 refine lr<|fun u1 _=>sm Z<|sv Z<|A1<|A3<|B6<|sq Z<|sp Z Z<|sl Z G_hit Z<|sd Z (D6 Z)<|sv Z<|A1<|js h fun z1 hz1 h=>F6 (fun s=> ∃(y1:Unit) (g1:Unit),z1= .inl y1∧Sb ⟨T [],G []⟩ s) ?_ ?_
 refine A8<|G0 (N7 p1) (fun (x1:Int) (g2:Unit)=>⟨T [(1,(.ptr (1,u1) 0)),(13,(dl F4 p1.Map_.Zones)),(14,(di (p1.Map_.Zones.length:Int))),(15,(di x1))],G [((1,u1),some<|.box 105 (R3 p1.Map_))]⟩) 0 () _ hz1 (G1 Z Z) ?_
 intro x1 g2 z2 hz2 ez2
 unfold N7 at hz2
 refine B6<|sv Z<|A1<|A3<|cc Z hz2 (fun c1 hz2=> ?_)<|fun c1 hz2=> ?_
 refine B2<|A3<|A8<|lr<|fun u4 _=>bs hz2 fun v1 hv1 hz2=>sd Z (F0 Z Z hv1 Z)<|sd Z (C8 Z hv1 Z Z)<|sm Z<|Aa Z G_hit [(dl H3 v1.Parts),(di v1.Signal_)] Z (A1<|A3<|B6<|sq Z<|sl Z G_hit Z<|sd Z (D6 Z)<|sv Z<|A1<|A8<|B6<|sv Z<|sv Z<|sv Z<|A1<|cc Z hz2 (fun c2 hz2=> ?_)<|fun c2 hz2=> ?_)
 refine B6<|sv Z<|A1<|B4 ?_
 cases hz2
 obtain rfl:=ez2 _ rfl
 refine ⟨nofun,G6 ?_⟩
 rw [bM]at h
 cases h
 exact B0 (.inr Z) (C1 (B1 Z) D4) (.refl _)
 refine B6<|sv Z<|sv Z<|sv Z<|A1<|cc Z hz2 (fun c3 hz2=> ?_)<|fun c3 hz2=> ?_
 refine B6<|sv Z<|A1<|B4 ?_
 cases hz2
 obtain rfl:=ez2 _ rfl
 refine ⟨nofun,G6 ?_⟩
 rw [bM]at h
 cases h
 exact B0 (.inr Z) (C1 (B1 Z) D4) (.refl _)
 refine B6<|sq Z<|sl Z G_hit Z<|sv Z<|sv Z<|gp Z (X3 Z) (fun _=>Z) (gf Z (vl Z G_hit Z)<|gp Z (X3 Z) (fun _=>Z) ?_)
 refine Ab _ (.ptr _ _) Z (X3 Z) (fun w4=>(by simp only [A5 w4];rfl)) ?_
 refine gf Z (vl Z (gq Z) Z)<|gf Z (fun w6=>(D6<|A5 w6))<|gf Z (fun w7=>(J3 (A5 w7) (A5 w7) Z))<|sd Z (Gi Z Z<|fun hc=>A5<|Bd hc)<|sv Z<|A1<|cc Z hz2 (fun c4 hz2=> ?_)<|fun c4 hz2=> ?_
 refine A3<|A7 (s0:=⟨T [],G []⟩) (G1 Z Z) ?_
 refine B9<|sv Z<|A1<|B4 ?_
 cases hz2
 obtain rfl:=ez2 _ rfl
 refine ⟨nofun,G6 ?_⟩
 rw [bM]at h
 cases h
 exact B0 (.inr Z) (C1 (B1 Z) D4) (.refl _)
 refine B2<|E3<|A3<|A7 (s0:=⟨T [(1,(.ptr _ _)),(4,(.ptr _ _)),(13,(.d _)),(14,(.d _)),(15,(.d _))],G [((1,u1),some<|.box 105 _),((4,u4),some<|.box 45 _)]⟩) (G1 Z Z) ?_
 refine B9<|sv Z<|A1<|A3<|B6<|sq Z<|sl Z (gq Z) Z (sd Z (D6 Z)<|sv Z<|A1<|bs hz2 fun y2 hy2 hz2=>F6 (fun s=> ∃g3:Nat,Sb ⟨T [(1,(.ptr (1,u1) 0)),(4,(.ptr (4,u4) 0)),(6,(oS y2 (52,g3))),(13,(dl F4 p1.Map_.Zones)),(14,(di (p1.Map_.Zones.length:Int))),(15,(di x1))],G [((1,u1),some<|.box 105 (R3 p1.Map_)),((4,u4),some<|.box 45 [(dl H3 v1.Parts),(di v1.Signal_)]),((52,g3),oB 3 1 A6 y2)]⟩ s) ?_ ?_)
 refine A8<|G0 (Cc v1) (fun (x2:((List Int)×Int)) (g4:Nat)=>⟨T [(1,(.ptr (1,u1) 0)),(4,(.ptr (4,u4) 0)),(6,(oS x2.1 (52,g4))),(13,(dl F4 p1.Map_.Zones)),(14,(di (p1.Map_.Zones.length:Int))),(15,(di x1)),(42,(dl H3 v1.Parts)),(43,(di (v1.Parts.length:Int))),(44,(di x2.2))],G [((1,u1),some<|.box 105 (R3 p1.Map_)),((4,u4),some<|.box 45 [(dl H3 v1.Parts),(di v1.Signal_)]),((52,g4),oB 3 1 A6 x2.1)]⟩) ([],0) 0 _ hy2 (C0 (V4 Z)<|B7 G_hit (.of Z)<|sg Z<|M4 trivial) ?_
 intro x2 g4 z3 hz3 ez3
 unfold Cc at hz3
 refine B6<|sv Z<|A1<|A3<|cc Z hz3 (fun c5 hz3=> ?_)<|fun c5 hz3=> ?_
 refine B2<|A3<|A8<|B6<|bs hz3 fun v2 hv2 hz3=>sd Z (F0 Z Z hv2 Z)<|sd Z (C8 Z hv2 Z Z)<|sm Z<|Aa Z G_hit (Pr v2) Z (A1<|K8 fun u16 _=>A9 (oS x2.1 (52,g4)) Z Z (sq Z<|sl Z G_hit Z<|A9 (dl A6 [v2.Lane_]) Z Z (bs hz3 fun _ hv3 hz3=>H9 A6 (52,g4) x2.1 v2.Lane_ [] _ (E4<|fun _=>Z) Z (gq Z) hv3 (ss Z<|A1<|E3<|A7 (s0:=⟨T [(1,(.ptr _ _)),(4,(.ptr _ _)),(6,(.sl _)),(13,(.d _)),(14,(.d _)),(15,(.d _)),(42,(.d _)),(43,(.d _)),(44,(.d _))],G [((1,u1),some<|.box 105 _),((4,u4),some<|.box 45 _),((52,u16),some _)]⟩) (G1 Z Z) ?_))))
 refine B9<|sv Z<|sv Z<|A1<|G9 ?_
 cases hz3
 exact ⟨Z,u16,(C0 ⟨.of Z, .of Z,(.of (Q7<|L4 hv3).symm), .of Z, .of Z, .of Z, .of Z, .of Z, .of Z,trivial⟩<|B7 G_hit (.of Z)<|sg Z<|H7 (gq Z) trivial)⟩
 refine D8 Z ?_
 cases hz3
 obtain rfl:=ez3 _ rfl
 refine ⟨nofun,D1 Z<|Az ?_⟩
 exact ⟨g4,(C0 (V4 Z)<|B7 G_hit (.of Z)<|sg Z<|C7 (gq Z) trivial)⟩
 rintro _ ⟨g3,q1⟩
 refine A7 q1<|A3<|B6<|A9 (oS y2 (52,g3)) Z Z (sq Z<|sp Z Z<|sl Z G_hit Z<|sd Z (D6 Z)<|bs hz2 fun v4 hv4 hz2=>B8 Z (J5 (Cx<|gq Z)<|rD<|rD M3) (.cons Cw (.cons (.refl _) A2)) (Iu _ _ _ _ hv4) (.inr Z) (A9 (.d (bo (!v4))) Z Z (A1<|cc Z hz2 (fun c6 hz2=> ?_)<|fun c6 hz2=> ?_)))
 refine B6<|sv Z<|A1<|B4 ?_
 cases hz2
 obtain rfl:=ez2 _ rfl
 refine ⟨nofun,G6 ?_⟩
 rw [bM]at h
 cases h
 exact B0 (.inr Z) (C1 (B1 Z) D4) (.refl _)
 refine B2<|B6<|sq Z<|sl Z (gq Z) Z (sd Z (D6 Z)<|sv Z<|A1<|js hz2 fun z4 hz4 hz2=>F6 (fun s=> ∃(y3:Unit) (g5:Unit),z4= .inl y3∧Sb ⟨T [(1,(.ptr (1,u1) 0)),(13,(dl F4 p1.Map_.Zones)),(14,(di (p1.Map_.Zones.length:Int))),(15,(di x1))],G [((1,u1),some<|.box 105 (R3 p1.Map_))]⟩ s) ?_ ?_)
 refine A8<|G0 (N6 p1 v1) (fun (x3:Int) (g6:Unit)=>⟨T [(1,(.ptr (1,u1) 0)),(13,(dl F4 p1.Map_.Zones)),(14,(di (p1.Map_.Zones.length:Int))),(15,(di x1)),(62,(dl H3 v1.Parts)),(63,(di (v1.Parts.length:Int))),(64,(di x3))],G [((1,u1),some<|.box 105 (R3 p1.Map_))]⟩) 0 () _ hz4 (G1 Z Z) ?_
 intro x3 g6 z5 hz5 ez5
 unfold N6 at hz5
 refine B6<|sv Z<|A1<|A3<|cc Z hz5 (fun c7 hz5=> ?_)<|fun c7 hz5=> ?_
 refine B2<|A3<|A8<|B6<|bs hz5 fun v5 hv5 hz5=>sd Z (F0 Z Z hv5 Z)<|sd Z (C8 Z hv5 Z Z)<|sm Z<|Aa Z G_hit (Pr v5) Z (A1<|A3<|Q1 Z<|sq Z<|sl Z G_hit Z<|sv Z<|sv Z<|gp Z (X3 Z) (fun _=>Z) (gf Z (vl Z G_hit Z)<|gp Z (X3 Z) (fun _=>Z) (gf Z (vl Z G_hit Z)<|gf Z (fun w12=>(J3 (A5 w12) (A5 w12) Z))<|sd Z (Gi Z Z<|fun hc=>A5<|Bd hc)<|sv Z<|gp Z (X3 Z) (fun _=>Z) (gf Z (vl Z G_hit Z)<|gp Z (X3 Z) (fun _=>Z) (gf Z (fun w16=>(B5 (A5 w16) (gq Z) Z Z))<|gp Z (X3 Z) (fun _=>Z) (gf Z (vl Z G_hit Z)<|bs hz5 fun v6 hv6 hz5=> ?_))))))
 refine S4 _ (i64 v6) (X3 Z) (fun w19=>⟨_,[(.d (.agg (Q8 p1.Map_))),(di v5.Lane_)],_,_,(by simp only [A5 w19];rfl),Z,A2,Eg _ _ _<|L8 w19 hv6,(.inl Z)⟩) ?_
 refine gf Z (fun w20=>(J3 (A5 w20) (A5 w20) Z))<|sd Z (Gi Z Z<|fun hc=>A5<|Bd hc)<|sv Z<|gp Z (X3 Z) (fun _=>Z) (gf Z (vl Z G_hit Z)<|gf Z (vb Z Z Z)<|sd Z (Gi Z Z<|fun hc=>A5<|Bd hc)<|sv Z<|gp Z (X3 Z) (fun _=>Z) (gf Z (vl Z G_hit Z)<|gf Z (vb Z Z Z)<|sd Z (Gi Z Z<|fun hc=>A5<|Bd hc)<|A1<|cc Z hz5 (fun c8 hz5=> ?_)<|fun c8 hz5=> ?_))
 refine A3<|A7 (s0:=⟨T [],G []⟩) (G1 Z Z) ?_
 refine B9<|sv Z<|A1<|B4 ?_
 cases hz5
 obtain rfl:=ez5 _ rfl
 refine ⟨nofun,G6 ?_⟩
 rw [bM]at hz2
 cases hz2
 obtain rfl:=ez2 _ rfl
 refine ⟨nofun,G6 ?_⟩
 rw [bM]at h
 cases h
 exact B0 (.inr Z) (C1 (B1 Z) D4) (.refl _)
 refine B2<|E3<|A7 (s0:=⟨T [(1,(.ptr _ _)),(13,(.d _)),(14,(.d _)),(15,(.d _)),(62,(.d _)),(63,(.d _)),(64,(.d _))],G [((1,u1),some<|.box 105 _)]⟩) (G1 Z Z) ?_
 refine B9<|sv Z<|sv Z<|A1<|G9 ?_
 cases hz5
 exact ⟨Z,(),(G1 Z Z)⟩
 refine D8 Z ?_
 cases hz5
 obtain rfl:=ez5 _ rfl
 refine ⟨nofun,D1 Z<|Az ?_⟩
 exact ⟨_,(),Z,(G1 Z Z)⟩
 rintro _ ⟨y3,g5,rfl,q2⟩
 rw [bL]at hz2
 refine E3<|A7 q2<|B9<|sv Z<|sv Z<|A1<|G9 ?_
 cases hz2
 exact ⟨Z,(),(G1 Z Z)⟩
 refine D8 Z ?_
 cases hz2
 obtain rfl:=ez2 _ rfl
 refine ⟨nofun,D1 Z<|Az ?_⟩
 exact ⟨_,(),Z,(G1 Z Z)⟩
 rintro _ ⟨y1,g1,rfl,q3⟩
 rw [bL]at h
 refine A7 q3<|B6<|sv Z<|A1<|B4 ?_
 cases h
 exact B0 (.inr Z) (C1 (B1 Z) D4) (.refl _)
def N8 [Lp](p1:RoadsCheck)(x1:Int):Option (Stp Int (Sum Unit Int)):=
  cond (decide (x1< (p1.Map_.Works.length:Int))) ((E8 p1.Map_.Works x1).bind fun v1=>cond ((decide (v1.Lane_<0))||(decide (v1.Lane_≥(p1.Map_.Lanes.length:Int)))) (some (.out (.inr 7))) ((E8 p1.Map_.Lanes v1.Lane_).bind fun v2=>(Fl v2.Kind).bind fun v3=>((cond (!((decide (v1.From<0))||(decide (v1.From>v1.To)))) (V6 p1.Map_ v1.Lane_) (some default))).bind fun v4=>((cond (!((((((decide (v1.From<0))||(decide (v1.From>v1.To)))||(decide (v1.To>v4)))||(decide (v1.Begin<0)))||(decide (v1.Begin≥v1.End)))||(decide (v1.End>1099511627776)))) (T3 v1.Limit 0 v3.1) (some default))).bind fun v5=>cond (((((((decide (v1.From<0))||(decide (v1.From>v1.To)))||(decide (v1.To>v4)))||(decide (v1.Begin<0)))||(decide (v1.Begin≥v1.End)))||(decide (v1.End>1099511627776)))||(!v5)) (some (.out (.inr 2))) (some (.go (H6 (x1+1)))))) (some (.out (.inl ())))
def R9 [Lp](p1:RoadsCheck):Option Int:=
  thenS (loop (N8 p1) 0) (fun _=>some 0) (fun r=>some r)
theorem Oi(p1 r)(h:R9 p1=some r):PCall prog 70 [(.agg (Q8 p1.Map_))] (i64 r):=by
 refine C4 (fk func70 ntmps70 m0 (by with_unfolding_all rfl)) (nl Z) ?_
 unfold R9 at h
 refine A7 (s0:=⟨T [(0,(.d _))],G []⟩) (G1 Z Z) ?_
 refine lr<|fun u1 _=>sm Z<|sv Z<|A1<|A3<|B6<|sq Z<|sp Z Z<|sl Z G_hit Z<|sd Z (D6 Z)<|sv Z<|A1<|js h fun z1 hz1 h=>F6 (fun s=> ∃(y1:Unit) (g1:Unit),z1= .inl y1∧Sb ⟨T [],G []⟩ s) ?_ ?_
 refine A8<|G0 (N8 p1) (fun (x1:Int) (g2:Unit)=>⟨T [(1,(.ptr (1,u1) 0)),(10,(dl I6 p1.Map_.Works)),(11,(di (p1.Map_.Works.length:Int))),(12,(di x1))],G [((1,u1),some<|.box 105 (R3 p1.Map_))]⟩) 0 () _ hz1 (G1 Z Z) ?_
 intro x1 g2 z2 hz2 ez2
 unfold N8 at hz2
 refine B6<|sv Z<|A1<|A3<|cc Z hz2 (fun c1 hz2=> ?_)<|fun c1 hz2=> ?_
 refine B2<|A3<|A8<|lr<|fun u4 _=>bs hz2 fun v1 hv1 hz2=>sd Z (F0 Z Z hv1 Z)<|sd Z (C8 Z hv1 Z Z)<|sm Z<|Aa Z G_hit (DS v1) Z (A1<|A3<|B6<|sq Z<|sl Z G_hit Z<|sv Z<|sv Z<|gp Z (X3 Z) (fun _=>Z) (gf Z (vl Z G_hit Z)<|gp Z (X3 Z) (fun _=>Z) ?_))
 refine Ab _ (.ptr _ _) Z (X3 Z) (fun w4=>(by simp only [A5 w4];rfl)) ?_
 refine gf Z (vl Z (gq Z) Z)<|gf Z (fun w6=>(D6<|A5 w6))<|gf Z (fun w7=>(J3 (A5 w7) (A5 w7) Z))<|sd Z (Gi Z Z<|fun hc=>A5<|Bd hc)<|A1<|cc Z hz2 (fun c2 hz2=> ?_)<|fun c2 hz2=> ?_
 refine A3<|A7 (s0:=⟨T [],G []⟩) (G1 Z Z) ?_
 refine B9<|sv Z<|A1<|B4 ?_
 cases hz2
 obtain rfl:=ez2 _ rfl
 refine ⟨nofun,G6 ?_⟩
 rw [bM]at h
 cases h
 exact B0 (.inr Z) (C1 (B1 Z) D4) (.refl _)
 refine B2<|A3<|A7 (s0:=⟨T [(1,(.ptr _ _)),(4,(.ptr _ _)),(10,(.d _)),(11,(.d _)),(12,(.d _))],G [((1,u1),some<|.box 105 _),((4,u4),some<|.box 50 _)]⟩) (G1 Z Z) ?_
 refine B9<|sq Z<|sq Z<|sl Z G_hit Z<|sq Z<|sl Z (gq Z) Z (bs hz2 fun _ hv2 hz2=>sd Z (F0 Z Z hv2 Z)<|sv Z<|sd Z (J8 Z hv2 Z)<|bs hz2 fun v3 hv3 hz2=>B8 Z Z A2 (Ms _ _ hv3) (.inl Z) (sv Z<|sv Z<|sv Z<|sv Z<|sv Z<|sv Z<|sv Z<|A1<|A3<|A7 (s0:=⟨T [(1,(.ptr _ _)),(4,(.ptr _ _)),(5,(.d _)),(10,(.d _)),(11,(.d _)),(12,(.d _))],G [((1,u1),some<|.box 105 _),((4,u4),some<|.box 50 _)]⟩) (G1 Z Z) ?_))
 refine Q1 Z<|sq Z<|sl Z (gq Z) Z (sv Z<|sv Z<|gp Z (X3 Z) (fun _=>Z) (gf Z (vl Z (gq Z) Z)<|gp Z (X3 Z) (fun _=>Z) (gf Z (vl Z (gq Z) Z)<|gf Z (fun w12=>(J3 (A5 w12) (A5 w12) Z))<|sd Z (Gi Z Z<|fun hc=>A5<|Bd hc)<|sv Z<|gp Z (X3 Z) (fun _=>Z) (gf Z (vl Z (gq Z) Z)<|gp Z (X3 Z) (fun _=>Z) (gf Z (fun w16=>(B5 (A5 w16) G_hit Z Z))<|gp Z (X3 Z) (fun _=>Z) (gf Z (vl Z (gq Z) Z)<|bs hz2 fun v4 hv4 hz2=> ?_))))))
 refine S4 _ (i64 v4) (X3 Z) (fun w19=>⟨_,[(.d (.agg (Q8 p1.Map_))),(di v1.Lane_)],_,_,(by simp only [A5 w19];rfl),Z,A2,Eg _ _ _<|L8 w19 hv4,(.inl Z)⟩) ?_
 refine gf Z (fun w20=>(J3 (A5 w20) (A5 w20) Z))<|sd Z (Gi Z Z<|fun hc=>A5<|Bd hc)<|sv Z<|gp Z (X3 Z) (fun _=>Z) (gf Z (vl Z (gq Z) Z)<|gf Z (vb Z Z Z)<|sd Z (Gi Z Z<|fun hc=>A5<|Bd hc)<|sv Z<|gp Z (X3 Z) (fun _=>Z) (gf Z (vl Z (gq Z) Z)<|gp Z (X3 Z) (fun _=>Z) (gf Z (vl Z (gq Z) Z)<|gf Z (fun w28=>(J3 (A5 w28) (A5 w28) Z))<|sd Z (Gi Z Z<|fun hc=>A5<|Bd hc)<|sv Z<|gp Z (X3 Z) (fun _=>Z) (gf Z (vl Z (gq Z) Z)<|gf Z (vb Z Z Z)<|sd Z (Gi Z Z<|fun hc=>A5<|Bd hc)<|sv Z<|gp Z (X3 Z) (fun _=>Z) (gf Z (vl Z (gq Z) Z)<|gf Z (fun _=>Z)<|bs hz2 fun v5 hv5 hz2=> ?_)))))
 refine S4 _ (bo v5) (X3 Z) (fun w35=>⟨_,[(di v1.Limit),(di 0),(di v3.1)],_,_,(by simp only [A5 w35];rfl),Z,A2,T0 _ _ _ _<|L8 w35 hv5,(.inl Z)⟩) ?_
 refine Ab _ (.d (bo (!v5))) Z (X3 Z) (fun w36=>(by simp only [A5 w36];rfl)) ?_
 refine sd Z (Gi Z Z<|fun hc=>A5<|Bd hc)<|A1<|cc Z hz2 (fun c3 hz2=> ?_)<|fun c3 hz2=> ?_
 refine A3<|A7 (s0:=⟨T [],G []⟩) (G1 Z Z) ?_
 refine B9<|sv Z<|A1<|B4 ?_
 cases hz2
 obtain rfl:=ez2 _ rfl
 refine ⟨nofun,G6 ?_⟩
 rw [bM]at h
 cases h
 exact B0 (.inr Z) (C1 (B1 Z) D4) (.refl _)
 refine B2<|E3<|A7 (s0:=⟨T [(1,(.ptr _ _)),(10,(.d _)),(11,(.d _)),(12,(.d _))],G [((1,u1),some<|.box 105 _)]⟩) (G1 Z Z) ?_
 refine B9<|sv Z<|sv Z<|A1<|G9 ?_
 cases hz2
 exact ⟨Z,(),(G1 Z Z)⟩
 refine D8 Z ?_
 cases hz2
 obtain rfl:=ez2 _ rfl
 refine ⟨nofun,D1 Z<|Az ?_⟩
 exact ⟨_,(),Z,(G1 Z Z)⟩
 rintro _ ⟨y1,g1,rfl,q1⟩
 rw [bL]at h
 refine A7 q1<|B6<|sv Z<|A1<|B4 ?_
 cases h
 exact B0 (.inr Z) (C1 (B1 Z) D4) (.refl _)
def P5 [Lp](v:Nat)(p1:RoadsCheck):Option Int:=
  cond (Nat.beq v 65) (W4 p1) (cond (Nat.beq v 66) (R7 p1) (cond (Nat.beq v 67) (Q6 p1) (cond (Nat.beq v 68) (P2 p1) (cond (Nat.beq v 69) (R8 p1) (cond (Nat.beq v 70) (R9 p1) (none))))))
theorem Io(v p1 r)(h:P5 v p1=some r):PCall prog v [(.agg [(i64 p1.Map_.Version),(.list (List.map G5 p1.Map_.Lanes)),(.list (List.map F4 p1.Map_.Zones)),(.list (List.map E2 p1.Map_.Signals)),(.list (List.map I6 p1.Map_.Works))])] (i64 r):=by
  unfold P5 at h
  rcases Ti h with ⟨rfl,h⟩|⟨_,h⟩
  ·exact Mh _ r h
  rcases Ti h with ⟨rfl,h⟩|⟨_,h⟩
  ·exact Og _ r h
  rcases Ti h with ⟨rfl,h⟩|⟨_,h⟩
  ·exact Ng _ r h
  rcases Ti h with ⟨rfl,h⟩|⟨_,h⟩
  ·exact Mi _ r h
  rcases Ti h with ⟨rfl,h⟩|⟨_,h⟩
  ·exact Oh _ r h
  rcases Ti h with ⟨rfl,h⟩|⟨_,h⟩
  ·exact Oi _ r h
  cases h
def K9 [Lp](p1:Map)(x1:Int):Option (Stp Int (Sum Unit Int)):=
  cond (decide (x1< ([65,66,67,68,69,70].length:Int))) ((E8 [65,66,67,68,69,70] x1).bind fun v1=>(P5 v1 (RoadsCheck.mk p1)).bind fun v2=>cond (v2 !=0) (some (.out (.inr v2))) (some (.go (H6 (x1+1))))) (some (.out (.inl ())))
def Q5 [Lp](p1:Map):Option Int:=
  thenS (loop (K9 p1) 0) (fun _=>some 0) (fun r=>some r)
theorem Z2(p1 r)(h:Q5 p1=some r):PCall prog 16 [(.agg (Q8 p1))] (i64 r):=by
 refine C4 (fk func16 ntmps16 (fun r=>if r==1 then [1000]else []) (by with_unfolding_all rfl)) (nl Z) ?_
 unfold Q5 at h
 refine A7 (s0:=⟨T [(0,(.d _))],G []⟩) (G1 Z Z) ?_
 refine lr<|fun u1 _=>sm Z<|sv Z<|A1<|A3<|B6<|A9 (dl XH [65,66,67,68,69,70]) Z Z (sd Z (D6 Z)<|sv Z<|A1<|js h fun z1 hz1 h=>F6 (fun s=> ∃(y1:Unit) (g1:Unit),z1= .inl y1∧Sb ⟨T [],G []⟩ s) ?_ ?_)
 refine A8<|G0 (K9 p1) (fun (x1:Int) (g2:Unit)=>⟨T [(1,(.ptr (1,u1) 0)),(6,(dl XH [65,66,67,68,69,70])),(7,(di ([65,66,67,68,69,70].length:Int))),(8,(di x1))],G [((1,u1),some<|.box 27 (R3 p1))]⟩) 0 () _ hz1 (G1 Z Z) ?_
 intro x1 g2 z2 hz2 ez2
 unfold K9 at hz2
 refine B6<|sv Z<|A1<|A3<|cc Z hz2 (fun c1 hz2=> ?_)<|fun c1 hz2=> ?_
 refine B2<|A3<|A8<|B6<|bs hz2 fun _ hv1 hz2=>sd Z (F0 Z Z hv1 Z)<|sd Z (J8 Z hv1 Z)<|sv Z<|A1<|B6<|sv Z<|sd Z (B5 Z G_hit Z Z)<|sv Z<|bs hz2 fun _ hv2 hz2=>B8 Z Z A2 (Io _ _ _ hv2) (.inl Z) (sv Z<|A1<|B6<|sv Z<|sv Z<|A1<|cc Z hz2 (fun c2 hz2=> ?_)<|fun c2 hz2=> ?_)
 refine B6<|sv Z<|sv Z<|A1<|B4 ?_
 cases hz2
 obtain rfl:=ez2 _ rfl
 refine ⟨nofun,G6 ?_⟩
 rw [bM]at h
 cases h
 exact B0 (.inr Z) (C1 (B1 Z) D4) (.refl _)
 refine B2<|E3<|B9<|sv Z<|sv Z<|A1<|G9 ?_
 cases hz2
 exact ⟨Z,(),(G1 Z Z)⟩
 refine D8 Z ?_
 cases hz2
 obtain rfl:=ez2 _ rfl
 refine ⟨nofun,D1 Z<|Az ?_⟩
 exact ⟨_,(),Z,(G1 Z Z)⟩
 rintro _ ⟨y1,g1,rfl,q1⟩
 rw [bL]at h
 refine A7 q1<|B6<|sv Z<|A1<|B4 ?_
 cases h
 exact B0 (.inr Z) (C1 (B1 Z) D4) (.refl _)
def T5 (p1:(List Spot))(p2:(List Spot))(x1:Int):Option (Stp Int (Sum Unit Bool)):=
  cond (decide (x1< (p1.length:Int))) ((E8 p1 x1).bind fun v1=>(E8 p2 x1).bind fun v2=>cond (!(v1.X==v2.X&& (v1.Y==v2.Y&&true))) (some (.out (.inr false))) (some (.go (H6 (x1+1))))) (some (.out (.inl ())))
def Al [Lp](p1:(List Spot))(p2:(List Spot)):Option Bool:=
  cond ((p1.length:Int) !=(p2.length:Int)) (some false) (thenS (loop (T5 p1 p2) 0) (fun _=>some true) (fun r=>some r))
theorem Kg(p1 p2 r)(h:Al p1 p2=some r):PCall prog 251 [(.list (List.map P0 p1)),(.list (List.map P0 p2))] (bo r):=by
 refine C4 (fk func251 ntmps251 m0 (by with_unfolding_all rfl)) (nl Z) ?_
 unfold Al at h
 refine A7 (s0:=⟨T [(0,(.d _)),(1,(.d _))],G []⟩) (G1 Z Z) ?_
 refine B6<|sv Z<|A1<|A3<|B6<|sv Z<|sd Z (D6 Z)<|sv Z<|sd Z (D6 Z)<|sv Z<|A1<|cc Z h (fun c1 h=> ?_)<|fun c1 h=> ?_
 refine B6<|sv Z<|A1<|B4 ?_
 cases h
 exact B0 (.inr Z) (C1 (B1 Z) D4) (.refl _)
 refine B2<|A3<|B6<|sv Z<|sd Z (D6 Z)<|sv Z<|A1<|js h fun z1 hz1 h=>F6 (fun s=> ∃(y1:Unit) (g1:Unit),z1= .inl y1∧Sb ⟨T [],G []⟩ s) ?_ ?_
 refine A8<|G0 (T5 p1 p2) (fun (x1:Int) (g2:Unit)=>⟨T [(0,(dl P0 p1)),(1,(dl P0 p2)),(12,(di (p1.length:Int))),(13,(di x1))],G []⟩) 0 () _ hz1 (G1 Z Z) ?_
 intro x1 g2 z2 hz2 ez2
 unfold T5 at hz2
 refine B6<|sv Z<|A1<|A3<|cc Z hz2 (fun c2 hz2=> ?_)<|fun c2 hz2=> ?_
 refine B2<|A3<|A8<|B6<|sv Z<|sv Z<|A1<|A3<|Q1 Z<|sv Z<|sv Z<|bs hz2 fun v1 hv1 hz2=>sd Z (F0 Z Z hv1 Z)<|sd Z (C8 Z hv1 Z Z)<|sv Z<|sv Z<|bs hz2 fun v2 hv2 hz2=>sd Z (F0 Z Z hv2 Z)<|sd Z (C8 Z hv2 Z Z)<|A9 (.d (bo (!(v1.X==v2.X&& (v1.Y==v2.Y&&true))))) Z Z (A1<|cc Z hz2 (fun c3 hz2=> ?_)<|fun c3 hz2=> ?_)
 refine B6<|sv Z<|A1<|B4 ?_
 cases hz2
 obtain rfl:=ez2 _ rfl
 refine ⟨nofun,G6 ?_⟩
 rw [bM]at h
 cases h
 exact B0 (.inr Z) (C1 (B1 Z) D4) (.refl _)
 refine B2<|E3<|B9<|sv Z<|sv Z<|A1<|G9 ?_
 cases hz2
 exact ⟨Z,(),(G1 Z Z)⟩
 refine D8 Z ?_
 cases hz2
 obtain rfl:=ez2 _ rfl
 refine ⟨nofun,D1 Z<|Az ?_⟩
 exact ⟨_,(),Z,(G1 Z Z)⟩
 rintro _ ⟨y1,g1,rfl,q1⟩
 rw [bL]at h
 refine A7 q1<|B6<|sv Z<|A1<|B4 ?_
 cases h
 exact B0 (.inr Z) (C1 (B1 Z) D4) (.refl _)
def Mj [Lp](p1:Curve)(p2:Curve):Option Bool:=
  (Al p1.Pts p2.Pts).bind fun v1=>some v1
theorem Yh(p1 p2 r)(h:Mj p1 p2=some r):PCall prog 198 [(.agg [(.list (List.map P0 p1.Pts))]),(.agg [(.list (List.map P0 p2.Pts))])] (bo r):=by
 refine C4 (fk func198 ntmps198 m0 (by with_unfolding_all rfl)) (nl Z) ?_
 unfold Mj at h
 refine A7 (s0:=⟨T [(0,(.d _)),(1,(.d _))],G []⟩) (G1 Z Z) ?_
 refine B6<|sm Z<|sn Z Z<|sv Z<|A1<|B6<|sq Z<|sl Z (gq Z) Z (sq Z<|sl Z G_hit Z<|bs h fun _ hv1 h=>B8 Z Z A2 (Kg _ _ _ hv1) (.inl Z) (sv Z<|A1<|B4 ?_))
 cases h
 exact B0 (.inr Z) (C1 (B1 Z) D4) (.refl _)
def U7 (p1:(List Int))(p2:(List Int))(x1:Int):Option (Stp Int (Sum Unit Bool)):=
  cond (decide (x1< (p1.length:Int))) ((E8 p1 x1).bind fun v1=>(E8 p2 x1).bind fun v2=>cond (v1 !=v2) (some (.out (.inr false))) (some (.go (H6 (x1+1))))) (some (.out (.inl ())))
def Z3 [Lp](p1:(List Int))(p2:(List Int)):Option Bool:=
  cond ((p1.length:Int) !=(p2.length:Int)) (some false) (thenS (loop (U7 p1 p2) 0) (fun _=>some true) (fun r=>some r))
theorem Gs(p1 p2 r)(h:Z3 p1 p2=some r):PCall prog 199 [(.list (List.map A6 p1)),(.list (List.map A6 p2))] (bo r):=by
 refine C4 (fk func199 ntmps199 m0 (by with_unfolding_all rfl)) (nl Z) ?_
 unfold Z3 at h
 refine A7 (s0:=⟨T [(0,(.d _)),(1,(.d _))],G []⟩) (G1 Z Z) ?_
 refine B6<|sv Z<|A1<|A3<|B6<|sv Z<|sd Z (D6 Z)<|sv Z<|sd Z (D6 Z)<|sv Z<|A1<|cc Z h (fun c1 h=> ?_)<|fun c1 h=> ?_
 refine B6<|sv Z<|A1<|B4 ?_
 cases h
 exact B0 (.inr Z) (C1 (B1 Z) D4) (.refl _)
 refine B2<|A3<|B6<|sv Z<|sd Z (D6 Z)<|sv Z<|A1<|js h fun z1 hz1 h=>F6 (fun s=> ∃(y1:Unit) (g1:Unit),z1= .inl y1∧Sb ⟨T [],G []⟩ s) ?_ ?_
 refine A8<|G0 (U7 p1 p2) (fun (x1:Int) (g2:Unit)=>⟨T [(0,(dl A6 p1)),(1,(dl A6 p2)),(12,(di (p1.length:Int))),(13,(di x1))],G []⟩) 0 () _ hz1 (G1 Z Z) ?_
 intro x1 g2 z2 hz2 ez2
 unfold U7 at hz2
 refine B6<|sv Z<|A1<|A3<|cc Z hz2 (fun c2 hz2=> ?_)<|fun c2 hz2=> ?_
 refine B2<|A3<|A8<|B6<|sv Z<|sv Z<|A1<|A3<|Q1 Z<|sv Z<|sv Z<|bs hz2 fun _ hv1 hz2=>sd Z (F0 Z Z hv1 Z)<|sd Z (J8 Z hv1 Z)<|sv Z<|sv Z<|bs hz2 fun _ hv2 hz2=>sd Z (F0 Z Z hv2 Z)<|sd Z (J8 Z hv2 Z)<|sv Z<|A1<|cc Z hz2 (fun c3 hz2=> ?_)<|fun c3 hz2=> ?_
 refine B6<|sv Z<|A1<|B4 ?_
 cases hz2
 obtain rfl:=ez2 _ rfl
 refine ⟨nofun,G6 ?_⟩
 rw [bM]at h
 cases h
 exact B0 (.inr Z) (C1 (B1 Z) D4) (.refl _)
 refine B2<|E3<|B9<|sv Z<|sv Z<|A1<|G9 ?_
 cases hz2
 exact ⟨Z,(),(G1 Z Z)⟩
 refine D8 Z ?_
 cases hz2
 obtain rfl:=ez2 _ rfl
 refine ⟨nofun,D1 Z<|Az ?_⟩
 exact ⟨_,(),Z,(G1 Z Z)⟩
 rintro _ ⟨y1,g1,rfl,q1⟩
 rw [bL]at h
 refine A7 q1<|B6<|sv Z<|A1<|B4 ?_
 cases h
 exact B0 (.inr Z) (C1 (B1 Z) D4) (.refl _)
def Cz [Lp](p1:Lane)(p2:Lane):Option Bool:=
  ((cond (((p1.Kind==p2.Kind)&& (p1.Half==p2.Half))&& (p1.Limit==p2.Limit)) (Mj p1.Curve_ p2.Curve_) (some default))).bind fun v1=>((cond ((((p1.Kind==p2.Kind)&& (p1.Half==p2.Half))&& (p1.Limit==p2.Limit))&&v1) (Z3 p1.Next p2.Next) (some default))).bind fun v2=>some (((((p1.Kind==p2.Kind)&& (p1.Half==p2.Half))&& (p1.Limit==p2.Limit))&&v1)&&v2)
theorem Sc(p1 p2 r)(h:Cz p1 p2=some r):PCall prog 96 [(.agg (G5 p1)),(.agg (G5 p2))] (bo r):=by
 refine C4 (fk func96 ntmps96 m0 (by with_unfolding_all rfl)) (nl Z) ?_
 unfold Cz at h
 refine A7 (s0:=⟨T [(0,(.d _)),(1,(.d _))],G []⟩) (G1 Z Z) ?_
 refine B6<|sm Z<|sn Z Z<|sv Z<|A1<|B6<|sq Z<|sl Z (gq Z) Z (sq Z<|sl Z G_hit Z<|sv Z<|sv Z<|gp Z (J1 Z) (fun _=>Z) (gt Z (vl Z (gq Z) Z)<|gp Z (J1 Z) (fun _=>Z) (gt Z (vl Z G_hit Z)<|gt Z (fun w5=>(J3 (A5 w5) (A5 w5) Z))<|sa Z Z Z<|sv Z<|gp Z (J1 Z) (fun _=>Z) (gt Z (vl Z (gq Z) Z)<|gp Z (J1 Z) (fun _=>Z) (gt Z (vl Z G_hit Z)<|gt Z (fun w10=>(J3 (A5 w10) (A5 w10) Z))<|sa Z Z Z<|sv Z<|gp Z (J1 Z) (fun _=>Z) (gt Z (fun w12=>(B5 (A5 w12) (gq Z) Z Z))<|gp Z (J1 Z) (fun _=>Z) (gt Z (fun w14=>(B5 (A5 w14) G_hit Z Z))<|bs h fun v1 hv1 h=> ?_)))))))
 refine S4 _ (bo v1) (J1 Z) (fun w15=>⟨_,[(.d (.agg [(.list (List.map P0 p1.Curve_.Pts))])),(.d (.agg [(.list (List.map P0 p2.Curve_.Pts))]))],_,_,(by simp only [A5 w15];rfl),Z,A2,Yh _ _ _<|L8 w15 hv1,(.inl Z)⟩) ?_
 refine sa Z Z Z<|sv Z<|gp Z (J1 Z) (fun _=>Z) (gt Z (vl Z (gq Z) Z)<|gp Z (J1 Z) (fun _=>Z) (gt Z (vl Z G_hit Z)<|bs h fun v2 hv2 h=> ?_))
 refine S4 _ (bo v2) (J1 Z) (fun w20=>⟨_,[(dl A6 p1.Next),(dl A6 p2.Next)],_,_,(by simp only [A5 w20];rfl),Z,A2,Gs _ _ _<|L8 w20 hv2,(.inl Z)⟩) ?_
 refine sa Z Z Z<|sv Z<|A1<|B4 ?_
 cases h
 exact B0 (.inr Z) (C1 (B1 Z) D4) (.refl _)
def Dr (p1:List Spot):Option (List Spot):=X6 [] p1
theorem Et (p1:List Spot)(a0:D)(hl:X6 ([]:List Spot) p1=some p1)(hn: ∀h,H4 (T [(3, .d a0),(2, .d .nilS),(0, .d a0)]) h (.isnil false (.t 3))=some (.d (bo false)))(he: ∀h,X4 h 2 (.d a0)=some (List.map P0 p1)):
    PCall prog 269 [a0] (.list (List.map P0 p1)):=by
  refine C4 (fk func269 ntmps269 m0 (by with_unfolding_all rfl)) (Nat.le_of_ble_eq_true Z) ?_
  refine (A7 (s0:=⟨T [(0, .d a0)],G []⟩) (C0 ⟨.of Z,trivial⟩ trivial) ?_)
  refine A3 ?_
  refine K8 fun _ _=> ?_
  refine A9 (.d .nilS) Z Z ?_
  refine A1 ?_
  refine A3 ?_
  refine A3 ?_
  refine K8 fun _ _=> ?_
  refine A9 (.d a0) Z Z ?_
  refine A9 (.d (bo false)) Z (hn _) ?_
  refine A1 ?_
  refine Ox Z ?_
  refine B2 ?_
  refine A3 ?_
  refine K8 fun _ _=> ?_
  refine Hf (.sl _) (.arr 148 2 (List.map P0 ([]:List Spot))) Z Z ?_
  refine A9 (.d a0) Z Z ?_
  refine Dz P0 _ [] p1 _ (he _) Z G_hit hl ?_
  refine A9 (.sl _) Z Z ?_
  refine A1 ?_
  refine B4 ?_
  exact B0 (.inr Z) (C1 (B1 Z)<|Wr G_hit) (.refl _)
theorem Kh(p1 r)(h:Dr p1=some r):PCall prog 269 [.list (List.map P0 p1)] (.list (List.map P0 r)):=by
  have hr:r=p1:=by obtain ⟨_,rfl⟩:=Ee h;rfl
  subst hr
  cases r with
  |cons x xs=>exact Et (x::xs) _ h (fun _=>rfl) fun _=>E4 (fun _=>rfl)
  |nil=>
   refine PCall.nil fun A cap=> ?_
   cases A with
   |some A=>exact Et [] (.v (.slice (some A) 0 cap)) h (fun _=>rfl) fun _=>rfl
   |none=>
    refine C4 (fk func269 ntmps269 m0 (by with_unfolding_all rfl)) (Nat.le_of_ble_eq_true Z) ?_
    refine (A7 (s0:=⟨T [(0, .d (.v (.slice none 0 cap)))],G []⟩) (C0 ⟨.of Z,trivial⟩ trivial) ?_)
    refine A3 ?_
    refine K8 fun _ _=> ?_
    refine A9 (.d .nilS) Z Z ?_
    refine A1 ?_
    refine A3 ?_
    refine A3 ?_
    refine K8 fun _ _=> ?_
    refine A9 (.d _) Z Z ?_
    refine A9 (.d (bo true)) Z Z ?_
    refine A1 ?_
    refine Ow Z ?_
    refine A3 ?_
    refine K8 fun _ _=> ?_
    refine A9 (.d .nilS) Z Z ?_
    refine A1 ?_
    refine B4 ?_
    exact B0 (.inr Z) (C1 (B1 Z) D4) .nil
def If (p1:(List Spot)):Option Curve:=
  (Dr p1).bind fun v1=>some (Curve.mk v1)
theorem Tj(p1 r)(h:If p1=some r):PCall prog 250 [(.list (List.map P0 p1))] (.agg [(.list (List.map P0 r.Pts))]):=by
 refine C4 (fk func250 ntmps250 m0 (by with_unfolding_all rfl)) (nl Z) ?_
 unfold If at h
 refine A7 (s0:=⟨T [(0,(.d _))],G []⟩) (G1 Z Z) ?_
 refine B6<|sm Z<|A1<|B6<|sv Z<|bs h fun v1 hv1 h=>B8 Z Z A2 (Kh _ _ hv1) (.inl Z) (sv Z<|Aa Z G_hit [(dl P0 v1)] Z (A1<|B4 ?_))
 cases h
 exact B0 (.inr Z) (C1 (I3 Z G_hit (nl Z) Z) D4) (.refl _)
def Mk (p1:Curve):Option Curve:=
  (If p1.Pts).bind fun v1=>some v1
theorem Yi(p1 r)(h:Mk p1=some r):PCall prog 194 [(.agg [(.list (List.map P0 p1.Pts))])] (.agg [(.list (List.map P0 r.Pts))]):=by
 refine C4 (fk func194 ntmps194 m0 (by with_unfolding_all rfl)) (nl Z) ?_
 unfold Mk at h
 refine A7 (s0:=⟨T [(0,(.d _))],G []⟩) (G1 Z Z) ?_
 refine B6<|sm Z<|sn Z Z<|A1<|B6<|sq Z<|sl Z (gq Z) Z (bs h fun v1 hv1 h=>B8 Z Z A2 (Tj _ _ hv1) (.inl Z) (Aa Z G_hit [(dl P0 v1.Pts)] Z (A1<|B4 ?_)))
 cases h
 exact B0 (.inr Z) (C1 (I3 Z G_hit (nl Z) Z) D4) (.refl _)
def Z4 (p1:List Int):Option (List Int):=X6 [] p1
theorem Fw (p1:List Int)(a0:D)(hl:X6 ([]:List Int) p1=some p1)(hn: ∀h,H4 (T [(3, .d a0),(2, .d .nilS),(0, .d a0)]) h (.isnil false (.t 3))=some (.d (bo false)))(he: ∀h,X4 h 1 (.d a0)=some (List.map A6 p1)):
    PCall prog 195 [a0] (.list (List.map A6 p1)):=by
  refine C4 (fk func195 ntmps195 m0 (by with_unfolding_all rfl)) (Nat.le_of_ble_eq_true Z) ?_
  refine (A7 (s0:=⟨T [(0, .d a0)],G []⟩) (C0 ⟨.of Z,trivial⟩ trivial) ?_)
  refine A3 ?_
  refine K8 fun _ _=> ?_
  refine A9 (.d .nilS) Z Z ?_
  refine A1 ?_
  refine A3 ?_
  refine A3 ?_
  refine K8 fun _ _=> ?_
  refine A9 (.d a0) Z Z ?_
  refine A9 (.d (bo false)) Z (hn _) ?_
  refine A1 ?_
  refine Ox Z ?_
  refine B2 ?_
  refine A3 ?_
  refine K8 fun _ _=> ?_
  refine Hf (.sl _) (.arr 3 1 (List.map A6 ([]:List Int))) Z Z ?_
  refine A9 (.d a0) Z Z ?_
  refine Dz A6 _ [] p1 _ (he _) Z G_hit hl ?_
  refine A9 (.sl _) Z Z ?_
  refine A1 ?_
  refine B4 ?_
  exact B0 (.inr Z) (C1 (B1 Z)<|Wr G_hit) (.refl _)
theorem Gu(p1 r)(h:Z4 p1=some r):PCall prog 195 [.list (List.map A6 p1)] (.list (List.map A6 r)):=by
  have hr:r=p1:=by obtain ⟨_,rfl⟩:=Ee h;rfl
  subst hr
  cases r with
  |cons x xs=>exact Fw (x::xs) _ h (fun _=>rfl) fun _=>E4 (fun _=>rfl)
  |nil=>
   refine PCall.nil fun A cap=> ?_
   cases A with
   |some A=>exact Fw [] (.v (.slice (some A) 0 cap)) h (fun _=>rfl) fun _=>rfl
   |none=>
    refine C4 (fk func195 ntmps195 m0 (by with_unfolding_all rfl)) (Nat.le_of_ble_eq_true Z) ?_
    refine (A7 (s0:=⟨T [(0, .d (.v (.slice none 0 cap)))],G []⟩) (C0 ⟨.of Z,trivial⟩ trivial) ?_)
    refine A3 ?_
    refine K8 fun _ _=> ?_
    refine A9 (.d .nilS) Z Z ?_
    refine A1 ?_
    refine A3 ?_
    refine A3 ?_
    refine K8 fun _ _=> ?_
    refine A9 (.d _) Z Z ?_
    refine A9 (.d (bo true)) Z Z ?_
    refine A1 ?_
    refine Ow Z ?_
    refine A3 ?_
    refine K8 fun _ _=> ?_
    refine A9 (.d .nilS) Z Z ?_
    refine A1 ?_
    refine B4 ?_
    exact B0 (.inr Z) (C1 (B1 Z) D4) .nil
def Ap (p1:Lane):Option Lane:=
  (Mk p1.Curve_).bind fun v1=>(Z4 p1.Next).bind fun v2=>some (Lane.mk p1.Kind v1 p1.Half p1.Limit v2)
theorem Fm(p1 r)(h:Ap p1=some r):PCall prog 87 [(.agg (G5 p1))] (.agg (G5 r)):=by
 refine C4 (fk func87 ntmps87 m0 (by with_unfolding_all rfl)) (nl Z) ?_
 unfold Ap at h
 refine A7 (s0:=⟨T [(0,(.d _))],G []⟩) (G1 Z Z) ?_
 refine B6<|sm Z<|sn Z Z<|A1<|A3<|Q1 Z<|sq Z<|sd Z (B5 Z (gq Z) Z Z)<|bs h fun v1 hv1 h=>B8 Z Z A2 (Yi _ _ hv1) (.inl Z) (sq Z<|sl Z (gq Z) Z (bs h fun v2 hv2 h=>B8 Z Z A2 (Gu _ _ hv2) (.inl Z) (sq Z<|Aa Z (gq Z) ((In p1).set 1 (dl P0 v1.Pts)) Z (sq Z<|Aa Z G_hit (((In p1).set 1 (dl P0 v1.Pts)).set 4 (dl A6 v2)) Z (A1<|B6<|sd Z (B5 Z G_hit Z Z)<|Aa Z (gq Z) (((In p1).set 1 (dl P0 v1.Pts)).set 4 (dl A6 v2)) Z (A1<|B4 ?_))))))
 cases h
 exact B0 (.inr Z) (C1 (I3 Z G_hit (nl Z) Z) D4) (.refl _)
def Fo (p1:Edit)(p2:Lane):Option Edit:=
  (Ap p2).bind fun v1=>some (Edit.mk p1.Kind p1.Table p1.At v1 p1.Zone_ p1.Signal_ p1.Work_)
theorem Mu(p1 p2 r)(h:Fo p1 p2=some r):PCall prog 97 [(.agg (G2 p1)),(.agg (G5 p2))] (.agg (G2 r)):=by
 refine C4 (fk func97 ntmps97 m0 (by with_unfolding_all rfl)) (nl Z) ?_
 unfold Fo at h
 refine A7 (s0:=⟨T [(0,(.d _)),(1,(.d _))],G []⟩) (G1 Z Z) ?_
 refine B6<|sm Z<|sn Z Z<|sm Z<|A1<|B6<|sd Z (B5 Z (gq Z) Z Z)<|bs h fun v1 hv1 h=>B8 Z Z A2 (Fm _ _ hv1) (.inl Z) (sq Z<|Aa Z (gq Z) ((((((Od p1).set 3 (di v1.Kind)).set 4 (dl P0 v1.Curve_.Pts)).set 5 (di v1.Half)).set 6 (di v1.Limit)).set 7 (dl A6 v1.Next)) Z (A1<|B6<|sd Z (B5 Z G_hit Z Z)<|Aa Z (gq Z) ((((((Od p1).set 3 (di v1.Kind)).set 4 (dl P0 v1.Curve_.Pts)).set 5 (di v1.Half)).set 6 (di v1.Limit)).set 7 (dl A6 v1.Next)) Z (A1<|B4 ?_)))
 cases h
 exact B0 (.inr Z) (C1 (I3 Z G_hit (nl Z) Z) D4) (.refl _)
def N9 (p1:Int)(p3:(List Lane))(x3:((List Edit)×Int)):Option (Stp ((List Edit)×Int) (List Edit)):=
  cond (decide (x3.2< (p3.length:Int))) ((E8 p3 x3.2).bind fun v8=>(Fo (Edit.mk 1 p1 x3.2 (Lane.mk 0 (Curve.mk []) 0 0 []) (Zone.mk [] 0) (Signal.mk 0 []) (Work.mk 0 0 0 0 0 0)) v8).bind fun v9=>(X6 x3.1 [v9]).bind fun v10=>some (.go (v10,(H6 (x3.2+1))))) (some (.out x3.1))
def O0 (p1:Int)(p2:(List Lane))(p3:(List Lane))(x2:((List Edit)×Int)):Option (Stp ((List Edit)×Int) (List Edit)):=
  cond (decide (x2.2≥(Fi false (p2.length:Int) (p3.length:Int)))) ((X6 x2.1 [(Edit.mk 2 p1 x2.2 (Lane.mk 0 (Curve.mk []) 0 0 []) (Zone.mk [] 0) (Signal.mk 0 []) (Work.mk 0 0 0 0 0 0))]).bind fun v7=>some (.go (v7,(H6 (x2.2 - 1))))) (some (.out x2.1))
def O1 [Lp](p1:Int)(p2:(List Lane))(p3:(List Lane))(x1:((List Edit)×Int)):Option (Stp ((List Edit)×Int) (List Edit)):=
  cond (decide (x1.2< (Fi false (p2.length:Int) (p3.length:Int)))) ((E8 p2 x1.2).bind fun v1=>(E8 p3 x1.2).bind fun v2=>(Cz v1 v2).bind fun v3=>cond (!v3) ((E8 p3 x1.2).bind fun v4=>(Fo (Edit.mk 3 p1 x1.2 (Lane.mk 0 (Curve.mk []) 0 0 []) (Zone.mk [] 0) (Signal.mk 0 []) (Work.mk 0 0 0 0 0 0)) v4).bind fun v5=>(X6 x1.1 [v5]).bind fun v6=>some (.go (v6,(H6 (x1.2+1))))) (some (.go (x1.1,(H6 (x1.2+1)))))) (some (.out x1.1))
def I4 [Lp](p1:Int)(p2:(List Lane))(p3:(List Lane)):Option (List Edit):=
  (loop (O1 p1 p2 p3) ([],0)).bind fun y1=>(loop (O0 p1 p2 p3) (y1,(H6 ((p2.length:Int) - 1)))).bind fun y2=>(loop (N9 p1 p3) (y2,(Fi false (p2.length:Int) (p3.length:Int)))).bind fun y3=>some y3
theorem Cd(p1 p2 p3 r)(h:I4 p1 p2 p3=some r):PCall prog 95 [(i64 p1),(.list (List.map G5 p2)),(.list (List.map G5 p3)),(.fn (.func 96) [] []),(.fn (.func 97) [] [])] (.list (List.map G2 r)):=by
 refine C4 (fk func95 ntmps95 (fun r=>if r==7 then [1010]else if r==12 then [1004]else if r==16 then [1010]else []) (by with_unfolding_all rfl)) (nl Z) ?_
 unfold I4 at h
 refine A7 (s0:=⟨T [(0,(.d _)),(1,(.d _)),(2,(.d _)),(3,(.d _)),(4,(.d _))],G []⟩) (G1 Z Z) ?_
 refine B6<|sv Z<|A1<|B6<|sv Z<|A1<|B6<|sv Z<|sd Z (D6 Z)<|sv Z<|sd Z (D6 Z)<|sv Z<|sv Z<|A1<|A3<|B6<|sv Z<|sv Z<|A1<|bs h fun y1 hy1 h=>F6 (fun s=> ∃g1:Nat,Sb ⟨T [(0,(di p1)),(1,(dl G5 p2)),(2,(dl G5 p3)),(4,(.d (.fn (.func 97) [] []))),(11,(oS y1 (47,g1))),(12,(di<|Fi false (p2.length:Int) (p3.length:Int)))],G [((47,g1),oB 52 18 G2 y1)]⟩ s) ?_ ?_
 refine A8<|G0 (O1 p1 p2 p3) (fun (x1:((List Edit)×Int)) (g2:Nat)=>⟨T [(0,(di p1)),(1,(dl G5 p2)),(2,(dl G5 p3)),(3,(.d (.fn (.func 96) [] []))),(4,(.d (.fn (.func 97) [] []))),(11,(oS x1.1 (47,g2))),(12,(di<|Fi false (p2.length:Int) (p3.length:Int))),(21,(di<|Fi false (p2.length:Int) (p3.length:Int))),(22,(di x1.2))],G [((47,g2),oB 52 18 G2 x1.1)]⟩) ([],0) 0 _ hy1 (C0 (V4 Z)<|M4 trivial) ?_
 intro x1 g2 z1 hz1 ez1
 unfold O1 at hz1
 refine B6<|sv Z<|A1<|A3<|cc Z hz1 (fun c1 hz1=> ?_)<|fun c1 hz1=> ?_
 refine B2<|A3<|A8<|B6<|sv Z<|sv Z<|A1<|A3<|Q1 Z<|sv Z<|sv Z<|sv Z<|bs hz1 fun _ hv1 hz1=>sd Z (F0 Z Z hv1 Z)<|sd Z (C8 Z hv1 Z Z)<|sv Z<|sv Z<|bs hz1 fun _ hv2 hz1=>sd Z (F0 Z Z hv2 Z)<|sd Z (C8 Z hv2 Z Z)<|bs hz1 fun v3 hv3 hz1=>B8 Z Z A2 (Sc _ _ _ hv3) (.inl Z) (A9 (.d (bo (!v3))) Z Z (A1<|cc Z hz1 (fun c2 hz1=> ?_)<|fun c2 hz1=> ?_))
 refine A7 (s0:=⟨T [(0,(di p1)),(1,(dl G5 p2)),(2,(dl G5 p3)),(3,(.d (.fn (.func 96) [] []))),(4,(.d (.fn (.func 97) [] []))),(11,(oS x1.1 (47,g2))),(12,(di<|Fi false (p2.length:Int) (p3.length:Int))),(13,(di x1.2)),(21,(di<|Fi false (p2.length:Int) (p3.length:Int))),(22,(di x1.2))],G [((47,g2),oB 52 18 G2 x1.1)]⟩) (C0 (V4 Z)<|C7 G_hit trivial) ?_
 refine K8 fun u8 _=>A9 (oS x1.1 (47,g2)) Z Z (sv Z<|sv Z<|sv Z<|sv Z<|sv Z<|sv Z<|bs hz1 fun _ hv4 hz1=>sd Z (F0 Z Z hv4 Z)<|sd Z (C8 Z hv4 Z Z)<|bs hz1 fun v5 hv5 hz1=>B8 Z Z (.cons (.agg (ca Z<|ca Z<|ca Z<|ca Z<|.cons ⟨DLe.nil,Z⟩ (ca Z<|ca Z<|.cons ⟨DLe.nil,Z⟩ (.cons ⟨DLe.nil,Z⟩ (ca Z<|ca Z<|.cons ⟨DLe.nil,Z⟩ (cz Z)))))) A2) (Mu _ _ _ hv5) (.inl Z) (A9 (dl G2 [v5]) Z (Ef G2 ([v5]:List Edit) (fun _=>Z) Z Z ⟨Z,Z,Z,trivial⟩ (fun _=>Z)) (bs hz1 fun _ hv6 hz1=>H9 G2 (47,g2) x1.1 v5 [] _ (E4<|fun _=>Z) Z G_hit hv6 (ss Z<|A1<|E3<|A7 (s0:=⟨T [(0,(.d _)),(1,(.d _)),(2,(.d _)),(3,(.d _)),(4,(.d _)),(11,(.sl _)),(12,(.d _)),(21,(.d _)),(22,(.d _))],G [((47,u8),some _)]⟩) (G1 Z Z) ?_))))
 refine B9<|sv Z<|sv Z<|A1<|G9 ?_
 cases hz1
 exact ⟨Z,u8,(C0 ⟨.of Z, .of Z, .of Z, .of Z, .of Z,(.of (Q7<|L4 hv6).symm), .of Z, .of Z, .of Z,trivial⟩<|H7 G_hit trivial)⟩
 refine B2<|E3<|A7 (s0:=⟨T [(0,(di p1)),(1,(dl G5 p2)),(2,(dl G5 p3)),(3,(.d (.fn (.func 96) [] []))),(4,(.d (.fn (.func 97) [] []))),(11,(oS x1.1 (47,g2))),(12,(di<|Fi false (p2.length:Int) (p3.length:Int))),(21,(di<|Fi false (p2.length:Int) (p3.length:Int))),(22,(di x1.2))],G [((47,g2),oB 52 18 G2 x1.1)]⟩) (C0 (V4 Z)<|C7 G_hit trivial) ?_
 refine B9<|sv Z<|sv Z<|A1<|G9 ?_
 cases hz1
 exact ⟨Z,g2,(C0 (V4 Z)<|C7 G_hit trivial)⟩
 refine D8 Z ?_
 cases hz1
 obtain rfl:=ez1 _ rfl
 refine ⟨nofun,D1 Z<|Az ?_⟩
 exact ⟨g2,(C0 (V4 Z)<|C7 G_hit trivial)⟩
 rintro _ ⟨g1,q1⟩
 refine A7 q1<|A3<|B6<|sv Z<|sd Z (D6 Z)<|sv Z<|sv Z<|A1<|bs h fun y2 hy2 h=>F6 (fun s=> ∃g3:({d:Nat // d∈ [47,62]}×Nat),Sb ⟨T [(0,(di p1)),(2,(dl G5 p3)),(4,(.d (.fn (.func 97) [] []))),(11,(oS y2 (g3.1.val,g3.2))),(12,(di<|Fi false (p2.length:Int) (p3.length:Int)))],G [((g3.1.val,g3.2),oB 52 18 G2 y2)]⟩ s) ?_ ?_
 refine A8<|G0 (O0 p1 p2 p3) (fun (x2:((List Edit)×Int)) (g4:({d:Nat // d∈ [47,62]}×Nat))=>⟨T [(0,(di p1)),(2,(dl G5 p3)),(4,(.d (.fn (.func 97) [] []))),(11,(oS x2.1 (g4.1.val,g4.2))),(12,(di<|Fi false (p2.length:Int) (p3.length:Int))),(14,(di x2.2))],G [((g4.1.val,g4.2),oB 52 18 G2 x2.1)]⟩) (y1,(H6 ((p2.length:Int) - 1))) (⟨47, .head _⟩,g1) _ hy2 (C0 (V4 Z)<|C7 G_hit trivial) ?_
 intro x2 g4 z2 hz2 ez2
 unfold O0 at hz2
 refine A3<|B6<|sv Z<|sv Z<|sv Z<|A1<|cc Z hz2 (fun c3 hz2=> ?_)<|fun c3 hz2=> ?_
 refine B2<|A3<|A8<|K8 fun u13 _=>A9 (oS x2.1 (g4.1.val,g4.2)) Z Z (sv Z<|sv Z<|sv Z<|A9 (dl G2 [(Edit.mk 2 p1 x2.2 (Lane.mk 0 (Curve.mk []) 0 0 []) (Zone.mk [] 0) (Signal.mk 0 []) (Work.mk 0 0 0 0 0 0))]) Z Z (bs hz2 fun _ hv7 hz2=>H9 G2 (g4.1.val,g4.2) x2.1 (Edit.mk 2 p1 x2.2 (Lane.mk 0 (Curve.mk []) 0 0 []) (Zone.mk [] 0) (Signal.mk 0 []) (Work.mk 0 0 0 0 0 0)) [] _ (E4<|fun _=>Z) Z G_hit hv7 (ss Z<|A1<|E3<|B9<|sv Z<|sv Z<|sv Z<|A1<|G9 ?_)))
 cases hz2
 exact ⟨Z,(⟨62, .tail _ (.head _)⟩,u13),(C0 ⟨.of Z, .of Z, .of Z,(.of (Q7<|L4 hv7).symm), .of Z, .of Z,trivial⟩<|H7 G_hit trivial)⟩
 refine D8 Z ?_
 cases hz2
 obtain rfl:=ez2 _ rfl
 refine ⟨nofun,D1 Z<|Az ?_⟩
 exact ⟨(g4.1,g4.2),(C0 (V4 Z)<|C7 G_hit trivial)⟩
 rintro _ ⟨g3,q2⟩
 refine A7 q2<|A3<|B6<|sv Z<|sv Z<|A1<|bs h fun y3 hy3 h=>F6 (fun s=> ∃g5:({d:Nat // d∈ [47,62,81]}×Nat),Sb ⟨T [(11,(oS y3 (g5.1.val,g5.2)))],G [((g5.1.val,g5.2),oB 52 18 G2 y3)]⟩ s) ?_ ?_
 refine A8<|G0 (N9 p1 p3) (fun (x3:((List Edit)×Int)) (g6:({d:Nat // d∈ [47,62,81]}×Nat))=>⟨T [(0,(di p1)),(2,(dl G5 p3)),(4,(.d (.fn (.func 97) [] []))),(11,(oS x3.1 (g6.1.val,g6.2))),(15,(di x3.2))],G [((g6.1.val,g6.2),oB 52 18 G2 x3.1)]⟩) (y2,(Fi false (p2.length:Int) (p3.length:Int))) (⟨g3.1.val,RC g3.1.property Z⟩,g3.2) _ hy3 (C0 (V4 Z)<|C7 G_hit trivial) ?_
 intro x3 g6 z3 hz3 ez3
 unfold N9 at hz3
 refine A3<|B6<|sv Z<|sv Z<|sd Z (D6 Z)<|sv Z<|A1<|cc Z hz3 (fun c4 hz3=> ?_)<|fun c4 hz3=> ?_
 refine B2<|A3<|A8<|K8 fun u17 _=>A9 (oS x3.1 (g6.1.val,g6.2)) Z Z (sv Z<|sv Z<|sv Z<|sv Z<|sv Z<|sv Z<|bs hz3 fun _ hv8 hz3=>sd Z (F0 Z Z hv8 Z)<|sd Z (C8 Z hv8 Z Z)<|bs hz3 fun v9 hv9 hz3=>B8 Z Z (.cons (.agg (ca Z<|ca Z<|ca Z<|ca Z<|.cons ⟨DLe.nil,Z⟩ (ca Z<|ca Z<|.cons ⟨DLe.nil,Z⟩ (.cons ⟨DLe.nil,Z⟩ (ca Z<|ca Z<|.cons ⟨DLe.nil,Z⟩ (cz Z)))))) A2) (Mu _ _ _ hv9) (.inl Z) (A9 (dl G2 [v9]) Z (Ef G2 ([v9]:List Edit) (fun _=>Z) Z Z ⟨Z,Z,Z,trivial⟩ (fun _=>Z)) (bs hz3 fun _ hv10 hz3=>H9 G2 (g6.1.val,g6.2) x3.1 v9 [] _ (E4<|fun _=>Z) Z G_hit hv10 (ss Z<|A1<|E3<|A7 (s0:=⟨T [(0,(.d _)),(2,(.d _)),(4,(.d _)),(11,(.sl _)),(15,(.d _))],G [((81,u17),some _)]⟩) (G1 Z Z) ?_))))
 refine B9<|sv Z<|sv Z<|sv Z<|A1<|G9 ?_
 cases hz3
 exact ⟨Z,(⟨81, .tail _ (.tail _ (.head _))⟩,u17),(C0 ⟨.of Z, .of Z, .of Z,(.of (Q7<|L4 hv10).symm), .of Z,trivial⟩<|H7 G_hit trivial)⟩
 refine D8 Z ?_
 cases hz3
 obtain rfl:=ez3 _ rfl
 refine ⟨nofun,D1 Z<|Az ?_⟩
 exact ⟨(g6.1,g6.2),(C0 ⟨.of Z,trivial⟩<|C7 G_hit trivial)⟩
 rintro _ ⟨g5,q3⟩
 refine A7 q3<|B6<|A9 (oS y3 (g5.1.val,g5.2)) Z Z (A9 (oS y3 (g5.1.val,g5.2)) Z Z (A1<|B4 ?_))
 cases h
 exact B0 (.inr Z) (C1 (B1 Z)<|Cx G_hit) Cw
def T6 (p1:(List Part))(p2:(List Part))(x1:Int):Option (Stp Int (Sum Unit Bool)):=
  cond (decide (x1< (p1.length:Int))) ((E8 p1 x1).bind fun v1=>(E8 p2 x1).bind fun v2=>cond (!(v1.Lane_==v2.Lane_&& (v1.From==v2.From&& (v1.To==v2.To&& (v1.Rank==v2.Rank&&true))))) (some (.out (.inr false))) (some (.go (H6 (x1+1))))) (some (.out (.inl ())))
def Am [Lp](p1:(List Part))(p2:(List Part)):Option Bool:=
  cond ((p1.length:Int) !=(p2.length:Int)) (some false) (thenS (loop (T6 p1 p2) 0) (fun _=>some true) (fun r=>some r))
theorem Ki(p1 p2 r)(h:Am p1 p2=some r):PCall prog 200 [(.list (List.map H3 p1)),(.list (List.map H3 p2))] (bo r):=by
 refine C4 (fk func200 ntmps200 m0 (by with_unfolding_all rfl)) (nl Z) ?_
 unfold Am at h
 refine A7 (s0:=⟨T [(0,(.d _)),(1,(.d _))],G []⟩) (G1 Z Z) ?_
 refine B6<|sv Z<|A1<|A3<|B6<|sv Z<|sd Z (D6 Z)<|sv Z<|sd Z (D6 Z)<|sv Z<|A1<|cc Z h (fun c1 h=> ?_)<|fun c1 h=> ?_
 refine B6<|sv Z<|A1<|B4 ?_
 cases h
 exact B0 (.inr Z) (C1 (B1 Z) D4) (.refl _)
 refine B2<|A3<|B6<|sv Z<|sd Z (D6 Z)<|sv Z<|A1<|js h fun z1 hz1 h=>F6 (fun s=> ∃(y1:Unit) (g1:Unit),z1= .inl y1∧Sb ⟨T [],G []⟩ s) ?_ ?_
 refine A8<|G0 (T6 p1 p2) (fun (x1:Int) (g2:Unit)=>⟨T [(0,(dl H3 p1)),(1,(dl H3 p2)),(12,(di (p1.length:Int))),(13,(di x1))],G []⟩) 0 () _ hz1 (G1 Z Z) ?_
 intro x1 g2 z2 hz2 ez2
 unfold T6 at hz2
 refine B6<|sv Z<|A1<|A3<|cc Z hz2 (fun c2 hz2=> ?_)<|fun c2 hz2=> ?_
 refine B2<|A3<|A8<|B6<|sv Z<|sv Z<|A1<|A3<|Q1 Z<|sv Z<|sv Z<|bs hz2 fun v1 hv1 hz2=>sd Z (F0 Z Z hv1 Z)<|sd Z (C8 Z hv1 Z Z)<|sv Z<|sv Z<|bs hz2 fun v2 hv2 hz2=>sd Z (F0 Z Z hv2 Z)<|sd Z (C8 Z hv2 Z Z)<|A9 (.d (bo (!(v1.Lane_==v2.Lane_&& (v1.From==v2.From&& (v1.To==v2.To&& (v1.Rank==v2.Rank&&true))))))) Z Z (A1<|cc Z hz2 (fun c3 hz2=> ?_)<|fun c3 hz2=> ?_)
 refine B6<|sv Z<|A1<|B4 ?_
 cases hz2
 obtain rfl:=ez2 _ rfl
 refine ⟨nofun,G6 ?_⟩
 rw [bM]at h
 cases h
 exact B0 (.inr Z) (C1 (B1 Z) D4) (.refl _)
 refine B2<|E3<|B9<|sv Z<|sv Z<|A1<|G9 ?_
 cases hz2
 exact ⟨Z,(),(G1 Z Z)⟩
 refine D8 Z ?_
 cases hz2
 obtain rfl:=ez2 _ rfl
 refine ⟨nofun,D1 Z<|Az ?_⟩
 exact ⟨_,(),Z,(G1 Z Z)⟩
 rintro _ ⟨y1,g1,rfl,q1⟩
 rw [bL]at h
 refine A7 q1<|B6<|sv Z<|A1<|B4 ?_
 cases h
 exact B0 (.inr Z) (C1 (B1 Z) D4) (.refl _)
def Da [Lp](p1:Zone)(p2:Zone):Option Bool:=
  ((cond (p1.Signal_==p2.Signal_) (Am p1.Parts p2.Parts) (some default))).bind fun v1=>some ((p1.Signal_==p2.Signal_)&&v1)
theorem Sd(p1 p2 r)(h:Da p1 p2=some r):PCall prog 99 [(.agg [(.list (List.map H3 p1.Parts)),(i64 p1.Signal_)]),(.agg [(.list (List.map H3 p2.Parts)),(i64 p2.Signal_)])] (bo r):=by
 refine C4 (fk func99 ntmps99 m0 (by with_unfolding_all rfl)) (nl Z) ?_
 unfold Da at h
 refine A7 (s0:=⟨T [(0,(.d _)),(1,(.d _))],G []⟩) (G1 Z Z) ?_
 refine B6<|sm Z<|sn Z Z<|sv Z<|A1<|B6<|sq Z<|sl Z (gq Z) Z (sq Z<|sl Z G_hit Z<|sv Z<|sv Z<|gp Z (J1 Z) (fun _=>Z) (gt Z (vl Z (gq Z) Z)<|gp Z (J1 Z) (fun _=>Z) (gt Z (vl Z G_hit Z)<|bs h fun v1 hv1 h=> ?_)))
 refine S4 _ (bo v1) (J1 Z) (fun w5=>⟨_,[(dl H3 p1.Parts),(dl H3 p2.Parts)],_,_,(by simp only [A5 w5];rfl),Z,A2,Ki _ _ _<|L8 w5 hv1,(.inl Z)⟩) ?_
 refine sa Z Z Z<|sv Z<|A1<|B4 ?_
 cases h
 exact B0 (.inr Z) (C1 (B1 Z) D4) (.refl _)
def Ds (p1:List Part):Option (List Part):=X6 [] p1
theorem Eu (p1:List Part)(a0:D)(hl:X6 ([]:List Part) p1=some p1)(hn: ∀h,H4 (T [(3, .d a0),(2, .d .nilS),(0, .d a0)]) h (.isnil false (.t 3))=some (.d (bo false)))(he: ∀h,X4 h 4 (.d a0)=some (List.map H3 p1)):
    PCall prog 196 [a0] (.list (List.map H3 p1)):=by
  refine C4 (fk func196 ntmps196 m0 (by with_unfolding_all rfl)) (Nat.le_of_ble_eq_true Z) ?_
  refine (A7 (s0:=⟨T [(0, .d a0)],G []⟩) (C0 ⟨.of Z,trivial⟩ trivial) ?_)
  refine A3 ?_
  refine K8 fun _ _=> ?_
  refine A9 (.d .nilS) Z Z ?_
  refine A1 ?_
  refine A3 ?_
  refine A3 ?_
  refine K8 fun _ _=> ?_
  refine A9 (.d a0) Z Z ?_
  refine A9 (.d (bo false)) Z (hn _) ?_
  refine A1 ?_
  refine Ox Z ?_
  refine B2 ?_
  refine A3 ?_
  refine K8 fun _ _=> ?_
  refine Hf (.sl _) (.arr 91 4 (List.map H3 ([]:List Part))) Z Z ?_
  refine A9 (.d a0) Z Z ?_
  refine Dz H3 _ [] p1 _ (he _) Z G_hit hl ?_
  refine A9 (.sl _) Z Z ?_
  refine A1 ?_
  refine B4 ?_
  exact B0 (.inr Z) (C1 (B1 Z)<|Wr G_hit) (.refl _)
theorem Kj(p1 r)(h:Ds p1=some r):PCall prog 196 [.list (List.map H3 p1)] (.list (List.map H3 r)):=by
  have hr:r=p1:=by obtain ⟨_,rfl⟩:=Ee h;rfl
  subst hr
  cases r with
  |cons x xs=>exact Eu (x::xs) _ h (fun _=>rfl) fun _=>E4 (fun _=>rfl)
  |nil=>
   refine PCall.nil fun A cap=> ?_
   cases A with
   |some A=>exact Eu [] (.v (.slice (some A) 0 cap)) h (fun _=>rfl) fun _=>rfl
   |none=>
    refine C4 (fk func196 ntmps196 m0 (by with_unfolding_all rfl)) (Nat.le_of_ble_eq_true Z) ?_
    refine (A7 (s0:=⟨T [(0, .d (.v (.slice none 0 cap)))],G []⟩) (C0 ⟨.of Z,trivial⟩ trivial) ?_)
    refine A3 ?_
    refine K8 fun _ _=> ?_
    refine A9 (.d .nilS) Z Z ?_
    refine A1 ?_
    refine A3 ?_
    refine A3 ?_
    refine K8 fun _ _=> ?_
    refine A9 (.d _) Z Z ?_
    refine A9 (.d (bo true)) Z Z ?_
    refine A1 ?_
    refine Ow Z ?_
    refine A3 ?_
    refine K8 fun _ _=> ?_
    refine A9 (.d .nilS) Z Z ?_
    refine A1 ?_
    refine B4 ?_
    exact B0 (.inr Z) (C1 (B1 Z) D4) .nil
def Aq (p1:Zone):Option Zone:=
  (Ds p1.Parts).bind fun v1=>some (Zone.mk v1 p1.Signal_)
theorem Fp(p1 r)(h:Aq p1=some r):PCall prog 89 [(.agg [(.list (List.map H3 p1.Parts)),(i64 p1.Signal_)])] (.agg [(.list (List.map H3 r.Parts)),(i64 r.Signal_)]):=by
 refine C4 (fk func89 ntmps89 m0 (by with_unfolding_all rfl)) (nl Z) ?_
 unfold Aq at h
 refine A7 (s0:=⟨T [(0,(.d _))],G []⟩) (G1 Z Z) ?_
 refine B6<|sm Z<|sn Z Z<|A1<|B6<|sq Z<|sl Z (gq Z) Z (bs h fun v1 hv1 h=>B8 Z Z A2 (Kj _ _ hv1) (.inl Z) (sq Z<|Aa Z (gq Z) [(dl H3 v1),(di p1.Signal_)] Z (A1<|B6<|sd Z (B5 Z G_hit Z Z)<|Aa Z (gq Z) [(dl H3 v1),(di p1.Signal_)] Z (A1<|B4 ?_))))
 cases h
 exact B0 (.inr Z) (C1 (I3 Z G_hit (nl Z) Z) D4) (.refl _)
def Fq (p1:Edit)(p2:Zone):Option Edit:=
  (Aq p2).bind fun v1=>some (Edit.mk p1.Kind p1.Table p1.At p1.Lane_ v1 p1.Signal_ p1.Work_)
theorem Mv(p1 p2 r)(h:Fq p1 p2=some r):PCall prog 100 [(.agg (G2 p1)),(.agg [(.list (List.map H3 p2.Parts)),(i64 p2.Signal_)])] (.agg (G2 r)):=by
 refine C4 (fk func100 ntmps100 m0 (by with_unfolding_all rfl)) (nl Z) ?_
 unfold Fq at h
 refine A7 (s0:=⟨T [(0,(.d _)),(1,(.d _))],G []⟩) (G1 Z Z) ?_
 refine B6<|sm Z<|sn Z Z<|sm Z<|A1<|B6<|sd Z (B5 Z (gq Z) Z Z)<|bs h fun v1 hv1 h=>B8 Z Z A2 (Fp _ _ hv1) (.inl Z) (sq Z<|Aa Z (gq Z) (((Od p1).set 8 (dl H3 v1.Parts)).set 9 (di v1.Signal_)) Z (A1<|B6<|sd Z (B5 Z G_hit Z Z)<|Aa Z (gq Z) (((Od p1).set 8 (dl H3 v1.Parts)).set 9 (di v1.Signal_)) Z (A1<|B4 ?_)))
 cases h
 exact B0 (.inr Z) (C1 (I3 Z G_hit (nl Z) Z) D4) (.refl _)
end
end Go.Abs.Roadsz
