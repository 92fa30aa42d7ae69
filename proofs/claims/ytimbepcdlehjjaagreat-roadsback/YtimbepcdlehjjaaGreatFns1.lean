/-
  The Go functions that RoadsBack reaches, as plain Lean functions, and the proofs that the program computes them.
-/
import Derived.Test.YtimbepcdlehjjaaGreatCoreD
import Derived.Test.YtimbepcdlehjjaaGreatProg
import Derived.KernelRfl
import Derived.IntWalk
set_option maxRecDepth 20000
set_option maxHeartbeats 4000000
set_option linter.unusedVariables false
namespace Go.Abs.Roadsz
noncomputable section
open Go Go.Abs Go.Proofs Tryz
attribute [local irreducible] J6 Lx Ea
structure Spot where
  X:Int
  Y:Int
  deriving Inhabited
structure CurveVector where
  x:Int
  y:Int
  deriving Inhabited
structure CurvePiece where
  p:Spot
  v:CurveVector
  l:Int
  start:Int
  deriving Inhabited
abbrev Q6:Spot→List D:=fun x=> [(i64 x.X),(i64 x.Y)]
structure Curve where
  Pts:(List Spot)
  deriving Inhabited
abbrev XM:Curve→List D:=fun x=> [(.list (List.map Q6 x.Pts))]
abbrev A3:Int→List D:=fun x=> [.v (.int .i64 x)]
structure Part where
  Lane_:Int
  From:Int
  To:Int
  Rank:Int
  deriving Inhabited
abbrev H5:Part→List D:=fun x=> [(i64 x.Lane_),(i64 x.From),(i64 x.To),(i64 x.Rank)]
structure Phase where
  Ticks:Int
  Green:(List Int)
  deriving Inhabited
abbrev L4:Phase→List D:=fun x=> [(i64 x.Ticks),(.list (List.map A3 x.Green))]
abbrev B7:Int→List D:=fun x=> [.v (.int .u8 x)]
structure Lane where
  Kind:Int
  Curve_:Curve
  Half:Int
  Limit:Int
  Next:(List Int)
  deriving Inhabited
structure Zone where
  Parts:(List Part)
  Signal_:Int
  deriving Inhabited
structure Signal where
  Offset:Int
  Phases:(List Phase)
  deriving Inhabited
structure Work where
  Lane_:Int
  From:Int
  To:Int
  Begin:Int
  End:Int
  Limit:Int
  deriving Inhabited
structure Map where
  Version:Int
  Lanes:(List Lane)
  Zones:(List Zone)
  Signals:(List Signal)
  Works:(List Work)
  deriving Inhabited
abbrev O1:Lane→List D:=fun x=> [(i64 x.Kind),(.list (List.map Q6 x.Curve_.Pts)),(i64 x.Half),(i64 x.Limit),(.list (List.map A3 x.Next))]
abbrev K4:Zone→List D:=fun x=> [(.list (List.map H5 x.Parts)),(i64 x.Signal_)]
abbrev P3:Signal→List D:=fun x=> [(i64 x.Offset),(.list (List.map L4 x.Phases))]
abbrev Ax:Work→List D:=fun x=> [(i64 x.Lane_),(i64 x.From),(i64 x.To),(i64 x.Begin),(i64 x.End),(i64 x.Limit)]
abbrev XV:Nat→List D:=fun x=> [.fn (.func x) [] []]
structure RoadsCheck where
  Map_:Map
  deriving Inhabited
abbrev WW:(Int×Int×Int)→List D:=fun x=> [(i64 x.1),(i64 x.2.1),(i64 x.2.2)]
structure RoadsWriter where
  b:(List Int)
  deriving Inhabited
structure RoadsReader where
  s:ByteArray
  short:Bool
  deriving Inhabited
structure RoadsWay where
  Map_:Map
  lanes:(List Int)
  starts:(List Int)
  length:Int
  deriving Inhabited
structure Clash where
  Kind:Int
  Zone_:Int
  A:Int
  B:Int
  deriving Inhabited
abbrev J8:Clash→List D:=fun x=> [(i64 x.Kind),(i64 x.Zone_),(i64 x.A),(i64 x.B)]
structure Anon7 where
  x:Int
  y:Int
  signed:Bool
  code:Int
  deriving Inhabited
structure RuntimeBoundsError where
  x:Int
  y:Int
  signed:Bool
  code:Int
  deriving Inhabited
structure Anon13 where
  msg:ByteArray
  addr:Int
  deriving Inhabited
structure RuntimeErrorAddressString where
  msg:ByteArray
  addr:Int
  deriving Inhabited
structure Anon26 where
  Version:Int
  Lanes:(List Lane)
  Zones:(List Zone)
  Signals:(List Signal)
  Works:(List Work)
  deriving Inhabited
structure Edit where
  Kind:Int
  Table:Int
  At:Int
  Lane_:Lane
  Zone_:Zone
  Signal_:Signal
  Work_:Work
  deriving Inhabited
structure Anon35 where
  Base:Int
  Edits:(List Edit)
  deriving Inhabited
structure Patch where
  Base:Int
  Edits:(List Edit)
  deriving Inhabited
structure Anon38 where
  Pts:(List Spot)
  deriving Inhabited
structure Anon41 where
  Kind:Int
  Curve_:Curve
  Half:Int
  Limit:Int
  Next:(List Int)
  deriving Inhabited
structure Anon44 where
  Parts:(List Part)
  Signal_:Int
  deriving Inhabited
structure Anon47 where
  Offset:Int
  Phases:(List Phase)
  deriving Inhabited
structure Anon49 where
  Lane_:Int
  From:Int
  To:Int
  Begin:Int
  End:Int
  Limit:Int
  deriving Inhabited
structure Anon51 where
  Kind:Int
  Table:Int
  At:Int
  Lane_:Lane
  Zone_:Zone
  Signal_:Signal
  Work_:Work
  deriving Inhabited
structure Anon90 where
  Lane_:Int
  From:Int
  To:Int
  Rank:Int
  deriving Inhabited
structure Anon92 where
  Kind:Int
  Zone_:Int
  A:Int
  B:Int
  deriving Inhabited
structure Anon94 where
  Zone_:Int
  Part_:Int
  From:Int
  To:Int
  deriving Inhabited
structure Pass where
  Zone_:Int
  Part_:Int
  From:Int
  To:Int
  deriving Inhabited
structure Anon96 where
  Ticks:Int
  Green:(List Int)
  deriving Inhabited
structure Anon104 where
  Map_:Map
  deriving Inhabited
structure Anon144 where
  b:(List Int)
  deriving Inhabited
structure Anon147 where
  X:Int
  Y:Int
  deriving Inhabited
structure Anon153 where
  s:ByteArray
  short:Bool
  deriving Inhabited
structure Anon168 where
  Map_:Map
  lanes:(List Int)
  starts:(List Int)
  length:Int
  deriving Inhabited
structure Anon186 where
  s:ByteArray
  bad:Bool
  deriving Inhabited
structure Ref03Reader where
  s:ByteArray
  bad:Bool
  deriving Inhabited
structure Anon225 where
  FromA:Int
  ToA:Int
  FromB:Int
  ToB:Int
  deriving Inhabited
structure Cross where
  FromA:Int
  ToA:Int
  FromB:Int
  ToB:Int
  deriving Inhabited
structure Anon252 where
  x:Int
  y:Int
  deriving Inhabited
structure Anon279 where
  p:Spot
  v:CurveVector
  l:Int
  start:Int
  deriving Inhabited
structure Anon282 where
  piece:CurvePiece
  half:Int
  ends:(Int×Int)
  deriving Inhabited
structure CurveCorridor where
  piece:CurvePiece
  half:Int
  ends:(Int×Int)
  deriving Inhabited
structure Anon290 where
  p:Spot
  v:Spot
  l:Int
  h:Int
  s:Int
  t:Int
  deriving Inhabited
structure Ref01Stripe where
  p:Spot
  v:Spot
  l:Int
  h:Int
  s:Int
  t:Int
  deriving Inhabited
abbrev JM:RoadsWay→List D:=fun x=> [(i64 x.Map_.Version),(.list (List.map O1 x.Map_.Lanes)),(.list (List.map K4 x.Map_.Zones)),(.list (List.map P3 x.Map_.Signals)),(.list (List.map Ax x.Map_.Works)),(.list (List.map A3 x.lanes)),(.list (List.map A3 x.starts)),(i64 x.length)]
abbrev Eu:RoadsWay→List AV:=fun x=> [(.d (i64 x.Map_.Version)),(.d (.list (List.map O1 x.Map_.Lanes))),(.d (.list (List.map K4 x.Map_.Zones))),(.d (.list (List.map P3 x.Map_.Signals))),(.d (.list (List.map Ax x.Map_.Works))),(.d (.list (List.map A3 x.lanes))),(.d (.list (List.map A3 x.starts))),(.d (i64 x.length))]
abbrev NR:Work→List AV:=fun x=> [(.d (i64 x.Lane_)),(.d (i64 x.From)),(.d (i64 x.To)),(.d (i64 x.Begin)),(.d (i64 x.End)),(.d (i64 x.Limit))]
abbrev DJ:CurvePiece→List D:=fun x=> [(i64 x.p.X),(i64 x.p.Y),(i64 x.v.x),(i64 x.v.y),(i64 x.l),(i64 x.start)]
abbrev DK:CurvePiece→List AV:=fun x=> [(.d (i64 x.p.X)),(.d (i64 x.p.Y)),(.d (i64 x.v.x)),(.d (i64 x.v.y)),(.d (i64 x.l)),(.d (i64 x.start))]
abbrev Q2:Map→List D:=fun x=> [(i64 x.Version),(.list (List.map O1 x.Lanes)),(.list (List.map K4 x.Zones)),(.list (List.map P3 x.Signals)),(.list (List.map Ax x.Works))]
abbrev F1:Map→List AV:=fun x=> [(.d (i64 x.Version)),(.d (.list (List.map O1 x.Lanes))),(.d (.list (List.map K4 x.Zones))),(.d (.list (List.map P3 x.Signals))),(.d (.list (List.map Ax x.Works)))]
abbrev Bz:Lane→List AV:=fun x=> [(.d (i64 x.Kind)),(.d (.list (List.map Q6 x.Curve_.Pts))),(.d (i64 x.Half)),(.d (i64 x.Limit)),(.d (.list (List.map A3 x.Next)))]
abbrev Pb:Part→List AV:=fun x=> [(.d (i64 x.Lane_)),(.d (i64 x.From)),(.d (i64 x.To)),(.d (i64 x.Rank))]
def Pv (p1:Int)(p2:Int):Option Int:=
  (MR p1 p2).bind fun v1=>cond (decide (v1<0)) (some (I4 (v1+p2))) (some v1)
theorem Wy(p1 p2 r)(h:Pv p1 p2=some r):PCall prog 33 [(i64 p1),(i64 p2)] (i64 r):=by
 refine E3 (fk func33 ntmps33 m0 (by with_unfolding_all rfl)) (nl Z) ?_
 unfold Pv at h
 refine A8 (s0:=⟨T [(0,(.d _)),(1,(.d _))],G []⟩) (F5 Z Z) ?_
 refine C0<|sv Z<|A1<|C0<|sv Z<|sv Z<|bs h fun _ hv1 h=>sd Z (WI Z Z hv1)<|sv Z<|A1<|A4<|C0<|sv Z<|sv Z<|A1<|cc Z h (fun c1 h=> ?_)<|fun c1 h=> ?_
 refine B5<|sv Z<|sv Z<|sv Z<|sv Z<|A1<|C0<|sv Z<|sv Z<|A1<|C1 ?_
 cases h
 exact B9 (.inr Z) (C5 (C2 Z) D7) (.refl _)
 refine B4<|C0<|sv Z<|sv Z<|A1<|C1 ?_
 cases h
 exact B9 (.inr Z) (C5 (C2 Z) D7) (.refl _)
def Pc (p4:(List Int))(x1:(Int×Lane)):Option (Stp (Int×Lane) Lane):=
  cond (decide ((I4 (x1.1+1))< (p4.length:Int))) ((F6 p4 x1.1).bind fun v1=>(F6 p4 (I4 (x1.1+1))).bind fun v2=>(Bx x1.2.Curve_.Pts [(Spot.mk v1 v2)]).bind fun v3=>some (.go ((I4 (x1.1+2)),(Lane.mk x1.2.Kind (Curve.mk v3) x1.2.Half x1.2.Limit x1.2.Next)))) (some (.out x1.2))
def Q4 [Lp](p1:Int)(p2:Int)(p3:(List Int))(p4:(List Int)):Option Lane:=
  (loop (Pc p4) (0,(Lane.mk p1 (Curve.mk []) 1500 p2 p3))).bind fun y1=>cond (p1==3) (some (Lane.mk y1.Kind y1.Curve_ 500 y1.Limit y1.Next)) (some y1)
theorem O5(p1 p2 p3 p4 r)(h:Q4 p1 p2 p3 p4=some r):PCall prog 115 [(i64 p1),(i64 p2),(.list (List.map A3 p3)),(.list (List.map A3 p4))] (.agg (O1 r)):=by
 refine E3 (fk func115 ntmps115 (fun r=>if r==5 then [1013]else []) (by with_unfolding_all rfl)) (nl Z) ?_
 unfold Q4 at h
 refine A8 (s0:=⟨T [(0,(.d _)),(1,(.d _)),(2,(.d _)),(3,(.d _))],G []⟩) (F5 Z Z) ?_
 refine lr<|fun u1 _=>sm Z<|A1<|lr<|fun u2 _=>sv Z<|sv Z<|sv Z<|sv Z<|sm Z<|X7 Z G_hit [(di p1),(.d .nilS),(di 1500),(di p2),(dl A3 p3)] Z (A1<|A4<|C0<|sv Z<|A1<|bs h fun y1 hy1 h=>D3 (fun s=> ∃g1:Nat,Sb ⟨T [(0,(di p1)),(8,(.ptr (8,u1) 0)),(9,(.ptr (9,u2) 0))],G [((8,u1),some<|.box 42 (((zs 4).set 1 (.d .nilS))++ [(.d .nilS)])),((9,u2),some<|.box 42 ((Bz y1).set 1 (oS y1.Curve_.Pts (36,g1)))),((36,g1),oB 148 2 Q6 y1.Curve_.Pts)]⟩ s) ?_ ?_)
 refine A5<|D6 (Pc p4) (fun (x1:(Int×Lane)) (g2:Nat)=>⟨T [(0,(di p1)),(3,(dl A3 p4)),(8,(.ptr (8,u1) 0)),(9,(.ptr (9,u2) 0)),(10,(di x1.1))],G [((8,u1),some<|.box 42 (((zs 4).set 1 (.d .nilS))++ [(.d .nilS)])),((9,u2),some<|.box 42 ((Bz x1.2).set 1 (oS x1.2.Curve_.Pts (36,g2)))),((36,g2),oB 148 2 Q6 x1.2.Curve_.Pts)]⟩) (0,(Lane.mk p1 (Curve.mk []) 1500 p2 p3)) 0 _ hy1 (B8 (K6 Z)<|sg Z<|A2 G_hit (.of Z)<|Q5 trivial) ?_
 intro x1 g2 z1 hz1 ez1
 unfold Pc at hz1
 refine A4<|C0<|sv Z<|sv Z<|sv Z<|sd Z (D2 Z)<|sv Z<|A1<|cc Z hz1 (fun c1 hz1=> ?_)<|fun c1 hz1=> ?_
 refine B4<|A4<|A5<|FV Z fun u5 _=>sq Z<|sq Z<|B6 (oS x1.2.Curve_.Pts (36,g2)) Z (Ag Z (gq Z) Z) (sv Z<|sv Z<|bs hz1 fun v1 hv1 hz1=>sd Z (E7 Z Z hv1 Z)<|sd Z (G7 Z hv1 Z)<|sv Z<|sv Z<|sv Z<|bs hz1 fun v2 hv2 hz1=>sd Z (E7 Z Z hv2 Z)<|sd Z (G7 Z hv2 Z)<|sv Z<|B6 (dl Q6 [(Spot.mk v1 v2)]) Z Z (bs hz1 fun _ hv3 hz1=>J3 Q6 (36,g2) x1.2.Curve_.Pts (Spot.mk v1 v2) [] _ (I0<|fun _=>Z) Z (gq Z) hv3 (sq Z<|sp Z Z<|X7 Z (gq Z) ((Bz x1.2).set 1 (.sl (36,u5))) Z (A1<|D8<|A8 (s0:=⟨T [(0,(.d _)),(3,(.d _)),(8,(.ptr _ _)),(9,(.ptr _ _)),(10,(.d _))],G [((8,u1),some<|.box 42 _),((9,u2),some<|.box 42 _),((36,u5),some _)]⟩) (F5 Z Z) ?_))))
 refine B5<|sv Z<|sv Z<|sv Z<|A1<|D9 ?_
 cases hz1
 exact ⟨Z,u5,(B8 (K6 Z)<|A2 G_hit (.of Z)<|A2 (gq Z) (.box (cv<|.cons (.of (Q3<|N5 hv3).symm) cw)) (I7 (gq Z) trivial))⟩
 refine C4 Z ?_
 cases hz1
 obtain rfl:=ez1 _ rfl
 refine ⟨nofun,C3 Z<|V2 ?_⟩
 exact ⟨g2,(B8 (K6 Z)<|A2 G_hit (.of Z)<|sg Z<|B3 (gq Z) trivial)⟩
 rintro _ ⟨g1,q1⟩
 refine A8 q1<|A4<|C0<|sv Z<|sv Z<|A1<|cc Z h (fun c2 h=> ?_)<|fun c2 h=> ?_
 refine B5<|sq Z<|X7 Z (gq Z) (((Bz y1).set 1 (oS y1.Curve_.Pts (36,g1))).set 2 (di 500)) Z (A1<|C0<|B6 (Dm (((Bz y1).set 1 (oS y1.Curve_.Pts (36,g1))).set 2 (di 500))) Z (C6 Z G_hit Z Z) (W8 _ _ _ _ _ (Gk _) Z Z (gq Z) (nl Z) (((Bz y1).set 1 (oS y1.Curve_.Pts (36,g1))).set 2 (di 500)) Z (A1<|C1 ?_)))
 cases h
 exact B9 (.inr Z) (C5 (O8 Z G_hit (nl Z) Z)<|Pa<|rD<|O7 (Ct<|gq Z)<|rD<|rD<|rD N4) (.agg (ca Z<|.cons ⟨Cs,Z⟩ (cz Z)))
 refine B4<|C0<|B6 (Dm ((Bz y1).set 1 (oS y1.Curve_.Pts (36,g1)))) Z (C6 Z (gq Z) Z Z) (W8 _ _ _ _ _ (Gk _) Z Z G_hit (nl Z) ((Bz y1).set 1 (oS y1.Curve_.Pts (36,g1))) Z (A1<|C1 ?_))
 cases h
 exact B9 (.inr Z) (C5 (O8 Z G_hit (nl Z) Z)<|Pa<|rD<|O7 (Ct<|gq Z)<|rD<|rD<|rD N4) (.agg (ca Z<|.cons ⟨Cs,Z⟩ (cz Z)))
def Kh (p1:Int)(p2:Int)(p3:Int):Option Signal:=
  some (Signal.mk p1 [(Phase.mk 12 [p2]),(Phase.mk 5 []),(Phase.mk 9 [p3]),(Phase.mk 4 [])])
theorem Mb(p1 p2 p3 r)(h:Kh p1 p2 p3=some r):PCall prog 116 [(i64 p1),(i64 p2),(i64 p3)] (.agg [(i64 r.Offset),(.list (List.map L4 r.Phases))]):=by
 refine E3 (fk func116 ntmps116 (fun r=>if r==1 then [1002,1006,1009]else []) (by with_unfolding_all rfl)) (nl Z) ?_
 unfold Kh at h
 refine A8 (s0:=⟨T [(0,(.d _)),(1,(.d _)),(2,(.d _))],G []⟩) (F5 Z Z) ?_
 refine C0<|sm Z<|A1<|C0<|sv Z<|sv Z<|B6 (dl A3 [p2]) Z Z (sv Z<|sv Z<|sv Z<|B6 (dl A3 [p3]) Z Z (sv Z<|sv Z<|B6 (dl L4 [(Phase.mk 12 [p2]),(Phase.mk 5 []),(Phase.mk 9 [p3]),(Phase.mk 4 [])]) Z Z (sv Z<|X7 Z G_hit [(di p1),(dl L4 [(Phase.mk 12 [p2]),(Phase.mk 5 []),(Phase.mk 9 [p3]),(Phase.mk 4 [])])] Z (A1<|C1 ?_))))
 cases h
 exact B9 (.inr Z) (C5 (O8 Z G_hit (nl Z) Z) D7) (.refl _)
def Sl [Lp](p1:Int):Option Map:=
  (Pv p1 16777216).bind fun v1=>(F6 [1500,600,1000,300] ((I4 (v1.tdiv 7)).tmod 4)).bind fun v2=>(cond ((v1.tmod 7)==0) ((Q4 1 v2 [] [0,0,60000,0]).bind fun v3=>some (Map.mk 0 [v3] [] [] [])) ((cond ((v1.tmod 7)==1) (some ((v1.tmod 7)==1)) (some ((v1.tmod 7)==2))).bind fun y2=>cond y2 ((Q4 1 v2 [] [0,0,50000,0]).bind fun v4=>(Q4 1 1500 [] [30000,(-20000),30000,20000]).bind fun v5=>cond ((v1.tmod 7)==2) ((F6 [(Zone.mk [(Part.mk 0 28000 32000 ((I4 (v1.tdiv 28)).tmod 2)),(Part.mk 1 18000 22000 (I4 (2 - (I4 (2* ((I4 (v1.tdiv 28)).tmod 2))))))] 0)] 0).bind fun v6=>(Kh ((I4 (v1.tdiv 28)).tmod 31) 0 1).bind fun v7=>some (Map.mk 0 [v4,v5] (Ti [(Zone.mk [(Part.mk 0 28000 32000 ((I4 (v1.tdiv 28)).tmod 2)),(Part.mk 1 18000 22000 (I4 (2 - (I4 (2* ((I4 (v1.tdiv 28)).tmod 2))))))] 0)] 0 (Zone.mk v6.Parts 1)) [v7] [])) (some (Map.mk 0 [v4,v5] [(Zone.mk [(Part.mk 0 28000 32000 ((I4 (v1.tdiv 28)).tmod 2)),(Part.mk 1 18000 22000 (I4 (2 - (I4 (2* ((I4 (v1.tdiv 28)).tmod 2))))))] 0)] [] []))) (cond ((v1.tmod 7)==3) ((Q4 1 v2 [1,2] [0,0,30000,0]).bind fun v8=>(Q4 1 1500 [] [30000,0,60000,0]).bind fun v9=>(Q4 1 800 [] [30000,0,54000,10000]).bind fun v10=>some (Map.mk 0 [v8,v9,v10] [] [] [])) (cond ((v1.tmod 7)==4) ((Q4 1 v2 [2] [0,0,30000,0]).bind fun v11=>(Q4 1 1500 [2] [6000,(-10000),30000,0]).bind fun v12=>(Q4 1 1500 [] [30000,0,60000,0]).bind fun v13=>some (Map.mk 0 [v11,v12,v13] [(Zone.mk [(Part.mk 0 25000 30000 1),(Part.mk 1 20000 26000 0),(Part.mk 2 0 5000 0)] 0)] [] [])) (cond ((v1.tmod 7)==5) ((Q4 1 v2 [1] [0,0,20000,0]).bind fun v14=>(Q4 1 v2 [] [20000,0,50000,0]).bind fun v15=>(Q4 3 200 [] [35000,(-8000),35000,8000]).bind fun v16=>some (Map.mk 0 [v14,v15,v16] [(Zone.mk [(Part.mk 1 14000 16000 0),(Part.mk 2 6000 10000 3)] 0)] [] [])) (cond ((v1.tmod 7)==6) ((Q4 1 v2 [1,2] [0,0,20000,0]).bind fun v17=>(Q4 1 1500 [] [20000,0,50000,0]).bind fun v18=>(Q4 1 1000 [] [20000,0,44000,10000]).bind fun v19=>(Q4 2 700 [] [36000,(-12000),36000,18000]).bind fun v20=>cond (((I4 (v1.tdiv 28)).tmod 2)==1) ((F6 [(Zone.mk [(Part.mk 1 14000 18000 1),(Part.mk 3 10000 14000 0)] 0),(Zone.mk [(Part.mk 2 14000 21000 1),(Part.mk 3 14500 23000 0)] 0)] 0).bind fun v21=>(F6 (Ti [(Zone.mk [(Part.mk 1 14000 18000 1),(Part.mk 3 10000 14000 0)] 0),(Zone.mk [(Part.mk 2 14000 21000 1),(Part.mk 3 14500 23000 0)] 0)] 0 (Zone.mk v21.Parts 1)) 1).bind fun v22=>(Kh ((I4 (v1.tdiv 56)).tmod 31) 1 3).bind fun v23=>(Kh ((I4 (v1.tdiv 56)).tmod 17) 2 3).bind fun v24=>some (Map.mk 0 [v17,v18,v19,v20] (Ti (Ti [(Zone.mk [(Part.mk 1 14000 18000 1),(Part.mk 3 10000 14000 0)] 0),(Zone.mk [(Part.mk 2 14000 21000 1),(Part.mk 3 14500 23000 0)] 0)] 0 (Zone.mk v21.Parts 1)) 1 (Zone.mk v22.Parts 2)) [v23,v24] [])) (some (Map.mk 0 [v17,v18,v19,v20] [(Zone.mk [(Part.mk 1 14000 18000 1),(Part.mk 3 10000 14000 0)] 0),(Zone.mk [(Part.mk 2 14000 21000 1),(Part.mk 3 14500 23000 0)] 0)] [] []))) (some (Map.mk 0 [] [] [] [])))))))).bind fun y1=>cond (((I4 (v1.tdiv 1736)).tmod 3)==1) (some (Map.mk ((I4 (v1.tdiv 28)).tmod 5) y1.Lanes y1.Zones y1.Signals [(Work.mk 0 10000 15000 ((I4 (v1.tdiv 5208)).tmod 40) (I4 (((I4 (v1.tdiv 5208)).tmod 40)+20)) (I4 (((I4 (v1.tdiv 208320)).tmod 3)*200)))])) (some (Map.mk ((I4 (v1.tdiv 28)).tmod 5) y1.Lanes y1.Zones y1.Signals []))
theorem GC(p1 r)(h:Sl p1=some r):PCall prog 29 [(i64 p1)] (.agg (Q2 r)):=by
 refine E3 (fk func29 ntmps29 (fun r=>if r==2 then [1000]else if r==6 then [1001]else if r==9 then [1001,1003]else if r==10 then [1010]else if r==15 then [1001,1002,1004,1006]else if r==17 then [1001,1002,1004,1005,1007]else if r==18 then [1003]else if r==20 then [1001,1002,1005,1007]else if r==21 then [1002]else if r==23 then [1001,1002,1004,1006,1008]else if r==24 then [1002,1006]else if r==30 then [1012]else []) (by with_unfolding_all rfl)) (nl Z) ?_
 unfold Sl at h
 refine A8 (s0:=⟨T [(0,(.d _))],G []⟩) (F5 Z Z) ?_
 refine lr<|fun u1 _=>sm Z<|A1<|C0<|sv Z<|bs h fun v1 hv1 h=>D1 Z Z A6 (Wy _ _ _ hv1) (.inl Z) (sv Z<|A1<|C0<|B6 (dl A3 [1500,600,1000,300]) Z Z (sv Z<|sv Z<|sv Z<|bs h fun v2 hv2 h=>sd Z (E7 Z Z hv2 Z)<|sd Z (G7 Z hv2 Z)<|sv Z<|A1<|lr<|fun u4 _=>sm Z<|A1<|A4<|C0<|sv Z<|sv Z<|A1<|bs h fun y1 hy1 h=>D3 (fun s=> ∃g1:(({d:Nat // d∈ [20,30,69,82,102,122]}×Nat)× ({d:Nat // d∈ [44,89,108,132]}×Nat)× ({d:Nat // d∈ [57,154]}×Nat)),Sb ⟨T [(0,(di v1)),(2,(.ptr (2,u1) 0)),(4,(.ptr (4,u4) 0))],G [((2,u1),some<|.box 27 [(di 0),(.d .nilS),(.d .nilS),(.d .nilS),(.d .nilS)]),((4,u4),some<|.box 27 [(di y1.Version),(oS y1.Lanes (g1.1.1.val,g1.1.2)),(oS y1.Zones (g1.2.1.1.val,g1.2.1.2)),(oS y1.Signals (g1.2.2.1.val,g1.2.2.2)),(.d .nilS)]),((g1.1.1.val,g1.1.2),oB 42 5 O1 y1.Lanes),((g1.2.1.1.val,g1.2.1.2),oB 45 2 K4 y1.Zones),((g1.2.2.1.val,g1.2.2.2),oB 48 2 P3 y1.Signals)]⟩ s) ?_ ?_))
 refine A5<|C0<|sv Z<|sv Z<|A1<|cc Z hy1 (fun c1 hy1=> ?_)<|fun c1 hy1=> ?_
 refine T8 fun u7 _=>sv Z<|B6 (dl A3 [0,0,60000,0]) Z Z (bs hy1 fun v3 hv3 hy1=>D1 Z Z (.cons (.refl _) (.cons (.refl _) (.cons DLe.nil A6))) (O5 _ _ _ _ _ hv3) (.inl Z) (Ke (.sl _) (.arr 42 5 (List.map O1 ([v3]:List Lane))) Z Z (sq Z<|X7 Z (gq Z) [(di 0),(.sl (20,u7)),(.d .nilS),(.d .nilS),(.d .nilS)] Z (A1<|D8 ?_))))
 cases hy1
 exact V2 ⟨((⟨20, .head _⟩,u7),(⟨44, .head _⟩,0),(⟨57, .head _⟩,0)),(B8 (K6 Z)<|sg Z<|A2 G_hit (.box (cv<|.cons (.of (Q3<|List.cons_ne_nil _ _).symm) cw))<|I7 (gq Z)<|Q5<|Q5 trivial)⟩
 refine A4<|C0<|sv Z<|sv Z<|A1<|bs hy1 fun y2 hy2 hy1=>D3 (fun s=> ∃g2:Unit,Sb ⟨T [(0,(di v1)),(2,(.ptr (2,u1) 0)),(3,(di v2)),(4,(.ptr (4,u4) 0)),(14,(di<|v1.tmod 7)),(22,(.d (bo y2)))],G [((2,u1),some<|.box 27 [(di 0),(.d .nilS),(.d .nilS),(.d .nilS),(.d .nilS)]),((4,u4),some<|.box 27 [(di 0),(.d .nilS),(.d .nilS),(.d .nilS),(.d .nilS)])]⟩ s) ?_ ?_
 refine cc Z hy2 (fun c2 hy2=> ?_)<|fun c2 hy2=> ?_
 refine B4 ?_
 cases hy2
 exact V2 ⟨(),(F5 Z Z)⟩
 refine B5<|sv Z<|sv Z<|A1 ?_
 cases hy2
 exact V2 ⟨(),(F5 Z Z)⟩
 rintro _ ⟨g2,q1⟩
 refine A8 q1<|cc Z hy1 (fun c3 hy1=> ?_)<|fun c3 hy1=> ?_
 refine lr<|fun u10 _=>sv Z<|B6 (dl A3 [0,0,50000,0]) Z Z (bs hy1 fun v4 hv4 hy1=>D1 Z Z (.cons (.refl _) (.cons (.refl _) (.cons DLe.nil A6))) (O5 _ _ _ _ _ hv4) (.inl Z) (B6 (dl A3 [30000,(-20000),30000,20000]) Z Z (bs hy1 fun v5 hv5 hy1=>D1 Z Z (.cons (.refl _) (.cons (.refl _) (.cons DLe.nil A6))) (O5 _ _ _ _ _ hv5) (.inl Z) (Ke (.sl _) (.arr 42 5 (List.map O1 ([v4,v5]:List Lane))) Z (Gm O1 _ (fun _=>Z) Z Z ⟨Z,Z,Z,Z,Z,Z,trivial⟩) (sq Z<|X7 Z (gq Z) [(di 0),(.sl (30,u10)),(.d .nilS),(.d .nilS),(.d .nilS)] Z (A1<|lr<|fun u11 _=>sv Z<|sv Z<|sv Z<|sv Z<|sv Z<|sv Z<|sv Z<|sv Z<|sv Z<|sv Z<|B6 (dl H5 [(Part.mk 0 28000 32000 ((I4<|v1.tdiv 28).tmod 2)),(Part.mk 1 18000 22000<|I4 (2 - (I4 (2* ((I4<|v1.tdiv 28).tmod 2)))))]) Z Z (sv Z<|Ke (.sl _) (.arr 45 2 (List.map K4 ([(Zone.mk [(Part.mk 0 28000 32000 ((I4<|v1.tdiv 28).tmod 2)),(Part.mk 1 18000 22000<|I4 (2 - (I4 (2* ((I4<|v1.tdiv 28).tmod 2)))))] 0)]:List Zone))) Z Z (sq Z<|X7 Z (gq Z) [(di 0),(.sl (30,u10)),(.sl (44,u11)),(.d .nilS),(.d .nilS)] Z (A1<|A4<|A8 (s0:=⟨T [(0,(.d _)),(2,(.ptr _ _)),(4,(.ptr _ _))],G [((2,u1),some<|.box 27 _),((4,u4),some<|.box 27 _),((30,u10),some _),((44,u11),some _)]⟩) (F5 Z Z) ?_)))))))))
 refine B5<|sv Z<|sv Z<|sv Z<|A1<|cc Z hy1 (fun c4 hy1=> ?_)<|fun c4 hy1=> ?_
 refine C0<|sq Z<|B6 (.sl _) Z (Ag Z (gq Z) Z) (bs hy1 fun v6 hv6 hy1=>B6 (.aptr _ _ _ _) Z (FZ Z Z (gq Z) hv6) (B6 (.aptr _ _ _ _) Z Z (MV K4 _ _ _ (0) _ (Zone.mk v6.Parts 1) [(i64 1)] Z Z Z (gq Z) hv6 (nl Z) Z (A1<|T8 fun u14 _=>sv Z<|sv Z<|sv Z<|bs hy1 fun v7 hv7 hy1=>D1 Z Z A6 (Mb _ _ _ _ hv7) (.inl Z) (Ke (.sl _) (.arr 48 2 (List.map P3 ([v7]:List Signal))) Z Z (sq Z<|X7 Z (gq Z) [(di 0),(.sl (30,u10)),(.sl (44,u11)),(.sl (57,u14)),(.d .nilS)] Z (A1<|D8 ?_)))))))
 cases hy1
 exact V2 ⟨((⟨30, .tail _ (.head _)⟩,u10),(⟨44, .head _⟩,u11),(⟨57, .head _⟩,u14)),(B8 (K6 Z)<|sg Z<|A2 G_hit (.box (cv<|.cons (.of (Q3<|List.cons_ne_nil _ _).symm) (.cons (.of (Q3<|AO<|List.cons_ne_nil _ _).symm) (.cons (.of (Q3<|List.cons_ne_nil _ _).symm) cw))))<|I7 (gq Z)<|I7 (gq Z)<|I7 (gq Z) trivial)⟩
 refine B4<|D8 ?_
 cases hy1
 exact V2 ⟨((⟨30, .tail _ (.head _)⟩,u10),(⟨44, .head _⟩,u11),(⟨57, .head _⟩,0)),(B8 (K6 Z)<|A2 G_hit (.of Z)<|A2 (gq Z) (.box (cv<|.cons (.of (Q3<|List.cons_ne_nil _ _).symm) (.cons (.of (Q3<|List.cons_ne_nil _ _).symm) cw))) (I7 (gq Z)<|I7 (gq Z)<|Q5 trivial))⟩
 refine C0<|sv Z<|sv Z<|A1<|cc Z hy1 (fun c5 hy1=> ?_)<|fun c5 hy1=> ?_
 refine T8 fun u16 _=>sv Z<|B6 (dl A3 [1,2]) Z Z (B6 (dl A3 [0,0,30000,0]) Z Z (bs hy1 fun v8 hv8 hy1=>D1 Z Z A6 (O5 _ _ _ _ _ hv8) (.inl Z) (B6 (dl A3 [30000,0,60000,0]) Z Z (bs hy1 fun v9 hv9 hy1=>D1 Z Z (.cons (.refl _) (.cons (.refl _) (.cons DLe.nil A6))) (O5 _ _ _ _ _ hv9) (.inl Z) (B6 (dl A3 [30000,0,54000,10000]) Z Z (bs hy1 fun v10 hv10 hy1=>D1 Z Z (.cons (.refl _) (.cons (.refl _) (.cons DLe.nil A6))) (O5 _ _ _ _ _ hv10) (.inl Z) (Ke (.sl _) (.arr 42 5 (List.map O1 ([v8,v9,v10]:List Lane))) Z (Gm O1 _ (fun _=>Z) Z Z ⟨Z,Z,Z,Z,Z,Z,Z,Z,Z,trivial⟩) (sq Z<|X7 Z (gq Z) [(di 0),(.sl (69,u16)),(.d .nilS),(.d .nilS),(.d .nilS)] Z (A1<|D8 ?_)))))))))
 cases hy1
 exact V2 ⟨((⟨69, .tail _ (.tail _ (.head _))⟩,u16),(⟨44, .head _⟩,0),(⟨57, .head _⟩,0)),(B8 (K6 Z)<|sg Z<|A2 G_hit (.box (cv<|.cons (.of (Q3<|List.cons_ne_nil _ _).symm) cw))<|I7 (gq Z)<|Q5<|Q5 trivial)⟩
 refine C0<|sv Z<|sv Z<|A1<|cc Z hy1 (fun c6 hy1=> ?_)<|fun c6 hy1=> ?_
 refine lr<|fun u18 _=>sv Z<|B6 (dl A3 [2]) Z Z (B6 (dl A3 [0,0,30000,0]) Z Z (bs hy1 fun v11 hv11 hy1=>D1 Z Z A6 (O5 _ _ _ _ _ hv11) (.inl Z) (B6 (dl A3 [2]) Z Z (B6 (dl A3 [6000,(-10000),30000,0]) Z Z (bs hy1 fun v12 hv12 hy1=>D1 Z Z A6 (O5 _ _ _ _ _ hv12) (.inl Z) (B6 (dl A3 [30000,0,60000,0]) Z Z (bs hy1 fun v13 hv13 hy1=>D1 Z Z (.cons (.refl _) (.cons (.refl _) (.cons DLe.nil A6))) (O5 _ _ _ _ _ hv13) (.inl Z) (Ke (.sl _) (.arr 42 5 (List.map O1 ([v11,v12,v13]:List Lane))) Z (Gm O1 _ (fun _=>Z) Z Z ⟨Z,Z,Z,Z,Z,Z,Z,Z,Z,trivial⟩) (sq Z<|X7 Z (gq Z) [(di 0),(.sl (82,u18)),(.d .nilS),(.d .nilS),(.d .nilS)] Z (A1<|A8 (s0:=⟨T [(0,(.d _)),(2,(.ptr _ _)),(4,(.ptr _ _))],G [((2,u1),some<|.box 27 _),((4,u4),some<|.box 27 _),((82,u18),some _)]⟩) (F5 Z Z) ?_))))))))))
 refine T8 fun u19 _=>sv Z<|sv Z<|sv Z<|B6 (dl H5 [(Part.mk 0 25000 30000 1),(Part.mk 1 20000 26000 0),(Part.mk 2 0 5000 0)]) Z (Zk H5 ([(Part.mk 0 25000 30000 1),(Part.mk 1 20000 26000 0),(Part.mk 2 0 5000 0)]:List Part) (fun _=>Z) Z Z ⟨Z,Z,Z,Z,Z,Z,Z,Z,Z,trivial⟩ (fun _=>Z)) (sv Z<|Ke (.sl _) (.arr 45 2 (List.map K4 ([(Zone.mk [(Part.mk 0 25000 30000 1),(Part.mk 1 20000 26000 0),(Part.mk 2 0 5000 0)] 0)]:List Zone))) Z Z (sq Z<|X7 Z (gq Z) [(di 0),(.sl (82,u18)),(.sl (89,u19)),(.d .nilS),(.d .nilS)] Z (A1<|D8 ?_)))
 cases hy1
 exact V2 ⟨((⟨82, .tail _ (.tail _ (.tail _ (.head _)))⟩,u18),(⟨89, .tail _ (.head _)⟩,u19),(⟨57, .head _⟩,0)),(B8 (K6 Z)<|sg Z<|A2 G_hit (.box (cv<|.cons (.of (Q3<|List.cons_ne_nil _ _).symm) (.cons (.of (Q3<|List.cons_ne_nil _ _).symm) cw)))<|I7 (gq Z)<|I7 (gq Z)<|Q5 trivial)⟩
 refine C0<|sv Z<|sv Z<|A1<|cc Z hy1 (fun c7 hy1=> ?_)<|fun c7 hy1=> ?_
 refine lr<|fun u21 _=>sv Z<|B6 (dl A3 [1]) Z Z (B6 (dl A3 [0,0,20000,0]) Z Z (bs hy1 fun v14 hv14 hy1=>D1 Z Z A6 (O5 _ _ _ _ _ hv14) (.inl Z) (sv Z<|B6 (dl A3 [20000,0,50000,0]) Z Z (bs hy1 fun v15 hv15 hy1=>D1 Z Z (.cons (.refl _) (.cons (.refl _) (.cons DLe.nil A6))) (O5 _ _ _ _ _ hv15) (.inl Z) (B6 (dl A3 [35000,(-8000),35000,8000]) Z Z (bs hy1 fun v16 hv16 hy1=>D1 Z Z (.cons (.refl _) (.cons (.refl _) (.cons DLe.nil A6))) (O5 _ _ _ _ _ hv16) (.inl Z) (Ke (.sl _) (.arr 42 5 (List.map O1 ([v14,v15,v16]:List Lane))) Z (Gm O1 _ (fun _=>Z) Z Z ⟨Z,Z,Z,Z,Z,Z,Z,Z,Z,trivial⟩) (sq Z<|X7 Z (gq Z) [(di 0),(.sl (102,u21)),(.d .nilS),(.d .nilS),(.d .nilS)] Z (A1<|A8 (s0:=⟨T [(0,(.d _)),(2,(.ptr _ _)),(4,(.ptr _ _))],G [((2,u1),some<|.box 27 _),((4,u4),some<|.box 27 _),((102,u21),some _)]⟩) (F5 Z Z) ?_)))))))))
 refine T8 fun u22 _=>sv Z<|sv Z<|B6 (dl H5 [(Part.mk 1 14000 16000 0),(Part.mk 2 6000 10000 3)]) Z Z (sv Z<|Ke (.sl _) (.arr 45 2 (List.map K4 ([(Zone.mk [(Part.mk 1 14000 16000 0),(Part.mk 2 6000 10000 3)] 0)]:List Zone))) Z Z (sq Z<|X7 Z (gq Z) [(di 0),(.sl (102,u21)),(.sl (108,u22)),(.d .nilS),(.d .nilS)] Z (A1<|D8 ?_)))
 cases hy1
 exact V2 ⟨((⟨102, .tail _ (.tail _ (.tail _ (.tail _ (.head _))))⟩,u21),(⟨108, .tail _ (.tail _ (.head _))⟩,u22),(⟨57, .head _⟩,0)),(B8 (K6 Z)<|sg Z<|A2 G_hit (.box (cv<|.cons (.of (Q3<|List.cons_ne_nil _ _).symm) (.cons (.of (Q3<|List.cons_ne_nil _ _).symm) cw)))<|I7 (gq Z)<|I7 (gq Z)<|Q5 trivial)⟩
 refine C0<|sv Z<|sv Z<|A1<|cc Z hy1 (fun c8 hy1=> ?_)<|fun c8 hy1=> ?_
 refine lr<|fun u24 _=>sv Z<|B6 (dl A3 [1,2]) Z Z (B6 (dl A3 [0,0,20000,0]) Z Z (bs hy1 fun v17 hv17 hy1=>D1 Z Z A6 (O5 _ _ _ _ _ hv17) (.inl Z) (B6 (dl A3 [20000,0,50000,0]) Z Z (bs hy1 fun v18 hv18 hy1=>D1 Z Z (.cons (.refl _) (.cons (.refl _) (.cons DLe.nil A6))) (O5 _ _ _ _ _ hv18) (.inl Z) (B6 (dl A3 [20000,0,44000,10000]) Z Z (bs hy1 fun v19 hv19 hy1=>D1 Z Z (.cons (.refl _) (.cons (.refl _) (.cons DLe.nil A6))) (O5 _ _ _ _ _ hv19) (.inl Z) (B6 (dl A3 [36000,(-12000),36000,18000]) Z Z (bs hy1 fun v20 hv20 hy1=>D1 Z Z (.cons (.refl _) (.cons (.refl _) (.cons DLe.nil A6))) (O5 _ _ _ _ _ hv20) (.inl Z) (Ke (.sl _) (.arr 42 5 (List.map O1 ([v17,v18,v19,v20]:List Lane))) Z (Gm O1 _ (fun _=>Z) Z Z ⟨Z,Z,Z,Z,Z,Z,Z,Z,Z,Z,Z,Z,trivial⟩) (sq Z<|X7 Z (gq Z) [(di 0),(.sl (122,u24)),(.d .nilS),(.d .nilS),(.d .nilS)] Z (A1<|A4<|A8 (s0:=⟨T [(0,(.d _)),(2,(.ptr _ _)),(4,(.ptr _ _))],G [((2,u1),some<|.box 27 _),((4,u4),some<|.box 27 _),((122,u24),some _)]⟩) (F5 Z Z) ?_)))))))))))
 refine T8 fun u25 _=>sv Z<|sv Z<|B6 (dl H5 [(Part.mk 1 14000 18000 1),(Part.mk 3 10000 14000 0)]) Z Z (sv Z<|sv Z<|sv Z<|B6 (dl H5 [(Part.mk 2 14000 21000 1),(Part.mk 3 14500 23000 0)]) Z Z (sv Z<|Ke (.sl _) (.arr 45 2 (List.map K4 ([(Zone.mk [(Part.mk 1 14000 18000 1),(Part.mk 3 10000 14000 0)] 0),(Zone.mk [(Part.mk 2 14000 21000 1),(Part.mk 3 14500 23000 0)] 0)]:List Zone))) Z Z (sq Z<|X7 Z (gq Z) [(di 0),(.sl (122,u24)),(.sl (132,u25)),(.d .nilS),(.d .nilS)] Z (A1<|C0<|sv Z<|sv Z<|sv Z<|sv Z<|A1<|cc Z hy1 (fun c9 hy1=> ?_)<|fun c9 hy1=> ?_))))
 refine A4<|QW fun _ _=>Ui (.ptr _ _) Z Z (Ui (.sl _) Z (Ag Z G_hit Z) (Ui (.ptr _ _) Z Z (Ui (.sl _) Z (Ag Z G_hit Z) (bs hy1 fun v21 hv21 hy1=>Ui (.aptr _ _ _ _) Z (FZ Z Z (gq Z) hv21) (Ui (.aptr _ _ _ _) Z Z (DI K4 _ _ _ (0) _ (Zone.mk v21.Parts 1) [(i64 1)] Z Z Z (gq Z) hv21 (nl Z) Z (bs hy1 fun v22 hv22 hy1=>Ui (.aptr _ _ _ _) Z (FZ Z Z G_hit hv22) (Ui (.aptr _ _ _ _) Z Z (DI K4 _ _ _ (1) _ (Zone.mk v22.Parts 2) [(i64 2)] Z Z Z G_hit hv22 (nl Z) Z (WK ⟨Z,?_⟩))))))))))
 refine A8 (s0:=⟨T [(0,(.d _)),(2,(.ptr _ _)),(4,(.ptr _ _))],G [((2,u1),some<|.box 27 _),((4,u4),some<|.box 27 _),((122,u24),some _),((132,u25),some _)]⟩) (F5 Z Z) ?_
 refine T8 fun u28 _=>sv Z<|sv Z<|sv Z<|bs hy1 fun v23 hv23 hy1=>D1 Z Z A6 (Mb _ _ _ _ hv23) (.inl Z) (sv Z<|sv Z<|sv Z<|bs hy1 fun v24 hv24 hy1=>D1 Z Z A6 (Mb _ _ _ _ hv24) (.inl Z) (Ke (.sl _) (.arr 48 2 (List.map P3 ([v23,v24]:List Signal))) Z Z (sq Z<|X7 Z (gq Z) [(di 0),(.sl (122,u24)),(.sl (132,u25)),(.sl (154,u28)),(.d .nilS)] Z (A1<|D8 ?_))))
 cases hy1
 exact V2 ⟨((⟨122, .tail _ (.tail _ (.tail _ (.tail _ (.tail _ (.head _)))))⟩,u24),(⟨132, .tail _ (.tail _ (.tail _ (.head _)))⟩,u25),(⟨154, .tail _ (.head _)⟩,u28)),(B8 (K6 Z)<|sg Z<|A2 G_hit (.box (cv<|.cons (.of (Q3<|List.cons_ne_nil _ _).symm) (.cons (.of (Q3<|AO<|AO<|List.cons_ne_nil _ _).symm) (.cons (.of (Q3<|List.cons_ne_nil _ _).symm) cw))))<|I7 (gq Z)<|I7 (gq Z)<|I7 (gq Z) trivial)⟩
 refine B4<|D8 ?_
 cases hy1
 exact V2 ⟨((⟨122, .tail _ (.tail _ (.tail _ (.tail _ (.tail _ (.head _)))))⟩,u24),(⟨132, .tail _ (.tail _ (.tail _ (.head _)))⟩,u25),(⟨57, .head _⟩,0)),(B8 (K6 Z)<|sg Z<|A2 G_hit (.box (cv<|.cons (.of (Q3<|List.cons_ne_nil _ _).symm) (.cons (.of (Q3<|List.cons_ne_nil _ _).symm) cw)))<|I7 (gq Z)<|I7 (gq Z)<|Q5 trivial)⟩
 refine B4<|D8 ?_
 cases hy1
 exact V2 ⟨((⟨20, .head _⟩,0),(⟨44, .head _⟩,0),(⟨57, .head _⟩,0)),(B8 (K6 Z)<|A2 G_hit (.of Z)<|sg Z<|Q5<|Q5<|Q5 trivial)⟩
 rintro _ ⟨g1,q2⟩
 refine A8 q2<|C0<|sv Z<|sv Z<|sv Z<|sq Z<|X7 Z (gq Z) [(di ((I4<|v1.tdiv 28).tmod 5)),(oS y1.Lanes (g1.1.1.val,g1.1.2)),(oS y1.Zones (g1.2.1.1.val,g1.2.1.2)),(oS y1.Signals (g1.2.2.1.val,g1.2.2.2)),(.d .nilS)] Z (A1<|A4<|C0<|sv Z<|sv Z<|sv Z<|sv Z<|A1<|cc Z h (fun c10 h=> ?_)<|fun c10 h=> ?_)
 refine B5<|sv Z<|sv Z<|sv Z<|sv Z<|sv Z<|sv Z<|sv Z<|sv Z<|sv Z<|sv Z<|sv Z<|sv Z<|B6 (dl Ax [(Work.mk 0 10000 15000 ((I4<|v1.tdiv 5208).tmod 40) (I4 (((I4<|v1.tdiv 5208).tmod 40)+20)) (I4 (((I4<|v1.tdiv 208320).tmod 3)*200)))]) Z Z (sq Z<|X7 Z G_hit [(di ((I4<|v1.tdiv 28).tmod 5)),(oS y1.Lanes (g1.1.1.val,g1.1.2)),(oS y1.Zones (g1.2.1.1.val,g1.2.1.2)),(oS y1.Signals (g1.2.2.1.val,g1.2.2.2)),(dl Ax [(Work.mk 0 10000 15000 ((I4<|v1.tdiv 5208).tmod 40) (I4 (((I4<|v1.tdiv 5208).tmod 40)+20)) (I4 (((I4<|v1.tdiv 208320).tmod 3)*200)))])] Z (A1<|A4<|A8 (s0:=⟨T [(2,(.ptr (2,u1) 0)),(4,(.ptr (4,u4) 0))],G [((2,u1),some<|.box 27 [(di 0),(.d .nilS),(.d .nilS),(.d .nilS),(.d .nilS)]),((4,u4),some<|.box 27 [(di ((I4<|v1.tdiv 28).tmod 5)),(oS y1.Lanes (g1.1.1.val,g1.1.2)),(oS y1.Zones (g1.2.1.1.val,g1.2.1.2)),(oS y1.Signals (g1.2.2.1.val,g1.2.2.2)),(dl Ax [(Work.mk 0 10000 15000 ((I4<|v1.tdiv 5208).tmod 40) (I4 (((I4<|v1.tdiv 5208).tmod 40)+20)) (I4 (((I4<|v1.tdiv 208320).tmod 3)*200)))])]),((g1.1.1.val,g1.1.2),oB 42 5 O1 y1.Lanes),((g1.2.1.1.val,g1.2.1.2),oB 45 2 K4 y1.Zones),((g1.2.2.1.val,g1.2.2.2),oB 48 2 P3 y1.Signals)]⟩) (B8 (K6 Z)<|sg Z<|A2 G_hit (.of Z)<|B3 (U9 g1.1.1.property 4 Z G_hit)<|B3 (U9 g1.2.1.1.property 4 Z<|A7 (AU g1.2.1.1.property g1.1.1.property Z) G_hit)<|B3 (U9 g1.2.2.1.property 4 Z<|A7 (AU g1.2.2.1.property g1.1.1.property Z)<|A7 (AU g1.2.2.1.property g1.2.1.1.property Z) G_hit) trivial) ?_))
 refine B5<|B6 (Dm [(di ((I4<|v1.tdiv 28).tmod 5)),(oS y1.Lanes (g1.1.1.val,g1.1.2)),(oS y1.Zones (g1.2.1.1.val,g1.2.1.2)),(oS y1.Signals (g1.2.2.1.val,g1.2.2.2)),(dl Ax [(Work.mk 0 10000 15000 ((I4<|v1.tdiv 5208).tmod 40) (I4 (((I4<|v1.tdiv 5208).tmod 40)+20)) (I4 (((I4<|v1.tdiv 208320).tmod 3)*200)))])]) Z (C6 Z (gq Z) Z Z) (W8 _ _ _ _ _ (Gk _) Z Z G_hit (nl Z) [(di ((I4<|v1.tdiv 28).tmod 5)),(oS y1.Lanes (g1.1.1.val,g1.1.2)),(oS y1.Zones (g1.2.1.1.val,g1.2.1.2)),(oS y1.Signals (g1.2.2.1.val,g1.2.2.2)),(dl Ax [(Work.mk 0 10000 15000 ((I4<|v1.tdiv 5208).tmod 40) (I4 (((I4<|v1.tdiv 5208).tmod 40)+20)) (I4 (((I4<|v1.tdiv 208320).tmod 3)*200)))])] Z (A1<|C1 ?_))
 cases h
 exact B9 (.inr Z) (C5 (O8 Z G_hit (nl Z) Z)<|Pa<|rD<|O7 (Ct<|U9 g1.1.1.property 3 Z G_hit)<|O7 (Ct<|U9 g1.2.1.1.property 3 Z<|A7 (AU g1.2.1.1.property g1.1.1.property Z) G_hit)<|O7 (Ct<|U9 g1.2.2.1.property 3 Z<|A7 (AU g1.2.2.1.property g1.1.1.property Z)<|A7 (AU g1.2.2.1.property g1.2.1.1.property Z) G_hit)<|rD N4) (.agg (ca Z<|.cons ⟨Cs,Z⟩ (.cons ⟨Cs,Z⟩ (.cons ⟨Cs,Z⟩ (cz Z)))))
 refine B4<|C0<|B6 (Dm [(di ((I4<|v1.tdiv 28).tmod 5)),(oS y1.Lanes (g1.1.1.val,g1.1.2)),(oS y1.Zones (g1.2.1.1.val,g1.2.1.2)),(oS y1.Signals (g1.2.2.1.val,g1.2.2.2)),(.d .nilS)]) Z (C6 Z G_hit Z Z) (W8 _ _ _ _ _ (Gk _) Z Z (gq Z) (nl Z) [(di ((I4<|v1.tdiv 28).tmod 5)),(oS y1.Lanes (g1.1.1.val,g1.1.2)),(oS y1.Zones (g1.2.1.1.val,g1.2.1.2)),(oS y1.Signals (g1.2.2.1.val,g1.2.2.2)),(.d .nilS)] Z (A1<|C1 ?_))
 cases h
 exact B9 (.inr Z) (C5 (O8 Z G_hit (nl Z) Z)<|Pa<|rD<|O7 (Ct<|U9 g1.1.1.property 4 Z G_hit)<|O7 (Ct<|U9 g1.2.1.1.property 4 Z<|A7 (AU g1.2.1.1.property g1.1.1.property Z) G_hit)<|O7 (Ct<|U9 g1.2.2.1.property 4 Z<|A7 (AU g1.2.2.1.property g1.1.1.property Z)<|A7 (AU g1.2.2.1.property g1.2.1.1.property Z) G_hit)<|rD N4) (.agg (ca Z<|.cons ⟨Cs,Z⟩ (.cons ⟨Cs,Z⟩ (.cons ⟨Cs,Z⟩ (.cons ⟨DLe.nil,Z⟩ .nil)))))
def S3 (p1:Int)(p2:Int)(p3:Int):Option Bool:=
  some ((decide (p2≤p1))&& (decide (p1≤p3)))
theorem R7(p1 p2 p3 r)(h:S3 p1 p2 p3=some r):PCall prog 134 [(i64 p1),(i64 p2),(i64 p3)] (bo r):=by
 refine E3 (fk func134 ntmps134 m0 (by with_unfolding_all rfl)) (nl Z) ?_
 unfold S3 at h
 refine A8 (s0:=⟨T [(0,(.d _)),(1,(.d _)),(2,(.d _))],G []⟩) (F5 Z Z) ?_
 refine C0<|sv Z<|A1<|C0<|sv Z<|sv Z<|sv Z<|sv Z<|gt Z (fun _=>Z)<|gt Z (fun _=>Z)<|gt Z (fun w3=>(Cu (A9 w3) (A9 w3) Z))<|sa Z Z Z<|sv Z<|A1<|C1 ?_
 cases h
 exact B9 (.inr Z) (C5 (C2 Z) D7) (.refl _)
def V7 (p1:RoadsCheck):Option Int:=
  (S3 p1.Map_.Version 0 1099511627776).bind fun v1=>cond (!v1) (some 2) (cond ((p1.Map_.Lanes.length:Int)==0) (some 6) (cond ((((decide ((p1.Map_.Lanes.length:Int)>12))||(decide ((p1.Map_.Zones.length:Int)>12)))||(decide ((p1.Map_.Signals.length:Int)>4)))||(decide ((p1.Map_.Works.length:Int)>8))) (some 8) (some 0)))
theorem Ni(p1 r)(h:V7 p1=some r):PCall prog 65 [(.agg (Q2 p1.Map_))] (i64 r):=by
 refine E3 (fk func65 ntmps65 m0 (by with_unfolding_all rfl)) (nl Z) ?_
 unfold V7 at h
 refine A8 (s0:=⟨T [(0,(.d _))],G []⟩) (F5 Z Z) ?_
 refine C0<|sm Z<|sv Z<|A1<|A4<|A5<|C0<|sq Z<|sp Z Z<|sl Z G_hit Z<|bs h fun v1 hv1 h=>D1 Z Z A6 (R7 _ _ _ _ hv1) (.inl Z) (B6 (.d (bo (!v1))) Z Z (sv Z<|A1<|cc Z h (fun c1 h=> ?_)<|fun c1 h=> ?_))
 refine C0<|sv Z<|A1<|C1 ?_
 cases h
 exact B9 (.inr Z) (C5 (C2 Z) D7) (.refl _)
 refine C0<|sq Z<|sp Z Z<|sl Z G_hit Z<|sd Z (D2 Z)<|sv Z<|sv Z<|A1<|cc Z h (fun c2 h=> ?_)<|fun c2 h=> ?_
 refine C0<|sv Z<|A1<|C1 ?_
 cases h
 exact B9 (.inr Z) (C5 (C2 Z) D7) (.refl _)
 refine C0<|sq Z<|sp Z Z<|sl Z G_hit Z<|sd Z (D2 Z)<|sv Z<|sv Z<|gp Z (T9 Z) (fun _=>Z) ?_
 refine R8 _ (.ptr _ _) Z (T9 Z) (fun w2=>(by simp only [A9 w2];rfl)) ?_
 refine gf Z (vl Z G_hit Z)<|gf Z (fun w4=>(D2<|A9 w4))<|gf Z (vb Z Z Z)<|sd Z (Ed Z Z<|fun hc=>A9<|Y1 hc)<|sv Z<|gp Z (T9 Z) (fun _=>Z) ?_
 refine R8 _ (.ptr _ _) Z (T9 Z) (fun w7=>(by simp only [A9 w7];rfl)) ?_
 refine gf Z (vl Z G_hit Z)<|gf Z (fun w9=>(D2<|A9 w9))<|gf Z (vb Z Z Z)<|sd Z (Ed Z Z<|fun hc=>A9<|Y1 hc)<|sv Z<|gp Z (T9 Z) (fun _=>Z) ?_
 refine R8 _ (.ptr _ _) Z (T9 Z) (fun w12=>(by simp only [A9 w12];rfl)) ?_
 refine gf Z (vl Z G_hit Z)<|gf Z (fun w14=>(D2<|A9 w14))<|gf Z (vb Z Z Z)<|sd Z (Ed Z Z<|fun hc=>A9<|Y1 hc)<|sv Z<|A1<|cc Z h (fun c3 h=> ?_)<|fun c3 h=> ?_
 refine A4<|A8 (s0:=⟨T [],G []⟩) (F5 Z Z) ?_
 refine B5<|sv Z<|A1<|C1 ?_
 cases h
 exact B9 (.inr Z) (C5 (C2 Z) D7) (.refl _)
 refine B4<|D8<|A4<|A8 (s0:=⟨T [],G []⟩) (F5 Z Z) ?_
 refine B5<|sv Z<|A1<|C1 ?_
 cases h
 exact B9 (.inr Z) (C5 (C2 Z) D7) (.refl _)
def Ev (p1:Int):Option (Int×Int×Int):=
  cond ((decide (p1<0))||(decide (p1≥4))) (some (0,0,0)) ((F6 ([(0,0,0),(2000,30,90),(1000,20,60),(300,100,300)]:List (Int×Int×Int)) p1).bind fun v1=>some (v1.1,v1.2.1,v1.2.2))
theorem Ny(p1 r)(h:Ev p1=some r):PCall prog 169 [(i64 p1)] (.tup [(i64 r.1),(i64 r.2.1),(i64 r.2.2)]):=by
 refine E3 (fk func169 ntmps169 m0 (by with_unfolding_all rfl)) (nl Z) ?_
 unfold Ev at h
 refine A8 (s0:=⟨T [(0,(.d _))],G []⟩) (F5 Z Z) ?_
 refine C0<|sv Z<|sv Z<|sv Z<|A1<|C0<|sv Z<|sv Z<|sv Z<|sv Z<|sm Z<|X7 Z G_hit [(di 0),(di 0),(di 0),(di 2000),(di 30),(di 90),(di 1000),(di 20),(di 60),(di 300),(di 100),(di 300)] Z (A1<|A4<|C0<|sv Z<|sv Z<|sv Z<|gf Z (fun _=>Z)<|gf Z (vb Z Z Z)<|sd Z (Ed Z Z<|fun hc=>A9<|Y1 hc)<|A1<|cc Z h (fun c1 h=> ?_)<|fun c1 h=> ?_)
 refine C0<|sv Z<|sv Z<|sv Z<|A1<|C1 ?_
 cases h
 exact B9 (.inr Z) (HJ (C2 Z) (C2 Z) (C2 Z) D7 D7 D7) (.refl _)
 refine B4<|lr<|fun u5 _=>sv Z<|bs h fun v1 hv1 h=>sp Z (Sk Z Z hv1 Z)<|sd Z (NL (f:=WW) Z G_hit hv1 (fun _=>Z) Z Z)<|sm Z<|X7 Z G_hit [(di v1.1),(di v1.2.1),(di v1.2.2)] Z (A1<|A4<|A8 (s0:=⟨T [(6,(.ptr _ _))],G [((6,u5),some<|.box 249 _)]⟩) (F5 Z Z) ?_)
 refine T7 Z<|sq Z<|sl Z G_hit Z<|sq Z<|sl Z G_hit Z<|sq Z<|sl Z G_hit Z<|sv Z<|sv Z<|sv Z<|A1<|C1 ?_
 cases h
 exact B9 (.inr Z) (HJ (C2 Z) (C2 Z) (C2 Z) D7 D7 D7) (.refl _)
def Cl (p1:(List Spot))(x1:Int):Option (Stp Int (Sum Unit Bool)):=
  cond (decide (x1< (p1.length:Int))) ((F6 p1 x1).bind fun v1=>cond ((decide ((IP false v1.X v1.Y)< (-16777216)))||(decide ((IP true v1.X v1.Y)>16777216))) (some (.out (.inr false))) (some (.go (I4 (x1+1))))) (some (.out (.inl ())))
def Ef [Lp](p1:(List Spot)):Option Bool:=
  thenS (loop (Cl p1) 0) (fun _=>some true) (fun r=>some r)
theorem Yg(p1 r)(h:Ef p1=some r):PCall prog 233 [(.list (List.map Q6 p1))] (bo r):=by
 refine E3 (fk func233 ntmps233 m0 (by with_unfolding_all rfl)) (nl Z) ?_
 unfold Ef at h
 refine A8 (s0:=⟨T [(0,(.d _))],G []⟩) (F5 Z Z) ?_
 refine C0<|sv Z<|A1<|A4<|C0<|sv Z<|sd Z (D2 Z)<|sv Z<|A1<|js h fun z1 hz1 h=>D3 (fun s=> ∃(y1:Unit) (g1:Unit),z1= .inl y1∧Sb ⟨T [],G []⟩ s) ?_ ?_
 refine A5<|D6 (Cl p1) (fun (x1:Int) (g2:Unit)=>⟨T [(5,(dl Q6 p1)),(6,(di (p1.length:Int))),(7,(di x1))],G []⟩) 0 () _ hz1 (F5 Z Z) ?_
 intro x1 g2 z2 hz2 ez2
 unfold Cl at hz2
 refine C0<|sv Z<|A1<|A4<|cc Z hz2 (fun c1 hz2=> ?_)<|fun c1 hz2=> ?_
 refine B4<|A4<|A5<|C0<|bs hz2 fun v1 hv1 hz2=>sd Z (E7 Z Z hv1 Z)<|sd Z (E4 Z hv1 Z Z)<|sm Z<|X7 Z G_hit [(di v1.X),(di v1.Y)] Z (A1<|C0<|sq Z<|sl Z G_hit Z<|sq Z<|sl Z G_hit Z<|sv Z<|sv Z<|sv Z<|gp Z (T9 Z) (fun _=>Z) (gf Z (vl Z G_hit Z)<|gp Z (T9 Z) (fun _=>Z) (gf Z (vl Z G_hit Z) ?_)))
 refine gf Z (fun w5=>(by simp only [A9 w5];rfl)) ?_
 refine gf Z (vb Z Z Z)<|sd Z (Ed Z Z<|fun hc=>A9<|Y1 hc)<|A1<|cc Z hz2 (fun c2 hz2=> ?_)<|fun c2 hz2=> ?_
 refine A4<|A8 (s0:=⟨T [],G []⟩) (F5 Z Z) ?_
 refine B5<|sv Z<|A1<|C1 ?_
 cases hz2
 obtain rfl:=ez2 _ rfl
 refine ⟨nofun,H7 ?_⟩
 rw [bP]at h
 cases h
 exact B9 (.inr Z) (C5 (C2 Z) D7) (.refl _)
 refine B4<|D8<|A8 (s0:=⟨T [(5,(.d _)),(6,(.d _)),(7,(.d _))],G []⟩) (F5 Z Z) ?_
 refine B5<|sv Z<|sv Z<|A1<|D9 ?_
 cases hz2
 exact ⟨Z,(),(F5 Z Z)⟩
 refine C4 Z ?_
 cases hz2
 obtain rfl:=ez2 _ rfl
 refine ⟨nofun,C3 Z<|V2 ?_⟩
 exact ⟨_,(),Z,(F5 Z Z)⟩
 rintro _ ⟨y1,g1,rfl,q1⟩
 rw [bO]at h
 refine A8 q1<|C0<|sv Z<|A1<|C1 ?_
 cases h
 exact B9 (.inr Z) (C5 (C2 Z) D7) (.refl _)
def Ha (p1:Spot)(p2:Spot):Option CurveVector:=
  some (CurveVector.mk (I4 (p2.X - p1.X)) (I4 (p2.Y - p1.Y)))
theorem Qm(p1 p2 r)(h:Ha p1 p2=some r):PCall prog 234 [(.agg [(i64 p1.X),(i64 p1.Y)]),(.agg [(i64 p2.X),(i64 p2.Y)])] (.agg [(i64 r.x),(i64 r.y)]):=by
 refine E3 (fk func234 ntmps234 m0 (by with_unfolding_all rfl)) (nl Z) ?_
 unfold Ha at h
 refine A8 (s0:=⟨T [(0,(.d _)),(1,(.d _))],G []⟩) (F5 Z Z) ?_
 refine C0<|sm Z<|sn Z Z<|sm Z<|A1<|C0<|sq Z<|sl Z (gq Z) Z (sq Z<|sl Z (gq Z) Z (sv Z<|sq Z<|sl Z (gq Z) Z (sq Z<|sl Z (gq Z) Z (sv Z<|sv Z<|X7 Z G_hit [(di<|I4 (p2.X - p1.X)),(di<|I4 (p2.Y - p1.Y))] Z (A1<|C1 ?_)))))
 cases h
 exact B9 (.inr Z) (C5 (O8 Z G_hit (nl Z) Z) D7) (.refl _)
def X1 (p1:CurveVector)(p2:CurveVector):Option Int:=
  some (I4 ((I4 (p1.x*p2.x))+ (I4 (p1.y*p2.y))))
theorem Fd(p1 p2 r)(h:X1 p1 p2=some r):PCall prog 236 [(.agg [(i64 p1.x),(i64 p1.y)]),(.agg [(i64 p2.x),(i64 p2.y)])] (i64 r):=by
 refine E3 (fk func236 ntmps236 m0 (by with_unfolding_all rfl)) (nl Z) ?_
 unfold X1 at h
 refine A8 (s0:=⟨T [(0,(.d _)),(1,(.d _))],G []⟩) (F5 Z Z) ?_
 refine C0<|sm Z<|sn Z Z<|sv Z<|A1<|C0<|sq Z<|sl Z (gq Z) Z (sq Z<|sl Z G_hit Z<|sv Z<|sq Z<|sl Z (gq Z) Z (sq Z<|sl Z G_hit Z<|sv Z<|sv Z<|sv Z<|A1<|C1 ?_))
 cases h
 exact B9 (.inr Z) (C5 (C2 Z) D7) (.refl _)
def Fh (p1:Int)(x1:(Int×Int)):Option (Stp (Int×Int) Int):=
  cond (decide (x1.1<x1.2)) (cond (decide ((I4 ((I4 ((I4 (x1.1+x1.2)).tdiv 2))* (I4 ((I4 (x1.1+x1.2)).tdiv 2))))<p1)) (some (.go ((I4 ((I4 ((I4 (x1.1+x1.2)).tdiv 2))+1)),x1.2))) (some (.go (x1.1,(I4 ((I4 (x1.1+x1.2)).tdiv 2)))))) (some (.out x1.1))
def Cm [Lp](p1:Int):Option (Int×Bool):=
  (loop (Fh p1) (0,67108864)).bind fun y1=>some (y1,((I4 (y1*y1))==p1))
theorem Qn(p1 r)(h:Cm p1=some r):PCall prog 235 [(i64 p1)] (.tup [(i64 r.1),(bo r.2)]):=by
 refine E3 (fk func235 ntmps235 m0 (by with_unfolding_all rfl)) (nl Z) ?_
 unfold Cm at h
 refine A8 (s0:=⟨T [(0,(.d _))],G []⟩) (F5 Z Z) ?_
 refine C0<|sv Z<|sv Z<|A1<|C0<|sv Z<|sv Z<|A1<|A4<|bs h fun y1 hy1 h=>D3 (fun s=> ∃g1:Unit,Sb ⟨T [(0,(di p1)),(4,(di y1))],G []⟩ s) ?_ ?_
 refine A5<|D6 (Fh p1) (fun (x1:(Int×Int)) (g2:Unit)=>⟨T [(0,(di p1)),(4,(di x1.1)),(5,(di x1.2))],G []⟩) (0,67108864) () _ hy1 (F5 Z Z) ?_
 intro x1 g2 z1 hz1 ez1
 unfold Fh at hz1
 refine A4<|C0<|sv Z<|sv Z<|sv Z<|A1<|cc Z hz1 (fun c1 hz1=> ?_)<|fun c1 hz1=> ?_
 refine B4<|A5<|C0<|sv Z<|sv Z<|sv Z<|sv Z<|sv Z<|A1<|C0<|sv Z<|sv Z<|sv Z<|sv Z<|sv Z<|A1<|cc Z hz1 (fun c2 hz1=> ?_)<|fun c2 hz1=> ?_
 refine B5<|sv Z<|sv Z<|sv Z<|A1<|D8<|D9 ?_
 cases hz1
 exact ⟨Z,(),(F5 Z Z)⟩
 refine B5<|sv Z<|sv Z<|A1<|D8<|D9 ?_
 cases hz1
 exact ⟨Z,(),(F5 Z Z)⟩
 refine C4 Z ?_
 cases hz1
 obtain rfl:=ez1 _ rfl
 refine ⟨nofun,C3 Z<|V2 ?_⟩
 exact ⟨(),(F5 Z Z)⟩
 rintro _ ⟨g1,q1⟩
 refine A8 q1<|C0<|sv Z<|sv Z<|sv Z<|sv Z<|sv Z<|sv Z<|sv Z<|sv Z<|A1<|C1 ?_
 cases h
 exact B9 (.inr Z) (Nw (C2 Z) (C2 Z) D7 D7) (.refl _)
def T5 [Lp](p1:Curve)(x1:(Int×CurveVector)):Option (Stp (Int×CurveVector) (Sum Unit Int)):=
  cond (decide (x1.1< (I4 ((p1.Pts.length:Int) - 1)))) ((F6 p1.Pts x1.1).bind fun v2=>(F6 p1.Pts (I4 (x1.1+1))).bind fun v3=>(Ha v2 v3).bind fun v4=>(X1 v4 v4).bind fun v5=>(Cm v5).bind fun v6=>cond (!v6.2) (some (.out (.inr 3))) (cond ((decide (v6.1<1000))||(decide (v6.1>1048576))) (some (.out (.inr 2))) (((cond (decide (x1.1>0)) (X1 x1.2 v4) (some default))).bind fun v7=>cond ((decide (x1.1>0))&& (decide (v7≤0))) (some (.out (.inr 12))) (some (.go ((I4 (x1.1+1)),v4)))))) (some (.out (.inl ())))
def Ca [Lp](p1:Curve):Option Int:=
  cond (decide ((p1.Pts.length:Int)<2)) (some 6) (cond (decide ((p1.Pts.length:Int)>16)) (some 5) ((Ef p1.Pts).bind fun v1=>cond (!v1) (some 2) (thenS (loop (T5 p1) (0,(CurveVector.mk 0 0))) (fun _=>some 0) (fun r=>some r))))
theorem Pd(p1 r)(h:Ca p1=some r):PCall prog 170 [(.agg [(.list (List.map Q6 p1.Pts))])] (i64 r):=by
 refine E3 (fk func170 ntmps170 m0 (by with_unfolding_all rfl)) (nl Z) ?_
 unfold Ca at h
 refine A8 (s0:=⟨T [(0,(.d _))],G []⟩) (F5 Z Z) ?_
 refine lr<|fun u1 _=>sm Z<|sv Z<|A1<|A4<|A5<|C0<|sq Z<|sl Z G_hit Z<|sd Z (D2 Z)<|sv Z<|sv Z<|A1<|cc Z h (fun c1 h=> ?_)<|fun c1 h=> ?_
 refine C0<|sv Z<|A1<|C1 ?_
 cases h
 exact B9 (.inr Z) (C5 (C2 Z) D7) (.refl _)
 refine C0<|sq Z<|sl Z G_hit Z<|sd Z (D2 Z)<|sv Z<|sv Z<|A1<|cc Z h (fun c2 h=> ?_)<|fun c2 h=> ?_
 refine C0<|sv Z<|A1<|C1 ?_
 cases h
 exact B9 (.inr Z) (C5 (C2 Z) D7) (.refl _)
 refine C0<|sq Z<|sl Z G_hit Z<|bs h fun v1 hv1 h=>D1 Z Z A6 (Yg _ _ hv1) (.inl Z) (B6 (.d (bo (!v1))) Z Z (sv Z<|A1<|cc Z h (fun c3 h=> ?_)<|fun c3 h=> ?_))
 refine C0<|sv Z<|A1<|C1 ?_
 cases h
 exact B9 (.inr Z) (C5 (C2 Z) D7) (.refl _)
 refine B4<|D8<|lr<|fun u8 _=>sm Z<|A1<|A4<|C0<|sq Z<|sl Z (gq Z) Z (sd Z (D2 Z)<|sv Z<|sv Z<|A1<|js h fun z1 hz1 h=>D3 (fun s=> ∃(y1:Unit) (g1:Unit),z1= .inl y1∧Sb ⟨T [],G []⟩ s) ?_ ?_)
 refine A5<|D6 (T5 p1) (fun (x1:(Int×CurveVector)) (g2:Unit)=>⟨T [(1,(.ptr (1,u1) 0)),(3,(.ptr (3,u8) 0)),(26,(di<|I4 ((p1.Pts.length:Int) - 1))),(27,(di x1.1))],G [((1,u1),some<|.box 39 [(dl Q6 p1.Pts)]),((3,u8),some<|.box 253 [(di x1.2.x),(di x1.2.y)])]⟩) (0,(CurveVector.mk 0 0)) () _ hz1 (F5 Z Z) ?_
 intro x1 g2 z2 hz2 ez2
 unfold T5 at hz2
 refine C0<|sv Z<|A1<|A4<|cc Z hz2 (fun c4 hz2=> ?_)<|fun c4 hz2=> ?_
 refine B4<|A4<|A5<|C0<|sv Z<|sv Z<|A1<|A4<|FV Z fun u12 _=>sq Z<|sl Z G_hit Z<|sv Z<|bs hz2 fun _ hv2 hz2=>sd Z (E7 Z Z hv2 Z)<|sd Z (E4 Z hv2 Z Z)<|sq Z<|sl Z G_hit Z<|sv Z<|sv Z<|bs hz2 fun _ hv3 hz2=>sd Z (E7 Z Z hv3 Z)<|sd Z (E4 Z hv3 Z Z)<|bs hz2 fun v4 hv4 hz2=>D1 Z Z A6 (Qm _ _ _ hv4) (.inl Z) (sm Z<|X7 Z G_hit [(di v4.x),(di v4.y)] Z (A1<|A4<|A8 (s0:=⟨T [(1,(.ptr _ _)),(3,(.ptr _ _)),(4,(.d _)),(5,(.ptr _ _)),(26,(.d _)),(27,(.d _))],G [((1,u1),some<|.box 39 _),((3,u8),some<|.box 253 _),((5,u12),some<|.box 253 _)]⟩) (F5 Z Z) ?_))
 refine B5<|sd Z (C6 Z (gq Z) Z Z)<|sd Z (C6 Z (gq Z) Z Z)<|bs hz2 fun _ hv5 hz2=>D1 Z Z A6 (Fd _ _ _ hv5) (.inl Z) (bs hz2 fun v6 hv6 hz2=>D1 Z Z A6 (Qn _ _ hv6) (.inl Z) (sv Z<|sv Z<|sv Z<|sv Z<|sv Z<|A1<|A4<|A5<|C0<|sv Z<|B6 (.d (bo (!v6.2))) Z Z (sv Z<|A1<|cc Z hz2 (fun c5 hz2=> ?_)<|fun c5 hz2=> ?_)))
 refine C0<|sv Z<|A1<|C1 ?_
 cases hz2
 obtain rfl:=ez2 _ rfl
 refine ⟨nofun,H7 ?_⟩
 rw [bP]at h
 cases h
 exact B9 (.inr Z) (C5 (C2 Z) D7) (.refl _)
 refine C0<|sv Z<|sv Z<|sv Z<|gf Z (fun _=>Z)<|gf Z (vb Z Z Z)<|sd Z (Ed Z Z<|fun hc=>A9<|Y1 hc)<|sv Z<|A1<|cc Z hz2 (fun c6 hz2=> ?_)<|fun c6 hz2=> ?_
 refine A4<|A8 (s0:=⟨T [],G []⟩) (F5 Z Z) ?_
 refine B5<|sv Z<|A1<|C1 ?_
 cases hz2
 obtain rfl:=ez2 _ rfl
 refine ⟨nofun,H7 ?_⟩
 rw [bP]at h
 cases h
 exact B9 (.inr Z) (C5 (C2 Z) D7) (.refl _)
 refine A4<|A8 (s0:=⟨T [(1,(.ptr _ _)),(3,(.ptr _ _)),(4,(.d _)),(5,(.ptr _ _)),(26,(.d _)),(27,(.d _))],G [((1,u1),some<|.box 39 _),((3,u8),some<|.box 253 _),((5,u12),some<|.box 253 _)]⟩) (F5 Z Z) ?_
 refine B5<|sv Z<|sv Z<|sv Z<|gt Z (fun _=>(C6 Z (gq Z) Z Z))<|gt Z (fun _=>(C6 Z (gq Z) Z Z))<|bs hz2 fun v7 hv7 hz2=> ?_
 refine P4 _ (i64 v7) (K0 Z) (fun w5=>⟨_,[(.d (.agg [(i64 x1.2.x),(i64 x1.2.y)])),(.d (.agg [(i64 v4.x),(i64 v4.y)]))],_,_,(by simp only [A9 w5];rfl),Z,A6,Fd _ _ _<|K2 w5 hv7,(.inl Z)⟩) ?_
 refine gt Z (vb Z Z Z)<|sa Z Z Z<|sv Z<|A1<|cc Z hz2 (fun c7 hz2=> ?_)<|fun c7 hz2=> ?_
 refine C0<|sv Z<|A1<|C1 ?_
 cases hz2
 obtain rfl:=ez2 _ rfl
 refine ⟨nofun,H7 ?_⟩
 rw [bP]at h
 cases h
 exact B9 (.inr Z) (C5 (C2 Z) D7) (.refl _)
 refine B4<|D8<|B5<|sd Z (C6 Z (gq Z) Z Z)<|X7 Z (gq Z) [(di v4.x),(di v4.y)] Z (A1<|D8<|B5<|sv Z<|sv Z<|A1<|D9 ?_)
 cases hz2
 exact ⟨Z,(),(F5 Z Z)⟩
 refine C4 Z ?_
 cases hz2
 obtain rfl:=ez2 _ rfl
 refine ⟨nofun,C3 Z<|V2 ?_⟩
 exact ⟨_,(),Z,(F5 Z Z)⟩
 rintro _ ⟨y1,g1,rfl,q1⟩
 rw [bO]at h
 refine A8 q1<|C0<|sv Z<|A1<|C1 ?_
 cases h
 exact B9 (.inr Z) (C5 (C2 Z) D7) (.refl _)
def Z1 (p1:(List Int))(p3:Int)(x1:(Int×Int)):Option (Stp (Int×Int) (Sum Unit Bool)):=
  cond (decide (x1.2< (p1.length:Int))) ((F6 p1 x1.2).bind fun v1=>cond ((decide (v1<x1.1))||(decide (v1≥p3))) (some (.out (.inr false))) (some (.go ((I4 (v1+1)),(I4 (x1.2+1)))))) (some (.out (.inl ())))
def X9 [Lp](p1:(List Int))(p2:Int)(p3:Int):Option Bool:=
  thenS (loop (Z1 p1 p3) (p2,0)) (fun _=>some true) (fun r=>some r)
theorem Hr(p1 p2 p3 r)(h:X9 p1 p2 p3=some r):PCall prog 171 [(.list (List.map A3 p1)),(i64 p2),(i64 p3)] (bo r):=by
 refine E3 (fk func171 ntmps171 m0 (by with_unfolding_all rfl)) (nl Z) ?_
 unfold X9 at h
 refine A8 (s0:=⟨T [(0,(.d _)),(1,(.d _)),(2,(.d _))],G []⟩) (F5 Z Z) ?_
 refine C0<|sv Z<|A1<|A4<|C0<|sv Z<|sd Z (D2 Z)<|sv Z<|A1<|js h fun z1 hz1 h=>D3 (fun s=> ∃(y1:Unit) (g1:Unit),z1= .inl y1∧Sb ⟨T [],G []⟩ s) ?_ ?_
 refine A5<|D6 (Z1 p1 p3) (fun (x1:(Int×Int)) (g2:Unit)=>⟨T [(1,(di x1.1)),(2,(di p3)),(9,(dl A3 p1)),(10,(di (p1.length:Int))),(11,(di x1.2))],G []⟩) (p2,0) () _ hz1 (F5 Z Z) ?_
 intro x1 g2 z2 hz2 ez2
 unfold Z1 at hz2
 refine C0<|sv Z<|A1<|A4<|cc Z hz2 (fun c1 hz2=> ?_)<|fun c1 hz2=> ?_
 refine B4<|A4<|A5<|C0<|bs hz2 fun _ hv1 hz2=>sd Z (E7 Z Z hv1 Z)<|sd Z (G7 Z hv1 Z)<|sv Z<|A1<|A4<|C0<|sv Z<|sv Z<|sv Z<|sv Z<|gf Z (fun _=>Z)<|gf Z (fun _=>Z)<|gf Z (fun w3=>(Cu (A9 w3) (A9 w3) Z))<|sd Z (Ed Z Z<|fun hc=>A9<|Y1 hc)<|A1<|cc Z hz2 (fun c2 hz2=> ?_)<|fun c2 hz2=> ?_
 refine C0<|sv Z<|A1<|C1 ?_
 cases hz2
 obtain rfl:=ez2 _ rfl
 refine ⟨nofun,H7 ?_⟩
 rw [bP]at h
 cases h
 exact B9 (.inr Z) (C5 (C2 Z) D7) (.refl _)
 refine B4<|B5<|sv Z<|sv Z<|sv Z<|A1<|D8<|B5<|sv Z<|sv Z<|A1<|D9 ?_
 cases hz2
 exact ⟨Z,(),(F5 Z Z)⟩
 refine C4 Z ?_
 cases hz2
 obtain rfl:=ez2 _ rfl
 refine ⟨nofun,C3 Z<|V2 ?_⟩
 exact ⟨_,(),Z,(F5 Z Z)⟩
 rintro _ ⟨y1,g1,rfl,q1⟩
 rw [bO]at h
 refine A8 q1<|C0<|sv Z<|A1<|C1 ?_
 cases h
 exact B9 (.inr Z) (C5 (C2 Z) D7) (.refl _)
def M8 [Lp](p1:RoadsCheck)(x1:Int):Option (Stp Int (Sum Unit Int)):=
  cond (decide (x1< (p1.Map_.Lanes.length:Int))) ((F6 p1.Map_.Lanes x1).bind fun v1=>(Ev v1.Kind).bind fun v2=>cond (v2.1==0) (some (.out (.inr 4))) ((Ca v1.Curve_).bind fun v3=>cond (v3 !=0) (some (.out (.inr v3))) ((S3 v1.Half 200 4000).bind fun v4=>((cond (!(!v4)) (S3 v1.Limit 1 v2.1) (some default))).bind fun v5=>cond ((!v4)||(!v5)) (some (.out (.inr 2))) (cond (decide ((v1.Next.length:Int)>3)) (some (.out (.inr 8))) ((X9 v1.Next (I4 (x1+1)) (p1.Map_.Lanes.length:Int)).bind fun v6=>cond (!v6) (some (.out (.inr 11))) (some (.go (I4 (x1+1))))))))) (some (.out (.inl ())))
def R3 [Lp](p1:RoadsCheck):Option Int:=
  thenS (loop (M8 p1) 0) (fun _=>some 0) (fun r=>some r)
theorem Pe(p1 r)(h:R3 p1=some r):PCall prog 66 [(.agg (Q2 p1.Map_))] (i64 r):=by
 refine E3 (fk func66 ntmps66 m0 (by with_unfolding_all rfl)) (nl Z) ?_
 unfold R3 at h
 refine A8 (s0:=⟨T [(0,(.d _))],G []⟩) (F5 Z Z) ?_
 refine lr<|fun u1 _=>sm Z<|sv Z<|A1<|A4<|C0<|sq Z<|sp Z Z<|sl Z G_hit Z<|sd Z (D2 Z)<|sv Z<|A1<|js h fun z1 hz1 h=>D3 (fun s=> ∃(y1:Unit) (g1:Unit),z1= .inl y1∧Sb ⟨T [],G []⟩ s) ?_ ?_
 refine A5<|D6 (M8 p1) (fun (x1:Int) (g2:Unit)=>⟨T [(1,(.ptr (1,u1) 0)),(11,(dl O1 p1.Map_.Lanes)),(12,(di (p1.Map_.Lanes.length:Int))),(13,(di x1))],G [((1,u1),some<|.box 105 (F1 p1.Map_))]⟩) 0 () _ hz1 (F5 Z Z) ?_
 intro x1 g2 z2 hz2 ez2
 unfold M8 at hz2
 refine C0<|sv Z<|A1<|A4<|cc Z hz2 (fun c1 hz2=> ?_)<|fun c1 hz2=> ?_
 refine B4<|A4<|A5<|lr<|fun u4 _=>sv Z<|bs hz2 fun v1 hv1 hz2=>sd Z (E7 Z Z hv1 Z)<|sd Z (E4 Z hv1 Z Z)<|sm Z<|sv Z<|X7 Z G_hit (Bz v1) Z (A1<|C0<|sq Z<|sl Z G_hit Z<|bs hz2 fun v2 hv2 hz2=>D1 Z Z A6 (Ny _ _ hv2) (.inl Z) (sv Z<|sv Z<|sv Z<|sv Z<|sv Z<|sv Z<|sv Z<|A1<|A4<|A4<|A8 (s0:=⟨T [(1,(.ptr _ _)),(3,(.d _)),(4,(.ptr _ _)),(5,(.d _)),(11,(.d _)),(12,(.d _)),(13,(.d _))],G [((1,u1),some<|.box 105 _),((4,u4),some<|.box 42 _)]⟩) (F5 Z Z) ?_))
 refine B5<|sv Z<|sv Z<|A1<|cc Z hz2 (fun c2 hz2=> ?_)<|fun c2 hz2=> ?_
 refine C0<|sv Z<|A1<|C1 ?_
 cases hz2
 obtain rfl:=ez2 _ rfl
 refine ⟨nofun,H7 ?_⟩
 rw [bP]at h
 cases h
 exact B9 (.inr Z) (C5 (C2 Z) D7) (.refl _)
 refine B4<|A4<|C0<|sq Z<|sd Z (C6 Z (gq Z) Z Z)<|bs hz2 fun _ hv3 hz2=>D1 Z Z A6 (Pd _ _ hv3) (.inl Z) (sv Z<|A1<|C0<|sv Z<|sv Z<|A1<|cc Z hz2 (fun c3 hz2=> ?_)<|fun c3 hz2=> ?_)
 refine C0<|sv Z<|sv Z<|A1<|C1 ?_
 cases hz2
 obtain rfl:=ez2 _ rfl
 refine ⟨nofun,H7 ?_⟩
 rw [bP]at h
 cases h
 exact B9 (.inr Z) (C5 (C2 Z) D7) (.refl _)
 refine B4<|A5<|C0<|sq Z<|sl Z (gq Z) Z (bs hz2 fun v4 hv4 hz2=>D1 Z Z A6 (R7 _ _ _ _ hv4) (.inl Z) (B6 (.d (bo (!v4))) Z Z (sv Z<|gp Z (T9 Z) (fun _=>Z) (gf Z (vl Z (gq Z) Z)<|gf Z (fun _=>Z)<|bs hz2 fun v5 hv5 hz2=> ?_))))
 refine P4 _ (bo v5) (T9 Z) (fun w4=>⟨_,[(di v1.Limit),(di 1),(di v2.1)],_,_,(by simp only [A9 w4];rfl),Z,A6,R7 _ _ _ _<|K2 w4 hv5,(.inl Z)⟩) ?_
 refine R8 _ (.d (bo (!v5))) Z (T9 Z) (fun w5=>(by simp only [A9 w5];rfl)) ?_
 refine sd Z (Ed Z Z<|fun hc=>A9<|Y1 hc)<|sv Z<|A1<|cc Z hz2 (fun c4 hz2=> ?_)<|fun c4 hz2=> ?_
 refine A4<|A8 (s0:=⟨T [],G []⟩) (F5 Z Z) ?_
 refine B5<|sv Z<|A1<|C1 ?_
 cases hz2
 obtain rfl:=ez2 _ rfl
 refine ⟨nofun,H7 ?_⟩
 rw [bP]at h
 cases h
 exact B9 (.inr Z) (C5 (C2 Z) D7) (.refl _)
 refine A4<|A8 (s0:=⟨T [(1,(.ptr _ _)),(3,(.d _)),(4,(.ptr _ _)),(11,(.d _)),(12,(.d _)),(13,(.d _))],G [((1,u1),some<|.box 105 _),((4,u4),some<|.box 42 _)]⟩) (F5 Z Z) ?_
 refine B5<|sq Z<|sl Z (gq Z) Z (sd Z (D2 Z)<|sv Z<|sv Z<|A1<|cc Z hz2 (fun c5 hz2=> ?_)<|fun c5 hz2=> ?_)
 refine C0<|sv Z<|A1<|C1 ?_
 cases hz2
 obtain rfl:=ez2 _ rfl
 refine ⟨nofun,H7 ?_⟩
 rw [bP]at h
 cases h
 exact B9 (.inr Z) (C5 (C2 Z) D7) (.refl _)
 refine C0<|sq Z<|sl Z (gq Z) Z (sv Z<|sv Z<|sq Z<|sp Z Z<|sl Z G_hit Z<|sd Z (D2 Z)<|bs hz2 fun v6 hv6 hz2=>D1 Z Z A6 (Hr _ _ _ _ hv6) (.inl Z) (B6 (.d (bo (!v6))) Z Z (sv Z<|A1<|cc Z hz2 (fun c6 hz2=> ?_)<|fun c6 hz2=> ?_)))
 refine A4<|A8 (s0:=⟨T [],G []⟩) (F5 Z Z) ?_
 refine B5<|sv Z<|A1<|C1 ?_
 cases hz2
 obtain rfl:=ez2 _ rfl
 refine ⟨nofun,H7 ?_⟩
 rw [bP]at h
 cases h
 exact B9 (.inr Z) (C5 (C2 Z) D7) (.refl _)
 refine B4<|D8<|D8<|A8 (s0:=⟨T [(1,(.ptr _ _)),(11,(.d _)),(12,(.d _)),(13,(.d _))],G [((1,u1),some<|.box 105 _)]⟩) (F5 Z Z) ?_
 refine B5<|sv Z<|sv Z<|A1<|D9 ?_
 cases hz2
 exact ⟨Z,(),(F5 Z Z)⟩
 refine C4 Z ?_
 cases hz2
 obtain rfl:=ez2 _ rfl
 refine ⟨nofun,C3 Z<|V2 ?_⟩
 exact ⟨_,(),Z,(F5 Z Z)⟩
 rintro _ ⟨y1,g1,rfl,q1⟩
 rw [bO]at h
 refine A8 q1<|C0<|sv Z<|A1<|C1 ?_
 cases h
 exact B9 (.inr Z) (C5 (C2 Z) D7) (.refl _)
def T1 (p1:RoadsCheck)(v1:Lane)(v2:Spot)(x2:Int):Option (Stp Int (Sum Unit Int)):=
  cond (decide (x2< (v1.Next.length:Int))) ((F6 v1.Next x2).bind fun v3=>(F6 p1.Map_.Lanes v3).bind fun v4=>cond (v4.Kind !=v1.Kind) (some (.out (.inr 4))) ((F6 p1.Map_.Lanes v3).bind fun v5=>(F6 v5.Curve_.Pts 0).bind fun v6=>cond (!(v6.X==v2.X&& (v6.Y==v2.Y&&true))) (some (.out (.inr 3))) (some (.go (I4 (x2+1)))))) (some (.out (.inl ())))
def M2 [Lp](p1:RoadsCheck)(x1:Int):Option (Stp Int (Sum Unit Int)):=
  cond (decide (x1< (p1.Map_.Lanes.length:Int))) ((F6 p1.Map_.Lanes x1).bind fun v1=>(F6 v1.Curve_.Pts (I4 ((v1.Curve_.Pts.length:Int) - 1))).bind fun v2=>thenS (loop (T1 p1 v1 v2) 0) (fun _=>some (.go (I4 (x1+1)))) (fun r=>some (.out (.inr r)))) (some (.out (.inl ())))
def P9 [Lp](p1:RoadsCheck):Option Int:=
  thenS (loop (M2 p1) 0) (fun _=>some 0) (fun r=>some r)
theorem Oe(p1 r)(h:P9 p1=some r):PCall prog 67 [(.agg (Q2 p1.Map_))] (i64 r):=by
 refine E3 (fk func67 ntmps67 m0 (by with_unfolding_all rfl)) (nl Z) ?_
 unfold P9 at h
 refine A8 (s0:=⟨T [(0,(.d _))],G []⟩) (F5 Z Z) ?_
 refine lr<|fun u1 _=>sm Z<|sv Z<|A1<|A4<|C0<|sq Z<|sp Z Z<|sl Z G_hit Z<|sd Z (D2 Z)<|sv Z<|A1<|js h fun z1 hz1 h=>D3 (fun s=> ∃(y1:Unit) (g1:Unit),z1= .inl y1∧Sb ⟨T [],G []⟩ s) ?_ ?_
 refine A5<|D6 (M2 p1) (fun (x1:Int) (g2:Unit)=>⟨T [(1,(.ptr (1,u1) 0)),(10,(dl O1 p1.Map_.Lanes)),(11,(di (p1.Map_.Lanes.length:Int))),(12,(di x1))],G [((1,u1),some<|.box 105 (F1 p1.Map_))]⟩) 0 () _ hz1 (F5 Z Z) ?_
 intro x1 g2 z2 hz2 ez2
 unfold M2 at hz2
 refine C0<|sv Z<|A1<|A4<|cc Z hz2 (fun c1 hz2=> ?_)<|fun c1 hz2=> ?_
 refine B4<|A4<|A5<|lr<|fun u4 _=>bs hz2 fun v1 hv1 hz2=>sd Z (E7 Z Z hv1 Z)<|sd Z (E4 Z hv1 Z Z)<|sm Z<|X7 Z G_hit (Bz v1) Z (A1<|lr<|fun u5 _=>sq Z<|sq Z<|sl Z G_hit Z<|sq Z<|sp Z Z<|sl Z G_hit Z<|sd Z (D2 Z)<|sv Z<|bs hz2 fun v2 hv2 hz2=>sd Z (E7 Z Z hv2 Z)<|sd Z (E4 Z hv2 Z Z)<|sm Z<|X7 Z G_hit [(di v2.X),(di v2.Y)] Z (A1<|A4<|A8 (s0:=⟨T [(1,(.ptr _ _)),(4,(.ptr _ _)),(5,(.ptr _ _)),(10,(.d _)),(11,(.d _)),(12,(.d _))],G [((1,u1),some<|.box 105 _),((4,u4),some<|.box 42 _),((5,u5),some<|.box 148 _)]⟩) (F5 Z Z) ?_))
 refine B5<|sq Z<|sl Z (gq Z) Z (sd Z (D2 Z)<|sv Z<|A1<|js hz2 fun z3 hz3 hz2=>D3 (fun s=> ∃(y2:Unit) (g3:Unit),z3= .inl y2∧Sb ⟨T [(1,(.ptr (1,u1) 0)),(10,(dl O1 p1.Map_.Lanes)),(11,(di (p1.Map_.Lanes.length:Int))),(12,(di x1))],G [((1,u1),some<|.box 105 (F1 p1.Map_))]⟩ s) ?_ ?_)
 refine A5<|D6 (T1 p1 v1 v2) (fun (x2:Int) (g4:Unit)=>⟨T [(1,(.ptr (1,u1) 0)),(4,(.ptr (4,u4) 0)),(5,(.ptr (5,u5) 0)),(10,(dl O1 p1.Map_.Lanes)),(11,(di (p1.Map_.Lanes.length:Int))),(12,(di x1)),(27,(dl A3 v1.Next)),(28,(di (v1.Next.length:Int))),(29,(di x2))],G [((1,u1),some<|.box 105 (F1 p1.Map_)),((4,u4),some<|.box 42 (Bz v1)),((5,u5),some<|.box 148 [(di v2.X),(di v2.Y)])]⟩) 0 () _ hz3 (F5 Z Z) ?_
 intro x2 g4 z4 hz4 ez4
 unfold T1 at hz4
 refine C0<|sv Z<|A1<|A4<|cc Z hz4 (fun c2 hz4=> ?_)<|fun c2 hz4=> ?_
 refine B4<|A4<|A5<|C0<|bs hz4 fun _ hv3 hz4=>sd Z (E7 Z Z hv3 Z)<|sd Z (G7 Z hv3 Z)<|sv Z<|A1<|A4<|A4<|T7 Z<|sq Z<|sq Z<|sl Z G_hit Z<|sv Z<|bs hz4 fun _ hv4 hz4=>sd Z (E7 Z Z hv4 Z)<|sv Z<|sd Z (G7 Z hv4 Z)<|sq Z<|sl Z (gq Z) Z (sv Z<|A1<|cc Z hz4 (fun c3 hz4=> ?_)<|fun c3 hz4=> ?_)
 refine A4<|A8 (s0:=⟨T [],G []⟩) (F5 Z Z) ?_
 refine B5<|sv Z<|A1<|C1 ?_
 cases hz4
 obtain rfl:=ez4 _ rfl
 refine ⟨nofun,H7 ?_⟩
 rw [bP]at hz2
 cases hz2
 obtain rfl:=ez2 _ rfl
 refine ⟨nofun,H7 ?_⟩
 rw [bP]at h
 cases h
 exact B9 (.inr Z) (C5 (C2 Z) D7) (.refl _)
 refine B4<|A4<|A8 (s0:=⟨T [(1,(.ptr _ _)),(4,(.ptr _ _)),(5,(.ptr _ _)),(7,(.d _)),(10,(.d _)),(11,(.d _)),(12,(.d _)),(27,(.d _)),(28,(.d _)),(29,(.d _))],G [((1,u1),some<|.box 105 _),((4,u4),some<|.box 42 _),((5,u5),some<|.box 148 _)]⟩) (F5 Z Z) ?_
 refine T7 Z<|sq Z<|sq Z<|sl Z G_hit Z<|sv Z<|bs hz4 fun _ hv5 hz4=>sd Z (E7 Z Z hv5 Z)<|sv Z<|sv Z<|sd Z (G7 Z hv5 Z)<|bs hz4 fun v6 hv6 hz4=>sd Z (E7 Z Z hv6 Z)<|sd Z (E4 Z hv6 Z Z)<|sd Z (C6 Z (gq Z) Z Z)<|B6 (.d (bo (!(v6.X==v2.X&& (v6.Y==v2.Y&&true))))) Z Z (A1<|cc Z hz4 (fun c4 hz4=> ?_)<|fun c4 hz4=> ?_)
 refine A4<|A8 (s0:=⟨T [],G []⟩) (F5 Z Z) ?_
 refine B5<|sv Z<|A1<|C1 ?_
 cases hz4
 obtain rfl:=ez4 _ rfl
 refine ⟨nofun,H7 ?_⟩
 rw [bP]at hz2
 cases hz2
 obtain rfl:=ez2 _ rfl
 refine ⟨nofun,H7 ?_⟩
 rw [bP]at h
 cases h
 exact B9 (.inr Z) (C5 (C2 Z) D7) (.refl _)
 refine B4<|D8<|A8 (s0:=⟨T [(1,(.ptr _ _)),(4,(.ptr _ _)),(5,(.ptr _ _)),(10,(.d _)),(11,(.d _)),(12,(.d _)),(27,(.d _)),(28,(.d _)),(29,(.d _))],G [((1,u1),some<|.box 105 _),((4,u4),some<|.box 42 _),((5,u5),some<|.box 148 _)]⟩) (F5 Z Z) ?_
 refine B5<|sv Z<|sv Z<|A1<|D9 ?_
 cases hz4
 exact ⟨Z,(),(F5 Z Z)⟩
 refine C4 Z ?_
 cases hz4
 obtain rfl:=ez4 _ rfl
 refine ⟨nofun,C3 Z<|V2 ?_⟩
 exact ⟨_,(),Z,(F5 Z Z)⟩
 rintro _ ⟨y2,g3,rfl,q1⟩
 rw [bO]at hz2
 refine D8<|A8 q1<|B5<|sv Z<|sv Z<|A1<|D9 ?_
 cases hz2
 exact ⟨Z,(),(F5 Z Z)⟩
 refine C4 Z ?_
 cases hz2
 obtain rfl:=ez2 _ rfl
 refine ⟨nofun,C3 Z<|V2 ?_⟩
 exact ⟨_,(),Z,(F5 Z Z)⟩
 rintro _ ⟨y1,g1,rfl,q2⟩
 rw [bO]at h
 refine A8 q2<|C0<|sv Z<|A1<|C1 ?_
 cases h
 exact B9 (.inr Z) (C5 (C2 Z) D7) (.refl _)
def Bg (p1:Phase):Option Bool:=
  (S3 p1.Ticks 1 10000).bind fun v1=>some (!v1)
theorem Mc(p1 r)(h:Bg p1=some r):PCall prog 173 [(.agg [(i64 p1.Ticks),(.list (List.map A3 p1.Green))])] (bo r):=by
 refine E3 (fk func173 ntmps173 m0 (by with_unfolding_all rfl)) (nl Z) ?_
 unfold Bg at h
 refine A8 (s0:=⟨T [(0,(.d _))],G []⟩) (F5 Z Z) ?_
 refine C0<|sm Z<|sv Z<|A1<|C0<|sq Z<|sl Z G_hit Z<|bs h fun v1 hv1 h=>D1 Z Z A6 (R7 _ _ _ _ hv1) (.inl Z) (B6 (.d (bo (!v1))) Z Z (sv Z<|A1<|C1 ?_))
 cases h
 exact B9 (.inr Z) (C5 (C2 Z) D7) (.refl _)
def G6 (p1:(List Phase))(x1:Int):Option (Stp Int (Sum Unit Int)):=
  cond (decide (x1< (p1.length:Int))) ((F6 p1 x1).bind fun v1=>(Bg v1).bind fun v2=>cond v2 (some (.out (.inr x1))) (some (.go (I4 (x1+1))))) (some (.out (.inl ())))
def E2 [Lp](p1:(List Phase)):Option Int:=
  thenS (loop (G6 p1) 0) (fun _=>some (-1)) (fun r=>some r)
theorem Ae(p1 r)(h:E2 p1=some r):PCall prog 237 [(.list (List.map L4 p1)),(.fn (.func 173) [] [])] (i64 r):=by
 refine E3 (fk func237 ntmps237 m0 (by with_unfolding_all rfl)) (nl Z) ?_
 unfold E2 at h
 refine A8 (s0:=⟨T [(0,(.d _)),(1,(.d _))],G []⟩) (F5 Z Z) ?_
 refine C0<|sv Z<|A1<|A4<|C0<|sv Z<|sd Z (D2 Z)<|sv Z<|A1<|js h fun z1 hz1 h=>D3 (fun s=> ∃(y1:Unit) (g1:Unit),z1= .inl y1∧Sb ⟨T [],G []⟩ s) ?_ ?_
 refine A5<|D6 (G6 p1) (fun (x1:Int) (g2:Unit)=>⟨T [(0,(dl L4 p1)),(1,(.d (.fn (.func 173) [] []))),(7,(di (p1.length:Int))),(8,(di x1))],G []⟩) 0 () _ hz1 (F5 Z Z) ?_
 intro x1 g2 z2 hz2 ez2
 unfold G6 at hz2
 refine C0<|sv Z<|A1<|A4<|cc Z hz2 (fun c1 hz2=> ?_)<|fun c1 hz2=> ?_
 refine B4<|A4<|A5<|C0<|sv Z<|sv Z<|A1<|C0<|sv Z<|sv Z<|sv Z<|bs hz2 fun _ hv1 hz2=>sd Z (E7 Z Z hv1 Z)<|sd Z (E4 Z hv1 Z Z)<|bs hz2 fun _ hv2 hz2=>D1 Z Z A6 (Mc _ _ hv2) (.inl Z) (A1<|cc Z hz2 (fun c2 hz2=> ?_)<|fun c2 hz2=> ?_)
 refine C0<|sv Z<|sv Z<|A1<|C1 ?_
 cases hz2
 obtain rfl:=ez2 _ rfl
 refine ⟨nofun,H7 ?_⟩
 rw [bP]at h
 cases h
 exact B9 (.inr Z) (C5 (C2 Z) D7) (.refl _)
 refine B4<|D8<|B5<|sv Z<|sv Z<|A1<|D9 ?_
 cases hz2
 exact ⟨Z,(),(F5 Z Z)⟩
 refine C4 Z ?_
 cases hz2
 obtain rfl:=ez2 _ rfl
 refine ⟨nofun,C3 Z<|V2 ?_⟩
 exact ⟨_,(),Z,(F5 Z Z)⟩
 rintro _ ⟨y1,g1,rfl,q1⟩
 rw [bO]at h
 refine A8 q1<|C0<|sv Z<|A1<|C1 ?_
 cases h
 exact B9 (.inr Z) (C5 (C2 Z) D7) (.refl _)
def D0 [Lp](p1:(List Phase)):Option Bool:=
  (E2 p1).bind fun v1=>some (decide (v1≥0))
theorem Y3(p1 r)(h:D0 p1=some r):PCall prog 172 [(.list (List.map L4 p1)),(.fn (.func 173) [] [])] (bo r):=by
 refine E3 (fk func172 ntmps172 m0 (by with_unfolding_all rfl)) (nl Z) ?_
 unfold D0 at h
 refine A8 (s0:=⟨T [(0,(.d _)),(1,(.d _))],G []⟩) (F5 Z Z) ?_
 refine C0<|sv Z<|A1<|C0<|sv Z<|sv Z<|bs h fun _ hv1 h=>D1 Z Z A6 (Ae _ _ hv1) (.inl Z) (sv Z<|sv Z<|A1<|C1 ?_)
 cases h
 exact B9 (.inr Z) (C5 (C2 Z) D7) (.refl _)
def O9 [Lp](p1:Phase)(p2:RoadsCheck):Option Bool:=
  (X9 p1.Green 0 (p2.Map_.Lanes.length:Int)).bind fun v1=>some (!v1)
theorem Ki(p1 p2 r)(h:O9 p1 p2=some r):PCall prog 174 [(.agg [(i64 p1.Ticks),(.list (List.map A3 p1.Green))]),(.bp (Q2 p2.Map_) 0)] (bo r):=by
 refine E3 (fk func174 ntmps174 m0 (by with_unfolding_all rfl)) (nl Z) ?_
 unfold O9 at h
 refine A8 (s0:=⟨T [(0,(.d _)),(1,(.d _))],G []⟩) (F5 Z Z) ?_
 refine C0<|sm Z<|sv Z<|A1<|C0<|sq Z<|sl Z G_hit Z<|sv Z<|sv Z<|sv Z<|sd Z (D2 Z)<|bs h fun v1 hv1 h=>D1 Z Z A6 (Hr _ _ _ _ hv1) (.inl Z) (B6 (.d (bo (!v1))) Z Z (sv Z<|A1<|C1 ?_))
 cases h
 exact B9 (.inr Z) (C5 (C2 Z) D7) (.refl _)
def C8 [Lp](p1:(List Phase))(p2:RoadsCheck)(x1:Int):Option (Stp Int (Sum Unit Int)):=
  cond (decide (x1< (p1.length:Int))) ((F6 p1 x1).bind fun v1=>(O9 v1 p2).bind fun v2=>cond v2 (some (.out (.inr x1))) (some (.go (I4 (x1+1))))) (some (.out (.inl ())))
def E1 [Lp](p1:(List Phase))(p2:RoadsCheck):Option Int:=
  thenS (loop (C8 p1 p2) 0) (fun _=>some (-1)) (fun r=>some r)
theorem Z2(p1 p2 r)(h:E1 p1 p2=some r):PCall prog 237 [(.list (List.map L4 p1)),(.fn (.func 174) [] [(.bp (Q2 p2.Map_) 0)])] (i64 r):=by
 refine E3 (fk func237 ntmps237 m0 (by with_unfolding_all rfl)) (nl Z) ?_
 unfold E1 at h
 refine A8 (s0:=⟨T [(0,(.d _)),(1,(.d _))],G []⟩) (F5 Z Z) ?_
 refine C0<|sv Z<|A1<|A4<|C0<|sv Z<|sd Z (D2 Z)<|sv Z<|A1<|js h fun z1 hz1 h=>D3 (fun s=> ∃(y1:Unit) (g1:Unit),z1= .inl y1∧Sb ⟨T [],G []⟩ s) ?_ ?_
 refine A5<|D6 (C8 p1 p2) (fun (x1:Int) (g2:Unit)=>⟨T [(0,(dl L4 p1)),(1,(.d (.fn (.func 174) [] [(.bp (Q2 p2.Map_) 0)]))),(7,(di (p1.length:Int))),(8,(di x1))],G []⟩) 0 () _ hz1 (F5 Z Z) ?_
 intro x1 g2 z2 hz2 ez2
 unfold C8 at hz2
 refine C0<|sv Z<|A1<|A4<|cc Z hz2 (fun c1 hz2=> ?_)<|fun c1 hz2=> ?_
 refine B4<|A4<|A5<|C0<|sv Z<|sv Z<|A1<|C0<|sv Z<|sv Z<|sv Z<|bs hz2 fun _ hv1 hz2=>sd Z (E7 Z Z hv1 Z)<|sd Z (E4 Z hv1 Z Z)<|bs hz2 fun _ hv2 hz2=>D1 Z Z A6 (Ki _ _ _ hv2) (.inl Z) (A1<|cc Z hz2 (fun c2 hz2=> ?_)<|fun c2 hz2=> ?_)
 refine C0<|sv Z<|sv Z<|A1<|C1 ?_
 cases hz2
 obtain rfl:=ez2 _ rfl
 refine ⟨nofun,H7 ?_⟩
 rw [bP]at h
 cases h
 exact B9 (.inr Z) (C5 (C2 Z) D7) (.refl _)
 refine B4<|D8<|B5<|sv Z<|sv Z<|A1<|D9 ?_
 cases hz2
 exact ⟨Z,(),(F5 Z Z)⟩
 refine C4 Z ?_
 cases hz2
 obtain rfl:=ez2 _ rfl
 refine ⟨nofun,C3 Z<|V2 ?_⟩
 exact ⟨_,(),Z,(F5 Z Z)⟩
 rintro _ ⟨y1,g1,rfl,q1⟩
 rw [bO]at h
 refine A8 q1<|C0<|sv Z<|A1<|C1 ?_
 cases h
 exact B9 (.inr Z) (C5 (C2 Z) D7) (.refl _)
def C9 [Lp](p1:(List Phase))(p2:RoadsCheck):Option Bool:=
  (E1 p1 p2).bind fun v1=>some (decide (v1≥0))
theorem Y0(p1 p2 r)(h:C9 p1 p2=some r):PCall prog 172 [(.list (List.map L4 p1)),(.fn (.func 174) [] [(.bp (Q2 p2.Map_) 0)])] (bo r):=by
 refine E3 (fk func172 ntmps172 m0 (by with_unfolding_all rfl)) (nl Z) ?_
 unfold C9 at h
 refine A8 (s0:=⟨T [(0,(.d _)),(1,(.d _))],G []⟩) (F5 Z Z) ?_
 refine C0<|sv Z<|A1<|C0<|sv Z<|sv Z<|bs h fun _ hv1 h=>D1 Z Z A6 (Z2 _ _ _ hv1) (.inl Z) (sv Z<|sv Z<|A1<|C1 ?_)
 cases h
 exact B9 (.inr Z) (C5 (C2 Z) D7) (.refl _)
def L6 [Lp](p1:RoadsCheck)(x1:Int):Option (Stp Int (Sum Unit Int)):=
  cond (decide (x1< (p1.Map_.Signals.length:Int))) ((F6 p1.Map_.Signals x1).bind fun v1=>cond ((v1.Phases.length:Int)==0) (some (.out (.inr 6))) (cond (decide ((v1.Phases.length:Int)>6)) (some (.out (.inr 8))) ((S3 v1.Offset 0 1099511627776).bind fun v2=>cond (!v2) (some (.out (.inr 2))) ((D0 v1.Phases).bind fun v3=>cond v3 (some (.out (.inr 2))) ((C9 v1.Phases p1).bind fun v4=>cond v4 (some (.out (.inr 11))) (some (.go (I4 (x1+1))))))))) (some (.out (.inl ())))
def O6 [Lp](p1:RoadsCheck):Option Int:=
  thenS (loop (L6 p1) 0) (fun _=>some 0) (fun r=>some r)
theorem Nj(p1 r)(h:O6 p1=some r):PCall prog 68 [(.agg (Q2 p1.Map_))] (i64 r):=by
 refine E3 (fk func68 ntmps68 m0 (by with_unfolding_all rfl)) (nl Z) ?_
 unfold O6 at h
 refine A8 (s0:=⟨T [(0,(.d _))],G []⟩) (F5 Z Z) ?_
 refine lr<|fun u1 _=>sm Z<|sv Z<|A1<|A4<|C0<|sq Z<|sp Z Z<|sl Z G_hit Z<|sd Z (D2 Z)<|sv Z<|A1<|js h fun z1 hz1 h=>D3 (fun s=> ∃(y1:Unit) (g1:Unit),z1= .inl y1∧Sb ⟨T [],G []⟩ s) ?_ ?_
 refine A5<|D6 (L6 p1) (fun (x1:Int) (g2:Unit)=>⟨T [(1,(.ptr (1,u1) 0)),(8,(dl P3 p1.Map_.Signals)),(9,(di (p1.Map_.Signals.length:Int))),(10,(di x1))],G [((1,u1),some<|.box 105 (F1 p1.Map_))]⟩) 0 () _ hz1 (F5 Z Z) ?_
 intro x1 g2 z2 hz2 ez2
 unfold L6 at hz2
 refine C0<|sv Z<|A1<|A4<|cc Z hz2 (fun c1 hz2=> ?_)<|fun c1 hz2=> ?_
 refine B4<|A4<|A5<|lr<|fun u4 _=>bs hz2 fun v1 hv1 hz2=>sd Z (E7 Z Z hv1 Z)<|sd Z (E4 Z hv1 Z Z)<|sm Z<|X7 Z G_hit [(di v1.Offset),(dl L4 v1.Phases)] Z (A1<|C0<|sq Z<|sl Z G_hit Z<|sd Z (D2 Z)<|sv Z<|A1<|A5<|C0<|sv Z<|sv Z<|sv Z<|A1<|cc Z hz2 (fun c2 hz2=> ?_)<|fun c2 hz2=> ?_)
 refine C0<|sv Z<|A1<|C1 ?_
 cases hz2
 obtain rfl:=ez2 _ rfl
 refine ⟨nofun,H7 ?_⟩
 rw [bP]at h
 cases h
 exact B9 (.inr Z) (C5 (C2 Z) D7) (.refl _)
 refine C0<|sv Z<|sv Z<|sv Z<|A1<|cc Z hz2 (fun c3 hz2=> ?_)<|fun c3 hz2=> ?_
 refine C0<|sv Z<|A1<|C1 ?_
 cases hz2
 obtain rfl:=ez2 _ rfl
 refine ⟨nofun,H7 ?_⟩
 rw [bP]at h
 cases h
 exact B9 (.inr Z) (C5 (C2 Z) D7) (.refl _)
 refine C0<|sq Z<|sl Z G_hit Z<|bs hz2 fun v2 hv2 hz2=>D1 Z Z A6 (R7 _ _ _ _ hv2) (.inl Z) (B6 (.d (bo (!v2))) Z Z (sv Z<|A1<|cc Z hz2 (fun c4 hz2=> ?_)<|fun c4 hz2=> ?_))
 refine A4<|A8 (s0:=⟨T [],G []⟩) (F5 Z Z) ?_
 refine B5<|sv Z<|A1<|C1 ?_
 cases hz2
 obtain rfl:=ez2 _ rfl
 refine ⟨nofun,H7 ?_⟩
 rw [bP]at h
 cases h
 exact B9 (.inr Z) (C5 (C2 Z) D7) (.refl _)
 refine A4<|A8 (s0:=⟨T [(1,(.ptr _ _)),(4,(.ptr _ _)),(8,(.d _)),(9,(.d _)),(10,(.d _))],G [((1,u1),some<|.box 105 _),((4,u4),some<|.box 48 _)]⟩) (F5 Z Z) ?_
 refine B5<|sq Z<|sl Z (gq Z) Z (bs hz2 fun _ hv3 hz2=>D1 Z Z A6 (Y3 _ _ hv3) (.inl Z) (sv Z<|A1<|cc Z hz2 (fun c5 hz2=> ?_)<|fun c5 hz2=> ?_))
 refine C0<|sv Z<|A1<|C1 ?_
 cases hz2
 obtain rfl:=ez2 _ rfl
 refine ⟨nofun,H7 ?_⟩
 rw [bP]at h
 cases h
 exact B9 (.inr Z) (C5 (C2 Z) D7) (.refl _)
 refine C0<|sq Z<|sl Z (gq Z) Z (B6 (.fn _ _ _) Z Z (bs hz2 fun _ hv4 hz2=>D1 Z (rD<|O7 (Zd N4<|O7 (Lz G_hit<|rD<|rD<|rD<|rD<|rD N4) N4) N4) A6 (Y0 _ _ _ hv4) (.inr Z) (sv Z<|A1<|cc Z hz2 (fun c6 hz2=> ?_)<|fun c6 hz2=> ?_)))
 refine C0<|sv Z<|A1<|C1 ?_
 cases hz2
 obtain rfl:=ez2 _ rfl
 refine ⟨nofun,H7 ?_⟩
 rw [bP]at h
 cases h
 exact B9 (.inr Z) (C5 (C2 Z) D7) (.refl _)
 refine B4<|D8<|D8<|B5<|sv Z<|sv Z<|A1<|D9 ?_
 cases hz2
 exact ⟨Z,(),(F5 Z Z)⟩
 refine C4 Z ?_
 cases hz2
 obtain rfl:=ez2 _ rfl
 refine ⟨nofun,C3 Z<|V2 ?_⟩
 exact ⟨_,(),Z,(F5 Z Z)⟩
 rintro _ ⟨y1,g1,rfl,q1⟩
 rw [bO]at h
 refine A8 q1<|C0<|sv Z<|A1<|C1 ?_
 cases h
 exact B9 (.inr Z) (C5 (C2 Z) D7) (.refl _)
/-- kerbstone/curve.pieces$1 -/
def Ln:AC:=(.seq (.reg [oo 3 (.mv (ci 0))]) (.seq (.reg [oo 8 (.fieldA 0 (.t 1)),oo 9 (.load 1 false (.t 8)),oo 10 (.len (.t 9)),oo 11 (.bin .sub (.t 10) (ci 1)),oo 12 (.mv (ci 0))]) (.block 0 (.loop (.seq (.reg [oo 13 (.bin .lss (.t 12) (.t 11))]) (.seq (.cond (.t 13) .skip (.exit 0)) (.seq (.block 1 (.seq (.reg [oo 14 (.mv (.t 12)),oo 4 (.mv (.t 14))]) (.seq (.draw [oo 15 (.fieldA 0 (.t 1)),oo 16 (.load 1 false (.t 15)),oo 17 (.mv (.t 4)),oo 18 (.idxS 2 (.t 16) (.t 17)),oo 19 (.load 2 true (.t 18)),oo 20 (.fieldA 0 (.t 1)),oo 21 (.load 1 false (.t 20)),oo 22 (.mv (.t 4)),oo 23 (.bin .add (.t 22) (ci 1)),oo 24 (.idxS 2 (.t 21) (.t 23)),oo 25 (.load 2 true (.t 24)),oo 26 (.call (cf 234) [(.t 19),(.t 25)]),oo 5 (.alloc 253 [z0,z0]),oe (.store 2 (.t 5) (.t 26))] []) (.seq (.reg [oo 28 (.load 2 true (.t 5)),oo 29 (.load 2 true (.t 5)),oo 30 (.call (cf 236) [(.t 28),(.t 29)]),oo 31 (.call (cf 235) [(.t 30)]),oo 27 (.mv (.t 31)),oo 32 (.ext (.t 27) 0),oo 33 (.ext (.t 27) 1),oo 6 (.mv (.t 32)),oo 7 (.mv (.t 33))]) (.seq (.seq (.drawB [oo 34 (.mv (.t 0)),oo 35 (.mv (.t 4)),oo 36 (.fieldA 0 (.t 1)),oo 37 (.load 1 false (.t 36)),oo 38 (.mv (.t 4)),oo 39 (.idxS 2 (.t 37) (.t 38)),oo 40 (.load 2 true (.t 39)),oo 41 (.load 2 true (.t 5)),oo 42 (.mv (.t 6)),oo 43 (.mv (.t 3)),oo 44 (.build [z0,z0,z0,z0,z0,z0] [(0,2,(.t 40)),(2,2,(.t 41)),(4,1,(.t 42)),(5,1,(.t 43))]),oo 45 (.icall (.t 34) [(.t 35),(.t 44)]),oo 46 (.un .not (.t 45))] 11 []) (.cond (.t 46) .ret .skip)) (.reg [oo 47 (.mv (.t 3)),oo 48 (.mv (.t 6)),oo 49 (.bin .add (.t 47) (.t 48)),oo 3 (.mv (.t 49))])))))) (.reg [oo 50 (.bin .add (.t 12) (ci 1)),oo 12 (.mv (.t 50))]))))))))
theorem Sm:FnOK prog 271 51 [] Ln:=⟨_,_,func271,rfl,ntmps271,by kernel_rfl,⟨fun r=>if r==6 then [11]else [],by kernel_rfl⟩,by kernel_rfl⟩
/-- The pieces of a chain of points, from a number on. -/
def Dp [Lp](pts:List Spot):Nat→Nat→Int→Option (List (Int×CurvePiece))
  |0,_,_=>some []
  |n+1,i,start=>(pts[i]?).bind fun p=>(pts[i+1]?).bind fun q=>(Ha p q).bind fun v=>(X1 v v).bind fun d=>(Cm d).bind fun r=>
   (Dp pts n (i+1) (I4 (start+r.1))).bind fun l=>some (((i:Int),CurvePiece.mk p v r.1 start)::l)
def Lo [Lp](pts:List Spot):Option (List (Int×CurvePiece)):=if pts.length≤1000000 then Dp pts (pts.length - 1) 0 0 else none
/-- kerbstone/curve.pieces -/
def Nz:AC:=(.seq (.reg [oo 1 (.box 39 true (.t 0)),oo 2 (.mv (.c (.v .nilFunc)))]) (.seq (.reg [oo 3 (.mkfn (.func 271) [] [(.t 1)]),oo 2 (.mv (.t 3))]) .ret))
theorem Uv:FnOK prog 257 4 [.t 2] Nz:=⟨_,_,func257,rfl,ntmps257,by kernel_rfl,⟨fun _=> [],by kernel_rfl⟩,by kernel_rfl⟩
abbrev AY (a:Int×CurvePiece):List D:= [i64 a.1, .agg [i64 a.2.p.X,i64 a.2.p.Y,i64 a.2.v.x,i64 a.2.v.y,i64 a.2.l,i64 a.2.start]]
theorem DL (c:Curve):PCall prog 257 [.agg [.list (List.map Q6 c.Pts)]] (.fn (.func 271) [] [.bp [.list (List.map Q6 c.Pts)] 0]):=by
  refine MF Uv (by simp) ?_
  unfold Nz
  refine Gy<|Ly fun _ _=> ?_
  refine FS (.ptr _ _) _ Z Z ?_
  refine M7 (.d _) Z Z ?_
  refine Gj ?_
  refine Gy<|Ly fun u' hu'=> ?_
  refine M7 (.fn _ _ _) Z Z ?_
  refine M7 (.fn _ _ _) Z Z ?_
  refine Gj ?_
  refine FO ⟨.inr Z,?_⟩
  refine C5 (C2 (v:= .fn _ _ _) Z) ?_
  exact Zd N4<|O7 (Lz (by simp only [W5,if_true];rfl)<|O7 D7 N4) N4
theorem NS (ps:List Spot)(n:Int)(i:Nat)(p:Spot)(hn:n=i)(h:ps[i]? =some p):(List.map Q6 ps)[n.toNat]? =some (Q6 p):=by
  subst hn
  rw [bQ,lI,h];rfl
theorem GD {n:Int}(h: -9223372036854775808≤n∧n≤9223372036854775807):I4 n=n:=Go.IntWalk.i64_in n h
theorem Uw (pts:List Spot): ∀n i s L,Dp pts n i s=some L→L.length=n:=by
  intro n
  induction n with
  |zero=>intro i s L h;cases h;rfl
  |succ n ih=>
   intro i s L h
   rw [Dp]at h
   obtain ⟨p,hp,h⟩:=bind_some h
   obtain ⟨q,hq,h⟩:=bind_some h
   obtain ⟨v,hv,h⟩:=bind_some h
   obtain ⟨d,hd,h⟩:=bind_some h
   obtain ⟨r,hr,h⟩:=bind_some h
   obtain ⟨l,hl,h⟩:=bind_some h
   cases h
   rw [lJ,ih _ _ _ hl]
theorem DM {pts:List Spot}{L:List (Int×CurvePiece)}(h:Lo pts=some L):MX prog (.fn (.func 271) [] [.bp [.list (List.map Q6 pts)] 0]) (L.map AY):=by
  unfold Lo at h
  split at h
  case isFalse=>cases h
  rename_i hlen
  refine ⟨271,[],_,Z,?_⟩
  intro k h0 Inv Stop hi0 hy
  refine CT Sm (by simp) ?_
  unfold Ln
  refine Gy<|Ly fun u hu=> ?_
  refine M7 (.d _) Z Z ?_
  refine Gj ?_
  refine Gy<|Ly fun u hu=> ?_
  refine M7 (.d _) Z Z ?_
  refine M7 (.d _) Z Z ?_
  refine M7 (.d (i64 pts.length)) Z (D2 (f:=Q6) Z) ?_
  refine M7 (.d _) Z Z ?_
  refine M7 (.d _) Z Z ?_
  refine Gj ?_
  refine Wk ?_
  refine MH (α:=Nat×Int×D4) (fun x=>⟨T [(0, .yld k),(1, .d (.bp [.list (List.map Q6 pts)] 0)),(3, .d (i64 x.2.1)),(11, .d (i64<|I4 (pts.length - 1))),(12, .d (i64 x.1))],x.2.2⟩) (fun x=>pts.length - x.1)
    (fun x=>Inv x.1 x.2.2∧x.1≤pts.length - 1∧Dp pts (pts.length - 1 - x.1) x.1 x.2.1=some (L.drop x.1)) (0,0,h0) ⟨hi0,by omega,h⟩ (MN ⟨rfl,rfl,rfl,rfl,rfl,trivial⟩ fun _ _ h=>h) ?_
  rintro ⟨i,start,hh⟩ ⟨hinv,hi,hgo⟩
  dsimp only at hinv hi hgo ⊢
  refine Gy<|Ly fun u hu=> ?_
  refine M7 (.d _) Z Z ?_
  refine Gj ?_
  refine Gy ?_
  refine MI Z (fun hlt=> ?_)<|fun hlt=> ?_
  ·refine AL ?_
   have hlen1:I4 ((pts.length:Int) - 1)=pts.length - 1:=GD (by omega)
   rw [hlen1]at hlt
   have hi1:i+1<pts.length:=by omega
   have hw1:IntKind.i64.wrap ((i:Int)+1)=(i:Int)+1:=GD (by omega)
   obtain ⟨m,hm⟩: ∃m,pts.length - 1 - i=m+1:=⟨pts.length - 1 - i - 1,by omega⟩
   rw [hm,Dp]at hgo
   obtain ⟨p,hp,hgo⟩:=bind_some hgo
   obtain ⟨q,hq,hgo⟩:=bind_some hgo
   obtain ⟨v,hv,hgo⟩:=bind_some hgo
   obtain ⟨d,hd,hgo⟩:=bind_some hgo
   obtain ⟨r,hr,hgo⟩:=bind_some hgo
   obtain ⟨l,hl,hgo⟩:=bind_some hgo
   have hgo:((i:Int),CurvePiece.mk p v r.1 start)::l=L.drop i:=lC hgo
   have hLi:L[i]? =some ((i:Int),CurvePiece.mk p v r.1 start):=by
     have:=congrArg (fun z=>z[0]?) hgo
     simpa using this.symm
   have hLd:L.drop (i+1)=l:=by
     have:=congrArg (fun z=>z.drop 1) hgo
     simpa using this.symm
   have hin: ∀(p:Spot) (n:Int) (j:Nat),n=j→pts[j]? =some p→(List.map Q6 pts)[n.toNat]? =some (Q6 p):=fun p n j=>NS pts n j p
   refine Gy ?_
   refine Wk ?_
   refine Gy<|Ly fun u hu=> ?_
   refine M7 (.d _) Z Z ?_
   refine M7 (.d _) Z Z ?_
   refine Gj ?_
   refine Gy<|HG Z fun u hu=> ?_
   refine M7 (.d _) Z Z ?_
   refine M7 (.d _) Z Z ?_
   refine M7 (.d _) Z Z ?_
   refine FT _ _ _ _ Z Z (Int.natCast_nonneg i) (hin p _ i Z hp) Z ?_
   refine Th _ _ _ _ _ Z (hin p _ i Z hp) (by simp) Z ?_
   refine M7 (.d _) Z Z ?_
   refine M7 (.d _) Z Z ?_
   refine M7 (.d _) Z Z ?_
   refine M7 (.d _) Z Z ?_
   refine FT _ _ _ _ Z Z (by rw [hw1];omega) (hin q _ (i+1) (by rw [hw1];rfl) hq) Z ?_
   refine Th _ _ _ _ _ Z (hin q _ (i+1) (by rw [hw1];rfl) hq) (by simp) Z ?_
   refine Vg Z Z (Qm p q _ hv) (.inl Z) ?_
   refine FS (.ptr _ _) _ Z Z ?_
   refine CW _ _ _ _ _ Z Z Z (by simp only [W5,if_true];rfl) (by simp) ?_
   refine Gj ?_
   refine Gy<|Ly fun u' hu'=> ?_
   refine Wo _ _ _ _ (.d (.agg [i64 v.x,i64 v.y])) Z (by simp only [W5,if_true];rfl) (by simp [Eb]) Z ?_
   refine Wo _ _ _ _ (.d (.agg [i64 v.x,i64 v.y])) Z (by simp only [W5,if_true];rfl) (by simp [Eb]) Z ?_
   refine Vg Z Z (Fd v v _ hd) (.inl Z) ?_
   refine Vg Z Z (Qn d _ hr) (.inl Z) ?_
   refine M7 (.d _) Z Z ?_
   refine M7 (.d _) Z Z ?_
   refine M7 (.d _) Z Z ?_
   refine M7 (.d _) Z Z ?_
   refine M7 (.d _) Z Z ?_
   refine Gj ?_
   refine Gy<|Gy ?_
   refine ME Z fun _ _=> ?_
   simp only [List.take,List.drop]
   refine M7 (.yld _) Z Z ?_
   refine M7 (.d _) Z Z ?_
   refine M7 (.d _) Z Z ?_
   refine M7 (.d _) Z Z ?_
   refine M7 (.d _) Z Z ?_
   refine FT _ _ _ _ Z Z (Int.natCast_nonneg i) (hin p _ i Z hp) Z ?_
   refine Th _ _ _ _ _ Z (hin p _ i Z hp) (by simp) Z ?_
   refine Wo _ _ _ _ (.d (.agg [i64 v.x,i64 v.y])) Z (by simp only [W5,if_true];rfl) (by simp [Eb]) Z ?_
   refine M7 (.d _) Z Z ?_
   refine M7 (.d _) Z Z ?_
   refine M7 (.d _) Z Z ?_
   refine Gj ?_
   intro u3 hu3
   refine MO k ((AY ((i:Int),CurvePiece.mk p v r.1 start)).map .d) Z Z ?_
   refine YCall.weak (HI hu<|HI hu fun _ _ h=>h) ((hy i hh _ (by rw [lI,hLi];rfl) hinv).mono ?_)
   rintro v' h' (⟨rfl,hin⟩|⟨rfl,hst⟩)
   ·intro u4 hu4
    refine M7 (.d _) Z Z ?_
    refine Gj ?_
    refine Se (t:=false) Z (fun h=>by cases h) (fun _=> ?_)
    refine AL ?_
    refine Ly fun u hu=> ?_
    refine M7 (.d _) Z Z ?_
    refine M7 (.d _) Z Z ?_
    refine M7 (.d _) Z Z ?_
    refine M7 (.d _) Z Z ?_
    refine Gj ?_
    refine Ly fun u hu=> ?_
    refine M7 (.d _) Z Z ?_
    refine M7 (.d _) Z Z ?_
    refine Gj ?_
    refine ⟨(i+1,I4 (start+r.1),h'),⟨hin,by dsimp only;omega,?_⟩,by dsimp only;omega,MN ⟨rfl,rfl,rfl,rfl,?_,trivial⟩ fun _ _ h=>h⟩
    ·dsimp only
     rw [hLd,show pts.length - 1 - (i+1)=m by omega];exact hl
    ·show AV.d (i64 (IntKind.i64.wrap ((i:Int)+1)))=_
     rw [hw1];rfl
   ·intro u4 hu4
    refine M7 (.d _) Z Z ?_
    refine Gj ?_
    refine Se (t:=true) Z (fun _=> ?_) (fun h=>by cases h)
    refine FO ?_
    dsimp only
    exact ⟨Or.inr trivial,AV.tup [],Z,Or.inr hst⟩
  ·refine HE ?_
   have hlen1:1≤pts.length→I4 ((pts.length:Int) - 1)=pts.length - 1:=fun _=>GD (by omega)
   have:i=pts.length - 1:=by
     by_cases h:1≤pts.length
     ·rw [hlen1 h]at hlt;omega
     ·omega
   subst this
   rw [Nat.sub_self,Dp]at hgo
   have hL:(L.map AY).length=pts.length - 1:=by
     have h1:L.drop (pts.length - 1)= []:=(lC hgo).symm
     have h2:=List.drop_eq_nil_iff.1 h1
     rw [lQ]
     refine Nat.le_antisymm h2 ?_
     exact Nat.le_of_eq (Uw _ _ _ _ _ h).symm
   exact ⟨.inl Z,_,Z, .inl (by rw [hL];exact hinv)⟩
def Bn (x1:(List Int))(a1:(Int×CurvePiece)):Option (Stp (List Int) (List Int)):=
  (Bx x1 [a1.2.l]).bind fun v3=>some (.go v3)
def Cb [Lp](p1:Curve):Option (List Int):=
  (Ca p1).bind fun v1=>cond (v1 !=0) (some []) (((Lo p1.Pts).bind fun v2=>loopL (Bn) (fun (x1:(List Int))=>x1) v2 []).bind fun y1=>some y1)
theorem Ux(p1 r)(h:Cb p1=some r):PCall prog 268 [(.agg [(.list (List.map Q6 p1.Pts))])] (.list (List.map A3 r)):=by
 refine E3 (fk func268 ntmps268 (fun r=>if r==6 then [1003]else []) (by with_unfolding_all rfl)) (nl Z) ?_
 unfold Cb at h
 refine A8 (s0:=⟨T [(0,(.d _))],G []⟩) (F5 Z Z) ?_
 refine C0<|sm Z<|sv Z<|A1<|A4<|C0<|sd Z (C6 Z G_hit Z Z)<|bs h fun _ hv1 h=>D1 Z Z A6 (Pd _ _ hv1) (.inl Z) (sv Z<|A1<|cc Z h (fun c1 h=> ?_)<|fun c1 h=> ?_)
 refine C0<|sv Z<|A1<|C1 ?_
 cases h
 exact B9 (.inr Z) (C5 (C2 Z) D7) DLe.nil
 refine B4<|lr<|fun u4 _=>sm Z<|A1<|A4<|C0<|sd Z (C6 Z (gq Z) Z Z)<|D1 Z Z A6 (DL p1) (.inl Z) (A1<|bs h fun y1 hy1 h=>D3 (fun s=> ∃g1:Nat,Sb ⟨T [(3,(.ptr (3,u4) 0))],G [((3,u4),some<|.box 75 [(oS y1 (17,g1))]),((17,g1),oB 2 1 A3 y1)]⟩ s) ?_ ?_)
 refine A5<|bs hy1 fun v2 hv2 hy1=>A8 (s0:=⟨T [(3,(.ptr _ _)),(10,(.d _))],G [((3,u4),some<|.box 75 _)]⟩) (F5 Z Z) ?_
 refine MY (.fn (.func 271) [] [(.bp [(.list (List.map Q6 p1.Pts))] 0)]) AY v2 (Bn) (fun (x1:(List Int))=>x1) (fun (x1:(List Int)) (g2:Nat)=> [((3,u4),some<|.box 75 [(oS x1 (17,g2))]),((17,g2),oB 2 1 A3 x1)]) [] 0 _ Z (DM hv2) (fun _=>Z) hy1 (B8 trivial<|A2 G_hit (.of Z)<|Q5 trivial) nofun ?_ ?_
 intro u7 hu7 hku7
 refine ⟨fun x1 g2=>(A7 Z<|A7 Z Z),?_⟩
 intro r1 x1 g2 a1 z1 hrr1 hz1 ez1
 unfold Bn at hz1
 show Ea _ _ _ _ _ _ ⟨T [(12,(.d (.agg (DJ a1.2)))),(11,(di a1.1)),(3,(.ptr (3,u4) 0)),(10,(.d (.fn (.func 271) [] [(.bp [(.list (List.map Q6 p1.Pts))] 0)])))],G [((1000000,u7),some (.obj (T [(3,(.ptr (3,u4) 0)),(10,(.d (.fn (.func 271) [] [(.bp [(.list (List.map Q6 p1.Pts))] 0)])))]) r1)),((3,u4),some (.box 75 [(oS x1 (17,g2))])),((17,g2),oB 2 1 A3 x1)]⟩
 refine B5<|sm Z<|X7 Z G_hit (DK a1.2) Z (A1<|V2<|UP (gq Z) ?_)
 refine A5<|T8 fun u9 _=>B6 (oS x1 (17,g2)) Z (Ag Z (gq Z) Z) (sq Z<|sl Z (gq Z) Z (B6 (dl A3 [a1.2.l]) Z Z (bs hz1 fun _ hv3 hz1=>J3 A3 (17,g2) x1 a1.2.l [] _ (I0<|fun _=>Z) Z (gq Z) hv3 (X7 Z (gq Z) [(.sl (17,u9))] Z (A1<|D8<|D9 ?_)))))
 cases hz1
 exact UQ (gq Z) u9 (A2 G_hit (.box (.cons (.of (Q3<|N5 hv3).symm) .nil))<|I7 (gq Z) trivial)
 rintro x1 g2 _ rfl qx1
 refine D8<|V2 ?_
 exact ⟨g2,(Sb.after qx1<|B8 ⟨.of Z,trivial⟩<|A2 G_hit (.of Z)<|B3 (gq Z) trivial)⟩
 rintro _ ⟨g1,q1⟩
 refine A8 q1<|C0<|B6 (oS y1 (17,g1)) Z (Ag Z G_hit Z) (B6 (oS y1 (17,g1)) Z Z (A1<|C1 ?_))
 cases h
 exact B9 (.inr Z) (C5 (C2 Z)<|Ct<|gq Z) Cs
def W7 (v1:(List Int))(x1:(Int×Int)):Option (Stp (Int×Int) Int):=
  cond (decide (x1.2< (v1.length:Int))) ((F6 v1 x1.2).bind fun v2=>some (.go ((I4 (x1.1+v2)),(I4 (x1.2+1))))) (some (.out x1.1))
def Ak [Lp](p1:Curve):Option Int:=
  (Cb p1).bind fun v1=>(loop (W7 v1) (0,0)).bind fun y1=>some y1
theorem Uy(p1 r)(h:Ak p1=some r):PCall prog 232 [(.agg [(.list (List.map Q6 p1.Pts))])] (i64 r):=by
 refine E3 (fk func232 ntmps232 m0 (by with_unfolding_all rfl)) (nl Z) ?_
 unfold Ak at h
 refine A8 (s0:=⟨T [(0,(.d _))],G []⟩) (F5 Z Z) ?_
 refine C0<|sm Z<|sv Z<|A1<|C0<|sv Z<|A1<|A4<|C0<|sd Z (C6 Z G_hit Z Z)<|bs h fun v1 hv1 h=>D1 Z Z A6 (Ux _ _ hv1) (.inl Z) (sd Z (D2 Z)<|sv Z<|A1<|bs h fun y1 hy1 h=>D3 (fun s=> ∃g1:Unit,Sb ⟨T [(3,(di y1))],G []⟩ s) ?_ ?_)
 refine A5<|D6 (W7 v1) (fun (x1:(Int×Int)) (g2:Unit)=>⟨T [(3,(di x1.1)),(7,(dl A3 v1)),(8,(di (v1.length:Int))),(9,(di x1.2))],G []⟩) (0,0) () _ hy1 (F5 Z Z) ?_
 intro x1 g2 z1 hz1 ez1
 unfold W7 at hz1
 refine C0<|sv Z<|A1<|A4<|cc Z hz1 (fun c1 hz1=> ?_)<|fun c1 hz1=> ?_
 refine B4<|A4<|A5<|C0<|bs hz1 fun _ hv2 hz1=>sd Z (E7 Z Z hv2 Z)<|sd Z (G7 Z hv2 Z)<|sv Z<|A1<|B5<|sv Z<|sv Z<|sv Z<|sv Z<|A1<|D8<|B5<|sv Z<|sv Z<|A1<|D9 ?_
 cases hz1
 exact ⟨Z,(),(F5 Z Z)⟩
 refine C4 Z ?_
 cases hz1
 obtain rfl:=ez1 _ rfl
 refine ⟨nofun,C3 Z<|V2 ?_⟩
 exact ⟨(),(F5 Z Z)⟩
 rintro _ ⟨g1,q1⟩
 refine A8 q1<|C0<|sv Z<|sv Z<|A1<|C1 ?_
 cases h
 exact B9 (.inr Z) (C5 (C2 Z) D7) (.refl _)
def V3 [Lp](p1:Map)(p2:Int):Option Int:=
  (F6 p1.Lanes p2).bind fun v1=>(Ak v1.Curve_).bind fun v2=>some v2
theorem Dr(p1 p2 r)(h:V3 p1 p2=some r):PCall prog 165 [(.agg (Q2 p1)),(i64 p2)] (i64 r):=by
 refine E3 (fk func165 ntmps165 m0 (by with_unfolding_all rfl)) (nl Z) ?_
 unfold V3 at h
 refine A8 (s0:=⟨T [(0,(.d _)),(1,(.d _))],G []⟩) (F5 Z Z) ?_
 refine C0<|sm Z<|sv Z<|A1<|C0<|sq Z<|sl Z G_hit Z<|sv Z<|bs h fun _ hv1 h=>sd Z (E7 Z Z hv1 Z)<|sv Z<|sd Z (E4 Z hv1 Z Z)<|bs h fun _ hv2 h=>D1 Z Z A6 (Uy _ _ hv2) (.inl Z) (sv Z<|A1<|C1 ?_)
 cases h
 exact B9 (.inr Z) (C5 (C2 Z) D7) (.refl _)
def M9 [Lp](p1:RoadsCheck)(v1:Zone)(x3:Int):Option (Stp Int (Sum Unit Int)):=
  cond (decide (x3< (v1.Parts.length:Int))) ((F6 v1.Parts x3).bind fun v5=>((cond (!((decide (v5.From<0))||(decide (v5.From≥v5.To)))) (V3 p1.Map_ v5.Lane_) (some default))).bind fun v6=>cond (((((decide (v5.From<0))||(decide (v5.From≥v5.To)))||(decide (v5.To>v6)))||(decide (v5.Rank<0)))||(decide (v5.Rank>100))) (some (.out (.inr 2))) (some (.go (I4 (x3+1))))) (some (.out (.inl ())))
def Cc (v1:Zone)(x2:((List Int)×Int)):Option (Stp ((List Int)×Int) (List Int)):=
  cond (decide (x2.2< (v1.Parts.length:Int))) ((F6 v1.Parts x2.2).bind fun v2=>(Bx x2.1 [v2.Lane_]).bind fun v3=>some (.go (v3,(I4 (x2.2+1))))) (some (.out x2.1))
def N0 [Lp](p1:RoadsCheck)(x1:Int):Option (Stp Int (Sum Unit Int)):=
  cond (decide (x1< (p1.Map_.Zones.length:Int))) ((F6 p1.Map_.Zones x1).bind fun v1=>cond (decide ((v1.Parts.length:Int)<2)) (some (.out (.inr 6))) (cond (decide ((v1.Parts.length:Int)>6)) (some (.out (.inr 8))) (cond ((decide (v1.Signal_<0))||(decide (v1.Signal_>(p1.Map_.Signals.length:Int)))) (some (.out (.inr 2))) ((loop (Cc v1) ([],0)).bind fun y2=>(X9 y2 0 (p1.Map_.Lanes.length:Int)).bind fun v4=>cond (!v4) (some (.out (.inr 11))) (thenS (loop (M9 p1 v1) 0) (fun _=>some (.go (I4 (x1+1)))) (fun r=>some (.out (.inr r)))))))) (some (.out (.inl ())))
def R4 [Lp](p1:RoadsCheck):Option Int:=
  thenS (loop (N0 p1) 0) (fun _=>some 0) (fun r=>some r)
theorem Pf(p1 r)(h:R4 p1=some r):PCall prog 69 [(.agg (Q2 p1.Map_))] (i64 r):=by
 refine E3 (fk func69 ntmps69 (fun r=>if r==15 then [1003]else []) (by with_unfolding_all rfl)) (nl Z) ?_
 unfold R4 at h
 refine A8 (s0:=⟨T [(0,(.d _))],G []⟩) (F5 Z Z) ?_
 refine lr<|fun u1 _=>sm Z<|sv Z<|A1<|A4<|C0<|sq Z<|sp Z Z<|sl Z G_hit Z<|sd Z (D2 Z)<|sv Z<|A1<|js h fun z1 hz1 h=>D3 (fun s=> ∃(y1:Unit) (g1:Unit),z1= .inl y1∧Sb ⟨T [],G []⟩ s) ?_ ?_
 refine A5<|D6 (N0 p1) (fun (x1:Int) (g2:Unit)=>⟨T [(1,(.ptr (1,u1) 0)),(13,(dl K4 p1.Map_.Zones)),(14,(di (p1.Map_.Zones.length:Int))),(15,(di x1))],G [((1,u1),some<|.box 105 (F1 p1.Map_))]⟩) 0 () _ hz1 (F5 Z Z) ?_
 intro x1 g2 z2 hz2 ez2
 unfold N0 at hz2
 refine C0<|sv Z<|A1<|A4<|cc Z hz2 (fun c1 hz2=> ?_)<|fun c1 hz2=> ?_
 refine B4<|A4<|A5<|lr<|fun u4 _=>bs hz2 fun v1 hv1 hz2=>sd Z (E7 Z Z hv1 Z)<|sd Z (E4 Z hv1 Z Z)<|sm Z<|X7 Z G_hit [(dl H5 v1.Parts),(di v1.Signal_)] Z (A1<|A4<|C0<|sq Z<|sl Z G_hit Z<|sd Z (D2 Z)<|sv Z<|A1<|A5<|C0<|sv Z<|sv Z<|sv Z<|A1<|cc Z hz2 (fun c2 hz2=> ?_)<|fun c2 hz2=> ?_)
 refine C0<|sv Z<|A1<|C1 ?_
 cases hz2
 obtain rfl:=ez2 _ rfl
 refine ⟨nofun,H7 ?_⟩
 rw [bP]at h
 cases h
 exact B9 (.inr Z) (C5 (C2 Z) D7) (.refl _)
 refine C0<|sv Z<|sv Z<|sv Z<|A1<|cc Z hz2 (fun c3 hz2=> ?_)<|fun c3 hz2=> ?_
 refine C0<|sv Z<|A1<|C1 ?_
 cases hz2
 obtain rfl:=ez2 _ rfl
 refine ⟨nofun,H7 ?_⟩
 rw [bP]at h
 cases h
 exact B9 (.inr Z) (C5 (C2 Z) D7) (.refl _)
 refine C0<|sq Z<|sl Z G_hit Z<|sv Z<|sv Z<|gp Z (T9 Z) (fun _=>Z) (gf Z (vl Z G_hit Z)<|gp Z (T9 Z) (fun _=>Z) ?_)
 refine R8 _ (.ptr _ _) Z (T9 Z) (fun w4=>(by simp only [A9 w4];rfl)) ?_
 refine gf Z (vl Z (gq Z) Z)<|gf Z (fun w6=>(D2<|A9 w6))<|gf Z (fun w7=>(Cu (A9 w7) (A9 w7) Z))<|sd Z (Ed Z Z<|fun hc=>A9<|Y1 hc)<|sv Z<|A1<|cc Z hz2 (fun c4 hz2=> ?_)<|fun c4 hz2=> ?_
 refine A4<|A8 (s0:=⟨T [],G []⟩) (F5 Z Z) ?_
 refine B5<|sv Z<|A1<|C1 ?_
 cases hz2
 obtain rfl:=ez2 _ rfl
 refine ⟨nofun,H7 ?_⟩
 rw [bP]at h
 cases h
 exact B9 (.inr Z) (C5 (C2 Z) D7) (.refl _)
 refine B4<|D8<|A4<|A8 (s0:=⟨T [(1,(.ptr _ _)),(4,(.ptr _ _)),(13,(.d _)),(14,(.d _)),(15,(.d _))],G [((1,u1),some<|.box 105 _),((4,u4),some<|.box 45 _)]⟩) (F5 Z Z) ?_
 refine B5<|sv Z<|A1<|A4<|C0<|sq Z<|sl Z (gq Z) Z (sd Z (D2 Z)<|sv Z<|A1<|bs hz2 fun y2 hy2 hz2=>D3 (fun s=> ∃g3:Nat,Sb ⟨T [(1,(.ptr (1,u1) 0)),(4,(.ptr (4,u4) 0)),(6,(oS y2 (52,g3))),(13,(dl K4 p1.Map_.Zones)),(14,(di (p1.Map_.Zones.length:Int))),(15,(di x1))],G [((1,u1),some<|.box 105 (F1 p1.Map_)),((4,u4),some<|.box 45 [(dl H5 v1.Parts),(di v1.Signal_)]),((52,g3),oB 3 1 A3 y2)]⟩ s) ?_ ?_)
 refine A5<|D6 (Cc v1) (fun (x2:((List Int)×Int)) (g4:Nat)=>⟨T [(1,(.ptr (1,u1) 0)),(4,(.ptr (4,u4) 0)),(6,(oS x2.1 (52,g4))),(13,(dl K4 p1.Map_.Zones)),(14,(di (p1.Map_.Zones.length:Int))),(15,(di x1)),(42,(dl H5 v1.Parts)),(43,(di (v1.Parts.length:Int))),(44,(di x2.2))],G [((1,u1),some<|.box 105 (F1 p1.Map_)),((4,u4),some<|.box 45 [(dl H5 v1.Parts),(di v1.Signal_)]),((52,g4),oB 3 1 A3 x2.1)]⟩) ([],0) 0 _ hy2 (B8 (K6 Z)<|A2 G_hit (.of Z)<|sg Z<|Q5 trivial) ?_
 intro x2 g4 z3 hz3 ez3
 unfold Cc at hz3
 refine C0<|sv Z<|A1<|A4<|cc Z hz3 (fun c5 hz3=> ?_)<|fun c5 hz3=> ?_
 refine B4<|A4<|A5<|C0<|bs hz3 fun v2 hv2 hz3=>sd Z (E7 Z Z hv2 Z)<|sd Z (E4 Z hv2 Z Z)<|sm Z<|X7 Z G_hit (Pb v2) Z (A1<|T8 fun u16 _=>B6 (oS x2.1 (52,g4)) Z Z (sq Z<|sl Z G_hit Z<|B6 (dl A3 [v2.Lane_]) Z Z (bs hz3 fun _ hv3 hz3=>J3 A3 (52,g4) x2.1 v2.Lane_ [] _ (I0<|fun _=>Z) Z (gq Z) hv3 (ss Z<|A1<|D8<|A8 (s0:=⟨T [(1,(.ptr _ _)),(4,(.ptr _ _)),(6,(.sl _)),(13,(.d _)),(14,(.d _)),(15,(.d _)),(42,(.d _)),(43,(.d _)),(44,(.d _))],G [((1,u1),some<|.box 105 _),((4,u4),some<|.box 45 _),((52,u16),some _)]⟩) (F5 Z Z) ?_))))
 refine B5<|sv Z<|sv Z<|A1<|D9 ?_
 cases hz3
 exact ⟨Z,u16,(B8 ⟨.of Z, .of Z,(.of (Q3<|N5 hv3).symm), .of Z, .of Z, .of Z, .of Z, .of Z, .of Z,trivial⟩<|A2 G_hit (.of Z)<|sg Z<|I7 (gq Z) trivial)⟩
 refine C4 Z ?_
 cases hz3
 obtain rfl:=ez3 _ rfl
 refine ⟨nofun,C3 Z<|V2 ?_⟩
 exact ⟨g4,(B8 (K6 Z)<|A2 G_hit (.of Z)<|sg Z<|B3 (gq Z) trivial)⟩
 rintro _ ⟨g3,q1⟩
 refine A8 q1<|A4<|C0<|B6 (oS y2 (52,g3)) Z Z (sq Z<|sp Z Z<|sl Z G_hit Z<|sd Z (D2 Z)<|bs hz2 fun v4 hv4 hz2=>D1 Z (O7 (Ct<|gq Z)<|rD<|rD N4) (.cons Cs (.cons (.refl _) A6)) (Hr _ _ _ _ hv4) (.inr Z) (B6 (.d (bo (!v4))) Z Z (A1<|cc Z hz2 (fun c6 hz2=> ?_)<|fun c6 hz2=> ?_)))
 refine C0<|sv Z<|A1<|C1 ?_
 cases hz2
 obtain rfl:=ez2 _ rfl
 refine ⟨nofun,H7 ?_⟩
 rw [bP]at h
 cases h
 exact B9 (.inr Z) (C5 (C2 Z) D7) (.refl _)
 refine B4<|C0<|sq Z<|sl Z (gq Z) Z (sd Z (D2 Z)<|sv Z<|A1<|js hz2 fun z4 hz4 hz2=>D3 (fun s=> ∃(y3:Unit) (g5:Unit),z4= .inl y3∧Sb ⟨T [(1,(.ptr (1,u1) 0)),(13,(dl K4 p1.Map_.Zones)),(14,(di (p1.Map_.Zones.length:Int))),(15,(di x1))],G [((1,u1),some<|.box 105 (F1 p1.Map_))]⟩ s) ?_ ?_)
 refine A5<|D6 (M9 p1 v1) (fun (x3:Int) (g6:Unit)=>⟨T [(1,(.ptr (1,u1) 0)),(13,(dl K4 p1.Map_.Zones)),(14,(di (p1.Map_.Zones.length:Int))),(15,(di x1)),(62,(dl H5 v1.Parts)),(63,(di (v1.Parts.length:Int))),(64,(di x3))],G [((1,u1),some<|.box 105 (F1 p1.Map_))]⟩) 0 () _ hz4 (F5 Z Z) ?_
 intro x3 g6 z5 hz5 ez5
 unfold M9 at hz5
 refine C0<|sv Z<|A1<|A4<|cc Z hz5 (fun c7 hz5=> ?_)<|fun c7 hz5=> ?_
 refine B4<|A4<|A5<|C0<|bs hz5 fun v5 hv5 hz5=>sd Z (E7 Z Z hv5 Z)<|sd Z (E4 Z hv5 Z Z)<|sm Z<|X7 Z G_hit (Pb v5) Z (A1<|A4<|T7 Z<|sq Z<|sl Z G_hit Z<|sv Z<|sv Z<|gp Z (T9 Z) (fun _=>Z) (gf Z (vl Z G_hit Z)<|gp Z (T9 Z) (fun _=>Z) (gf Z (vl Z G_hit Z)<|gf Z (fun w12=>(Cu (A9 w12) (A9 w12) Z))<|sd Z (Ed Z Z<|fun hc=>A9<|Y1 hc)<|sv Z<|gp Z (T9 Z) (fun _=>Z) (gf Z (vl Z G_hit Z)<|gp Z (T9 Z) (fun _=>Z) (gf Z (fun w16=>(C6 (A9 w16) (gq Z) Z Z))<|gp Z (T9 Z) (fun _=>Z) (gf Z (vl Z G_hit Z)<|bs hz5 fun v6 hv6 hz5=> ?_))))))
 refine P4 _ (i64 v6) (T9 Z) (fun w19=>⟨_,[(.d (.agg (Q2 p1.Map_))),(di v5.Lane_)],_,_,(by simp only [A9 w19];rfl),Z,A6,Dr _ _ _<|K2 w19 hv6,(.inl Z)⟩) ?_
 refine gf Z (fun w20=>(Cu (A9 w20) (A9 w20) Z))<|sd Z (Ed Z Z<|fun hc=>A9<|Y1 hc)<|sv Z<|gp Z (T9 Z) (fun _=>Z) (gf Z (vl Z G_hit Z)<|gf Z (vb Z Z Z)<|sd Z (Ed Z Z<|fun hc=>A9<|Y1 hc)<|sv Z<|gp Z (T9 Z) (fun _=>Z) (gf Z (vl Z G_hit Z)<|gf Z (vb Z Z Z)<|sd Z (Ed Z Z<|fun hc=>A9<|Y1 hc)<|A1<|cc Z hz5 (fun c8 hz5=> ?_)<|fun c8 hz5=> ?_))
 refine A4<|A8 (s0:=⟨T [],G []⟩) (F5 Z Z) ?_
 refine B5<|sv Z<|A1<|C1 ?_
 cases hz5
 obtain rfl:=ez5 _ rfl
 refine ⟨nofun,H7 ?_⟩
 rw [bP]at hz2
 cases hz2
 obtain rfl:=ez2 _ rfl
 refine ⟨nofun,H7 ?_⟩
 rw [bP]at h
 cases h
 exact B9 (.inr Z) (C5 (C2 Z) D7) (.refl _)
 refine B4<|D8<|A8 (s0:=⟨T [(1,(.ptr _ _)),(13,(.d _)),(14,(.d _)),(15,(.d _)),(62,(.d _)),(63,(.d _)),(64,(.d _))],G [((1,u1),some<|.box 105 _)]⟩) (F5 Z Z) ?_
 refine B5<|sv Z<|sv Z<|A1<|D9 ?_
 cases hz5
 exact ⟨Z,(),(F5 Z Z)⟩
 refine C4 Z ?_
 cases hz5
 obtain rfl:=ez5 _ rfl
 refine ⟨nofun,C3 Z<|V2 ?_⟩
 exact ⟨_,(),Z,(F5 Z Z)⟩
 rintro _ ⟨y3,g5,rfl,q2⟩
 rw [bO]at hz2
 refine D8<|A8 q2<|B5<|sv Z<|sv Z<|A1<|D9 ?_
 cases hz2
 exact ⟨Z,(),(F5 Z Z)⟩
 refine C4 Z ?_
 cases hz2
 obtain rfl:=ez2 _ rfl
 refine ⟨nofun,C3 Z<|V2 ?_⟩
 exact ⟨_,(),Z,(F5 Z Z)⟩
 rintro _ ⟨y1,g1,rfl,q3⟩
 rw [bO]at h
 refine A8 q3<|C0<|sv Z<|A1<|C1 ?_
 cases h
 exact B9 (.inr Z) (C5 (C2 Z) D7) (.refl _)
def N1 [Lp](p1:RoadsCheck)(x1:Int):Option (Stp Int (Sum Unit Int)):=
  cond (decide (x1< (p1.Map_.Works.length:Int))) ((F6 p1.Map_.Works x1).bind fun v1=>cond ((decide (v1.Lane_<0))||(decide (v1.Lane_≥(p1.Map_.Lanes.length:Int)))) (some (.out (.inr 7))) ((F6 p1.Map_.Lanes v1.Lane_).bind fun v2=>(Ev v2.Kind).bind fun v3=>((cond (!((decide (v1.From<0))||(decide (v1.From>v1.To)))) (V3 p1.Map_ v1.Lane_) (some default))).bind fun v4=>((cond (!((((((decide (v1.From<0))||(decide (v1.From>v1.To)))||(decide (v1.To>v4)))||(decide (v1.Begin<0)))||(decide (v1.Begin≥v1.End)))||(decide (v1.End>1099511627776)))) (S3 v1.Limit 0 v3.1) (some default))).bind fun v5=>cond (((((((decide (v1.From<0))||(decide (v1.From>v1.To)))||(decide (v1.To>v4)))||(decide (v1.Begin<0)))||(decide (v1.Begin≥v1.End)))||(decide (v1.End>1099511627776)))||(!v5)) (some (.out (.inr 2))) (some (.go (I4 (x1+1)))))) (some (.out (.inl ())))
def R5 [Lp](p1:RoadsCheck):Option Int:=
  thenS (loop (N1 p1) 0) (fun _=>some 0) (fun r=>some r)
theorem Pg(p1 r)(h:R5 p1=some r):PCall prog 70 [(.agg (Q2 p1.Map_))] (i64 r):=by
 refine E3 (fk func70 ntmps70 m0 (by with_unfolding_all rfl)) (nl Z) ?_
 unfold R5 at h
 refine A8 (s0:=⟨T [(0,(.d _))],G []⟩) (F5 Z Z) ?_
 refine lr<|fun u1 _=>sm Z<|sv Z<|A1<|A4<|C0<|sq Z<|sp Z Z<|sl Z G_hit Z<|sd Z (D2 Z)<|sv Z<|A1<|js h fun z1 hz1 h=>D3 (fun s=> ∃(y1:Unit) (g1:Unit),z1= .inl y1∧Sb ⟨T [],G []⟩ s) ?_ ?_
 refine A5<|D6 (N1 p1) (fun (x1:Int) (g2:Unit)=>⟨T [(1,(.ptr (1,u1) 0)),(10,(dl Ax p1.Map_.Works)),(11,(di (p1.Map_.Works.length:Int))),(12,(di x1))],G [((1,u1),some<|.box 105 (F1 p1.Map_))]⟩) 0 () _ hz1 (F5 Z Z) ?_
 intro x1 g2 z2 hz2 ez2
 unfold N1 at hz2
 refine C0<|sv Z<|A1<|A4<|cc Z hz2 (fun c1 hz2=> ?_)<|fun c1 hz2=> ?_
 refine B4<|A4<|A5<|lr<|fun u4 _=>bs hz2 fun v1 hv1 hz2=>sd Z (E7 Z Z hv1 Z)<|sd Z (E4 Z hv1 Z Z)<|sm Z<|X7 Z G_hit (NR v1) Z (A1<|A4<|C0<|sq Z<|sl Z G_hit Z<|sv Z<|sv Z<|gp Z (T9 Z) (fun _=>Z) (gf Z (vl Z G_hit Z)<|gp Z (T9 Z) (fun _=>Z) ?_))
 refine R8 _ (.ptr _ _) Z (T9 Z) (fun w4=>(by simp only [A9 w4];rfl)) ?_
 refine gf Z (vl Z (gq Z) Z)<|gf Z (fun w6=>(D2<|A9 w6))<|gf Z (fun w7=>(Cu (A9 w7) (A9 w7) Z))<|sd Z (Ed Z Z<|fun hc=>A9<|Y1 hc)<|A1<|cc Z hz2 (fun c2 hz2=> ?_)<|fun c2 hz2=> ?_
 refine A4<|A8 (s0:=⟨T [],G []⟩) (F5 Z Z) ?_
 refine B5<|sv Z<|A1<|C1 ?_
 cases hz2
 obtain rfl:=ez2 _ rfl
 refine ⟨nofun,H7 ?_⟩
 rw [bP]at h
 cases h
 exact B9 (.inr Z) (C5 (C2 Z) D7) (.refl _)
 refine B4<|A4<|A8 (s0:=⟨T [(1,(.ptr _ _)),(4,(.ptr _ _)),(10,(.d _)),(11,(.d _)),(12,(.d _))],G [((1,u1),some<|.box 105 _),((4,u4),some<|.box 50 _)]⟩) (F5 Z Z) ?_
 refine B5<|sq Z<|sq Z<|sl Z G_hit Z<|sq Z<|sl Z (gq Z) Z (bs hz2 fun _ hv2 hz2=>sd Z (E7 Z Z hv2 Z)<|sv Z<|sd Z (G7 Z hv2 Z)<|bs hz2 fun v3 hv3 hz2=>D1 Z Z A6 (Ny _ _ hv3) (.inl Z) (sv Z<|sv Z<|sv Z<|sv Z<|sv Z<|sv Z<|sv Z<|A1<|A4<|A8 (s0:=⟨T [(1,(.ptr _ _)),(4,(.ptr _ _)),(5,(.d _)),(10,(.d _)),(11,(.d _)),(12,(.d _))],G [((1,u1),some<|.box 105 _),((4,u4),some<|.box 50 _)]⟩) (F5 Z Z) ?_))
 refine T7 Z<|sq Z<|sl Z (gq Z) Z (sv Z<|sv Z<|gp Z (T9 Z) (fun _=>Z) (gf Z (vl Z (gq Z) Z)<|gp Z (T9 Z) (fun _=>Z) (gf Z (vl Z (gq Z) Z)<|gf Z (fun w12=>(Cu (A9 w12) (A9 w12) Z))<|sd Z (Ed Z Z<|fun hc=>A9<|Y1 hc)<|sv Z<|gp Z (T9 Z) (fun _=>Z) (gf Z (vl Z (gq Z) Z)<|gp Z (T9 Z) (fun _=>Z) (gf Z (fun w16=>(C6 (A9 w16) G_hit Z Z))<|gp Z (T9 Z) (fun _=>Z) (gf Z (vl Z (gq Z) Z)<|bs hz2 fun v4 hv4 hz2=> ?_))))))
 refine P4 _ (i64 v4) (T9 Z) (fun w19=>⟨_,[(.d (.agg (Q2 p1.Map_))),(di v1.Lane_)],_,_,(by simp only [A9 w19];rfl),Z,A6,Dr _ _ _<|K2 w19 hv4,(.inl Z)⟩) ?_
 refine gf Z (fun w20=>(Cu (A9 w20) (A9 w20) Z))<|sd Z (Ed Z Z<|fun hc=>A9<|Y1 hc)<|sv Z<|gp Z (T9 Z) (fun _=>Z) (gf Z (vl Z (gq Z) Z)<|gf Z (vb Z Z Z)<|sd Z (Ed Z Z<|fun hc=>A9<|Y1 hc)<|sv Z<|gp Z (T9 Z) (fun _=>Z) (gf Z (vl Z (gq Z) Z)<|gp Z (T9 Z) (fun _=>Z) (gf Z (vl Z (gq Z) Z)<|gf Z (fun w28=>(Cu (A9 w28) (A9 w28) Z))<|sd Z (Ed Z Z<|fun hc=>A9<|Y1 hc)<|sv Z<|gp Z (T9 Z) (fun _=>Z) (gf Z (vl Z (gq Z) Z)<|gf Z (vb Z Z Z)<|sd Z (Ed Z Z<|fun hc=>A9<|Y1 hc)<|sv Z<|gp Z (T9 Z) (fun _=>Z) (gf Z (vl Z (gq Z) Z)<|gf Z (fun _=>Z)<|bs hz2 fun v5 hv5 hz2=> ?_)))))
 refine P4 _ (bo v5) (T9 Z) (fun w35=>⟨_,[(di v1.Limit),(di 0),(di v3.1)],_,_,(by simp only [A9 w35];rfl),Z,A6,R7 _ _ _ _<|K2 w35 hv5,(.inl Z)⟩) ?_
 refine R8 _ (.d (bo (!v5))) Z (T9 Z) (fun w36=>(by simp only [A9 w36];rfl)) ?_
 refine sd Z (Ed Z Z<|fun hc=>A9<|Y1 hc)<|A1<|cc Z hz2 (fun c3 hz2=> ?_)<|fun c3 hz2=> ?_
 refine A4<|A8 (s0:=⟨T [],G []⟩) (F5 Z Z) ?_
 refine B5<|sv Z<|A1<|C1 ?_
 cases hz2
 obtain rfl:=ez2 _ rfl
 refine ⟨nofun,H7 ?_⟩
 rw [bP]at h
 cases h
 exact B9 (.inr Z) (C5 (C2 Z) D7) (.refl _)
 refine B4<|D8<|A8 (s0:=⟨T [(1,(.ptr _ _)),(10,(.d _)),(11,(.d _)),(12,(.d _))],G [((1,u1),some<|.box 105 _)]⟩) (F5 Z Z) ?_
 refine B5<|sv Z<|sv Z<|A1<|D9 ?_
 cases hz2
 exact ⟨Z,(),(F5 Z Z)⟩
 refine C4 Z ?_
 cases hz2
 obtain rfl:=ez2 _ rfl
 refine ⟨nofun,C3 Z<|V2 ?_⟩
 exact ⟨_,(),Z,(F5 Z Z)⟩
 rintro _ ⟨y1,g1,rfl,q1⟩
 rw [bO]at h
 refine A8 q1<|C0<|sv Z<|A1<|C1 ?_
 cases h
 exact B9 (.inr Z) (C5 (C2 Z) D7) (.refl _)
def P0 [Lp](v:Nat)(p1:RoadsCheck):Option Int:=
  cond (Nat.beq v 65) (V7 p1) (cond (Nat.beq v 66) (R3 p1) (cond (Nat.beq v 67) (P9 p1) (cond (Nat.beq v 68) (O6 p1) (cond (Nat.beq v 69) (R4 p1) (cond (Nat.beq v 70) (R5 p1) (none))))))
theorem Hm(v p1 r)(h:P0 v p1=some r):PCall prog v [(.agg [(i64 p1.Map_.Version),(.list (List.map O1 p1.Map_.Lanes)),(.list (List.map K4 p1.Map_.Zones)),(.list (List.map P3 p1.Map_.Signals)),(.list (List.map Ax p1.Map_.Works))])] (i64 r):=by
  unfold P0 at h
  rcases Tp h with ⟨rfl,h⟩|⟨_,h⟩
  ·exact Ni _ r h
  rcases Tp h with ⟨rfl,h⟩|⟨_,h⟩
  ·exact Pe _ r h
  rcases Tp h with ⟨rfl,h⟩|⟨_,h⟩
  ·exact Oe _ r h
  rcases Tp h with ⟨rfl,h⟩|⟨_,h⟩
  ·exact Nj _ r h
  rcases Tp h with ⟨rfl,h⟩|⟨_,h⟩
  ·exact Pf _ r h
  rcases Tp h with ⟨rfl,h⟩|⟨_,h⟩
  ·exact Pg _ r h
  cases h
def L5 [Lp](p1:Map)(x1:Int):Option (Stp Int (Sum Unit Int)):=
  cond (decide (x1< ([65,66,67,68,69,70].length:Int))) ((F6 [65,66,67,68,69,70] x1).bind fun v1=>(P0 v1 (RoadsCheck.mk p1)).bind fun v2=>cond (v2 !=0) (some (.out (.inr v2))) (some (.go (I4 (x1+1))))) (some (.out (.inl ())))
def R6 [Lp](p1:Map):Option Int:=
  thenS (loop (L5 p1) 0) (fun _=>some 0) (fun r=>some r)
theorem Cv(p1 r)(h:R6 p1=some r):PCall prog 16 [(.agg (Q2 p1))] (i64 r):=by
 refine E3 (fk func16 ntmps16 (fun r=>if r==1 then [1000]else []) (by with_unfolding_all rfl)) (nl Z) ?_
 unfold R6 at h
 refine A8 (s0:=⟨T [(0,(.d _))],G []⟩) (F5 Z Z) ?_
 refine lr<|fun u1 _=>sm Z<|sv Z<|A1<|A4<|C0<|B6 (dl XV [65,66,67,68,69,70]) Z Z (sd Z (D2 Z)<|sv Z<|A1<|js h fun z1 hz1 h=>D3 (fun s=> ∃(y1:Unit) (g1:Unit),z1= .inl y1∧Sb ⟨T [],G []⟩ s) ?_ ?_)
 refine A5<|D6 (L5 p1) (fun (x1:Int) (g2:Unit)=>⟨T [(1,(.ptr (1,u1) 0)),(6,(dl XV [65,66,67,68,69,70])),(7,(di ([65,66,67,68,69,70].length:Int))),(8,(di x1))],G [((1,u1),some<|.box 27 (F1 p1))]⟩) 0 () _ hz1 (F5 Z Z) ?_
 intro x1 g2 z2 hz2 ez2
 unfold L5 at hz2
 refine C0<|sv Z<|A1<|A4<|cc Z hz2 (fun c1 hz2=> ?_)<|fun c1 hz2=> ?_
 refine B4<|A4<|A5<|C0<|bs hz2 fun _ hv1 hz2=>sd Z (E7 Z Z hv1 Z)<|sd Z (G7 Z hv1 Z)<|sv Z<|A1<|C0<|sv Z<|sd Z (C6 Z G_hit Z Z)<|sv Z<|bs hz2 fun _ hv2 hz2=>D1 Z Z A6 (Hm _ _ _ hv2) (.inl Z) (sv Z<|A1<|C0<|sv Z<|sv Z<|A1<|cc Z hz2 (fun c2 hz2=> ?_)<|fun c2 hz2=> ?_)
 refine C0<|sv Z<|sv Z<|A1<|C1 ?_
 cases hz2
 obtain rfl:=ez2 _ rfl
 refine ⟨nofun,H7 ?_⟩
 rw [bP]at h
 cases h
 exact B9 (.inr Z) (C5 (C2 Z) D7) (.refl _)
 refine B4<|D8<|B5<|sv Z<|sv Z<|A1<|D9 ?_
 cases hz2
 exact ⟨Z,(),(F5 Z Z)⟩
 refine C4 Z ?_
 cases hz2
 obtain rfl:=ez2 _ rfl
 refine ⟨nofun,C3 Z<|V2 ?_⟩
 exact ⟨_,(),Z,(F5 Z Z)⟩
 rintro _ ⟨y1,g1,rfl,q1⟩
 rw [bO]at h
 refine A8 q1<|C0<|sv Z<|A1<|C1 ?_
 cases h
 exact B9 (.inr Z) (C5 (C2 Z) D7) (.refl _)
end
end Go.Abs.Roadsz
