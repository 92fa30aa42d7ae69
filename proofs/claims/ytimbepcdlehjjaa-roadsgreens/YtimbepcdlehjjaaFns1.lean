/-
  The Go functions that RoadsGreens reaches, as plain Lean functions, and the proofs that the program computes them.
-/
import Derived.Test.YtimbepcdlehjjaaCoreD
import Derived.Test.YtimbepcdlehjjaaProg
import Derived.KernelRfl
import Derived.IntWalk
import Derived.Shelf.SlicesE.Compact
set_option maxRecDepth 20000
set_option maxHeartbeats 4000000
set_option linter.unusedVariables false
namespace Go.Abs.Roads
open Go Go.Abs Go.Proofs
attribute [local irreducible] T3 B55 AWL
structure Spot where
  X:Int
  Y:Int
  deriving Inhabited
structure CurveVector where
  x:Int
  y:Int
  deriving Inhabited
structure CurvePiece where
  p:Spot
  v:CurveVector
  l:Int
  start:Int
  deriving Inhabited
abbrev A3v:Spot→List D:=fun x=> [(i64 x.X),(i64 x.Y)]
structure Curve where
  Pts:(List Spot)
  deriving Inhabited
abbrev eCurve:Curve→List D:=fun x=> [(.list (List.map A3v x.Pts))]
abbrev A2:Int→List D:=fun x=> [.v (.int .i64 x)]
structure Lane where
  Kind:Int
  Curve_:Curve
  Half:Int
  Limit:Int
  Next:(List Int)
  deriving Inhabited
structure Part where
  Lane_:Int
  From:Int
  To:Int
  Rank:Int
  deriving Inhabited
structure Zone where
  Parts:(List Part)
  Signal_:Int
  deriving Inhabited
structure Phase where
  Ticks:Int
  Green:(List Int)
  deriving Inhabited
structure Signal where
  Offset:Int
  Phases:(List Phase)
  deriving Inhabited
structure Work where
  Lane_:Int
  From:Int
  To:Int
  Begin:Int
  End:Int
  Limit:Int
  deriving Inhabited
structure Map where
  Version:Int
  Lanes:(List Lane)
  Zones:(List Zone)
  Signals:(List Signal)
  Works:(List Work)
  deriving Inhabited
abbrev A2v:Lane→List D:=fun x=> [(i64 x.Kind),(.list (List.map A3v x.Curve_.Pts)),(i64 x.Half),(i64 x.Limit),(.list (List.map A2 x.Next))]
abbrev M9:Part→List D:=fun x=> [(i64 x.Lane_),(i64 x.From),(i64 x.To),(i64 x.Rank)]
abbrev Q8:Zone→List D:=fun x=> [(.list (List.map M9 x.Parts)),(i64 x.Signal_)]
abbrev A1c:Phase→List D:=fun x=> [(i64 x.Ticks),(.list (List.map A2 x.Green))]
abbrev A5j:Signal→List D:=fun x=> [(i64 x.Offset),(.list (List.map A1c x.Phases))]
abbrev B1n:Work→List D:=fun x=> [(i64 x.Lane_),(i64 x.From),(i64 x.To),(i64 x.Begin),(i64 x.End),(i64 x.Limit)]
abbrev eFn:Nat→List D:=fun x=> [.fn (.func x) [] []]
structure RoadsCheck where
  Map_:Map
  deriving Inhabited
abbrev C9t:(Int×Int×Int)→List D:=fun x=> [(i64 x.1),(i64 x.2.1),(i64 x.2.2)]
structure RoadsWay where
  Map_:Map
  lanes:(List Int)
  starts:(List Int)
  length:Int
  deriving Inhabited
structure Clash where
  Kind:Int
  Zone_:Int
  A:Int
  B:Int
  deriving Inhabited
abbrev H7:Clash→List D:=fun x=> [(i64 x.Kind),(i64 x.Zone_),(i64 x.A),(i64 x.B)]
structure Anon7 where
  x:Int
  y:Int
  signed:Bool
  code:Int
  deriving Inhabited
structure RuntimeBoundsError where
  x:Int
  y:Int
  signed:Bool
  code:Int
  deriving Inhabited
structure Anon13 where
  msg:ByteArray
  addr:Int
  deriving Inhabited
structure RuntimeErrorAddressString where
  msg:ByteArray
  addr:Int
  deriving Inhabited
structure Anon27 where
  Version:Int
  Lanes:(List Lane)
  Zones:(List Zone)
  Signals:(List Signal)
  Works:(List Work)
  deriving Inhabited
structure Anon32 where
  Lane_:Int
  From:Int
  To:Int
  Begin:Int
  End:Int
  Limit:Int
  deriving Inhabited
structure Anon36 where
  Pts:(List Spot)
  deriving Inhabited
structure Anon39 where
  Kind:Int
  Curve_:Curve
  Half:Int
  Limit:Int
  Next:(List Int)
  deriving Inhabited
structure Anon65 where
  Zone_:Int
  Part_:Int
  From:Int
  To:Int
  deriving Inhabited
structure Pass where
  Zone_:Int
  Part_:Int
  From:Int
  To:Int
  deriving Inhabited
structure Anon68 where
  Parts:(List Part)
  Signal_:Int
  deriving Inhabited
structure Anon70 where
  Lane_:Int
  From:Int
  To:Int
  Rank:Int
  deriving Inhabited
structure Anon74 where
  Offset:Int
  Phases:(List Phase)
  deriving Inhabited
structure Anon76 where
  Ticks:Int
  Green:(List Int)
  deriving Inhabited
structure Anon87 where
  Map_:Map
  deriving Inhabited
structure Anon91 where
  Map_:Map
  lanes:(List Int)
  starts:(List Int)
  length:Int
  deriving Inhabited
structure Anon110 where
  X:Int
  Y:Int
  deriving Inhabited
structure Anon134 where
  x:Int
  y:Int
  deriving Inhabited
structure Anon144 where
  Kind:Int
  Zone_:Int
  A:Int
  B:Int
  deriving Inhabited
structure Anon157 where
  p:Spot
  v:CurveVector
  l:Int
  start:Int
  deriving Inhabited
abbrev C2k:RoadsWay→List D:=fun x=> [(i64 x.Map_.Version),(.list (List.map A2v x.Map_.Lanes)),(.list (List.map Q8 x.Map_.Zones)),(.list (List.map A5j x.Map_.Signals)),(.list (List.map B1n x.Map_.Works)),(.list (List.map A2 x.lanes)),(.list (List.map A2 x.starts)),(i64 x.length)]
abbrev A2b:RoadsWay→List AV:=fun x=> [(.d (i64 x.Map_.Version)),(.d (.list (List.map A2v x.Map_.Lanes))),(.d (.list (List.map Q8 x.Map_.Zones))),(.d (.list (List.map A5j x.Map_.Signals))),(.d (.list (List.map B1n x.Map_.Works))),(.d (.list (List.map A2 x.lanes))),(.d (.list (List.map A2 x.starts))),(.d (i64 x.length))]
abbrev C8r:Work→List AV:=fun x=> [(.d (i64 x.Lane_)),(.d (i64 x.From)),(.d (i64 x.To)),(.d (i64 x.Begin)),(.d (i64 x.End)),(.d (i64 x.Limit))]
abbrev B82:CurvePiece→List D:=fun x=> [(i64 x.p.X),(i64 x.p.Y),(i64 x.v.x),(i64 x.v.y),(i64 x.l),(i64 x.start)]
abbrev B83:CurvePiece→List AV:=fun x=> [(.d (i64 x.p.X)),(.d (i64 x.p.Y)),(.d (i64 x.v.x)),(.d (i64 x.v.y)),(.d (i64 x.l)),(.d (i64 x.start))]
abbrev A12:Map→List D:=fun x=> [(i64 x.Version),(.list (List.map A2v x.Lanes)),(.list (List.map Q8 x.Zones)),(.list (List.map A5j x.Signals)),(.list (List.map B1n x.Works))]
abbrev A05:Map→List AV:=fun x=> [(.d (i64 x.Version)),(.d (.list (List.map A2v x.Lanes))),(.d (.list (List.map Q8 x.Zones))),(.d (.list (List.map A5j x.Signals))),(.d (.list (List.map B1n x.Works)))]
abbrev B1o:Lane→List AV:=fun x=> [(.d (i64 x.Kind)),(.d (.list (List.map A3v x.Curve_.Pts))),(.d (i64 x.Half)),(.d (i64 x.Limit)),(.d (.list (List.map A2 x.Next)))]
abbrev A8c:Part→List AV:=fun x=> [(.d (i64 x.Lane_)),(.d (i64 x.From)),(.d (i64 x.To)),(.d (i64 x.Rank))]
noncomputable def B0x (p1:Int)(p2:Int):Option Int:=
  (C26 p1 p2).bind fun v1=>cond (decide (v1<0)) (some (w64 (v1+p2))) (some v1)
theorem B4l (p1:Int)(p2:Int)(r:Int)(h:B0x p1 p2=some r):PCall Try.prog 19 [(i64 p1),(i64 p2)] (i64 r):=by
 refine E1 (fk Try.func19 Try.ntmps19 m0 (by with_unfolding_all rfl)) (nl rfl) ?_
 unfold B0x at h
 refine A7 (s0:=⟨T [(0,(.d _)),(1,(.d _))],G []⟩) (sbr rfl rfl) ?_
 refine lr (fun u1 hu1=>sv rfl (A1 (lr (fun u2 hu2=>sv rfl (sv rfl (bs h fun v1 hv1 h=>sd rfl (C29 rfl rfl hv1) (sv rfl (A1 (A5 (lr (fun u3 hu3=>sv rfl (sv rfl (A1 (cc rfl h (fun c1 h=> ?_) (fun c1 h=> ?_)))))))))))))))
 refine C3 fun u4 hu4=>sv rfl (sv rfl (sv rfl (sv rfl (A1 (lr (fun u5 hu5=>sv rfl (sv rfl (A1 (C1 ?_)))))))))
 cases h
 exact A8 (.inr rfl) (D0 (C2 rfl) M3) (.refl _)
 refine B4 (lr (fun u6 hu6=>sv rfl (sv rfl (A1 (C1 ?_)))))
 cases h
 exact A8 (.inr rfl) (D0 (C2 rfl) M3) (.refl _)
noncomputable def A4l (p4:(List Int))(x1:(Int×Lane)):Option (Stp (Int×Lane) Lane):=
  cond (decide ((w64 (x1.1+1))< (p4.length:Int))) ((F1 p4 x1.1).bind fun v1=>(F1 p4 (w64 (x1.1+1))).bind fun v2=>(A9u x1.2.Curve_.Pts [(Spot.mk v1 v2)]).bind fun v3=>some (.go ((w64 (x1.1+2)),(Lane.mk x1.2.Kind (Curve.mk v3) x1.2.Half x1.2.Limit x1.2.Next)))) (some (.out x1.2))
noncomputable def P6 (p1:Int)(p2:Int)(p3:(List Int))(p4:(List Int)):Option Lane:=
  (loop (A4l p4) (0,(Lane.mk p1 (Curve.mk []) 1500 p2 p3))).bind fun y1=>cond (p1==3) (some (Lane.mk y1.Kind y1.Curve_ 500 y1.Limit y1.Next)) (some y1)
theorem K7 (p1:Int)(p2:Int)(p3:(List Int))(p4:(List Int))(r:Lane)(h:P6 p1 p2 p3 p4=some r):PCall Try.prog 38 [(i64 p1),(i64 p2),(.list (List.map A2 p3)),(.list (List.map A2 p4))] (.agg (A2v r)):=by
 refine E1 (fk Try.func38 Try.ntmps38 (fun r=>if r==5 then [1013]else []) (by with_unfolding_all rfl)) (nl rfl) ?_
 unfold P6 at h
 refine A7 (s0:=⟨T [(0,(.d _)),(1,(.d _)),(2,(.d _)),(3,(.d _))],G []⟩) (sbr rfl rfl) ?_
 refine lr (fun u1 hu1=>sn rfl rfl (A1 (lr (fun u2 hu2=>sv rfl (sv rfl (sv rfl (sv rfl (sn rfl rfl (sst rfl G_hit [(di p1),(.d .nilS),(di 1500),(di p2),(dl A2 p3)] rfl (A1 (A5 (lr (fun u3 hu3=>sv rfl (A1 (bs h fun y1 hy1 h=>F8 (fun s=> ∃g1:Nat,Sb ⟨T [(0,(di p1)),(8,(.ptr (8,u1) 0)),(9,(.ptr (9,u2) 0))],G [((8,u1),some (.box 40 (((zs 4).set 1 (.d .nilS))++ [(.d .nilS)]))),((9,u2),some (.box 40 ((B1o y1).set 1 (oS y1.Curve_.Pts (36,g1))))),((36,g1),oB 111 2 A3v y1.Curve_.Pts)]⟩ s) ?_ ?_)))))))))))))))
 refine A4 (G5 (A4l p4) (fun (x1:(Int×Lane)) (g2:Nat)=>⟨T [(0,(di p1)),(3,(dl A2 p4)),(8,(.ptr (8,u1) 0)),(9,(.ptr (9,u2) 0)),(10,(di x1.1))],G [((8,u1),some (.box 40 (((zs 4).set 1 (.d .nilS))++ [(.d .nilS)]))),((9,u2),some (.box 40 ((B1o x1.2).set 1 (oS x1.2.Curve_.Pts (36,g2))))),((36,g2),oB 111 2 A3v x1.2.Curve_.Pts)]⟩) (0,(Lane.mk p1 (Curve.mk []) 1500 p2 p3)) 0 _ hy1 (F7 ⟨.of rfl, .of rfl, .of rfl, .of rfl, .of rfl,trivial⟩ (sg rfl (B3 G_hit (.of rfl) (V2 trivial)))) ?_)
 intro x1 g2 z1 hz1 ez1
 unfold A4l at hz1
 refine A5 (lr (fun u4 hu4=>sv rfl (sv rfl (sv rfl (sd rfl (I8 rfl) (sv rfl (A1 (cc rfl hz1 (fun c1 hz1=> ?_) (fun c1 hz1=> ?_)))))))))
 refine B4 (A5 (A4 (A21 rfl fun u5 hu5=>sp rfl rfl (sp rfl rfl (D3 (oS x1.2.Curve_.Pts (36,g2)) rfl (A9w rfl (gq rfl) rfl) (sv rfl (sv rfl (bs hz1 fun v1 hv1 hz1=>sd rfl (K6 rfl rfl hv1 rfl) (sd rfl (I4 rfl hv1 rfl) (sv rfl (sv rfl (sv rfl (bs hz1 fun v2 hv2 hz1=>sd rfl (K6 rfl rfl hv2 rfl) (sd rfl (I4 rfl hv2 rfl) (sv rfl (D3 (dl A3v [(Spot.mk v1 v2)]) rfl rfl (bs hz1 fun v3 hv3 hz1=>A00 A3v (36,g2) x1.2.Curve_.Pts (Spot.mk v1 v2) [] _ (W6 (fun _=>rfl)) rfl (gq rfl) hv3 (sp rfl rfl (sp rfl rfl (sst rfl (gq rfl) ((B1o x1.2).set 1 (.sl (36,u5))) rfl (A1 (I3 (A7 (s0:=⟨T [(0,(.d _)),(3,(.d _)),(8,(.ptr _ _)),(9,(.ptr _ _)),(10,(.d _))],G [((8,u1),some (.box 40 _)),((9,u2),some (.box 40 _)),((36,u5),some _)]⟩) (sbr rfl rfl) ?_)))))))))))))))))))))))
 refine C3 fun u6 hu6=>sv rfl (sv rfl (sv rfl (A1 (L6 ?_))))
 cases hz1
 exact ⟨rfl,u5,(F7 ⟨.of rfl, .of rfl, .of rfl, .of rfl, .of rfl,trivial⟩ (B3 G_hit (.of rfl) (B3 (gq rfl) (.box (cv (.cons (.of (A2a (A3u hv3)).symm) cw))) (Q6 (gq rfl) trivial))))⟩
 refine E3 rfl ?_
 cases hz1
 obtain rfl:=ez1 _ rfl
 refine ⟨nofun,D7 rfl (l_j ?_)⟩
 exact ⟨g2,(F7 ⟨.of rfl, .of rfl, .of rfl,trivial⟩ (B3 G_hit (.of rfl) (sg rfl (F9 (gq rfl) trivial))))⟩
 rintro _ ⟨g1,q1⟩
 refine A7 q1 (A5 (lr (fun u7 hu7=>sv rfl (sv rfl (A1 (cc rfl h (fun c2 h=> ?_) (fun c2 h=> ?_)))))))
 refine C3 fun u8 hu8=>sp rfl rfl (sst rfl (gq rfl) (((B1o y1).set 1 (oS y1.Curve_.Pts (36,g1))).set 2 (di 500)) rfl (A1 (lr (fun u9 hu9=>D3 (A3t (((B1o y1).set 1 (oS y1.Curve_.Pts (36,g1))).set 2 (di 500))) rfl (B9 rfl G_hit rfl rfl) (A99 _ _ _ _ _ (A3f _) rfl rfl (gq rfl) (nl rfl) (((B1o y1).set 1 (oS y1.Curve_.Pts (36,g1))).set 2 (di 500)) rfl (A1 (C1 ?_)))))))
 cases h
 exact A8 (.inr rfl) (D0 (Z9 rfl G_hit (nl rfl) rfl) (A9v (rD (M5 (A76 (gq rfl)) (rD (rD (rD M4))))))) (.agg (ca rfl (.cons ⟨A75,rfl⟩ (cz rfl))))
 refine B4 (lr (fun u10 hu10=>D3 (A3t ((B1o y1).set 1 (oS y1.Curve_.Pts (36,g1)))) rfl (B9 rfl (gq rfl) rfl rfl) (A99 _ _ _ _ _ (A3f _) rfl rfl G_hit (nl rfl) ((B1o y1).set 1 (oS y1.Curve_.Pts (36,g1))) rfl (A1 (C1 ?_)))))
 cases h
 exact A8 (.inr rfl) (D0 (Z9 rfl G_hit (nl rfl) rfl) (A9v (rD (M5 (A76 (gq rfl)) (rD (rD (rD M4))))))) (.agg (ca rfl (.cons ⟨A75,rfl⟩ (cz rfl))))
noncomputable def A5z (p1:Int)(p2:Int)(p3:Int):Option Signal:=
  some (Signal.mk p1 [(Phase.mk 12 [p2]),(Phase.mk 5 []),(Phase.mk 9 [p3]),(Phase.mk 4 [])])
theorem A6d (p1:Int)(p2:Int)(p3:Int)(r:Signal)(h:A5z p1 p2 p3=some r):PCall Try.prog 39 [(i64 p1),(i64 p2),(i64 p3)] (.agg [(i64 r.Offset),(.list (List.map A1c r.Phases))]):=by
 refine E1 (fk Try.func39 Try.ntmps39 (fun r=>if r==1 then [1002,1006,1009]else []) (by with_unfolding_all rfl)) (nl rfl) ?_
 unfold A5z at h
 refine A7 (s0:=⟨T [(0,(.d _)),(1,(.d _)),(2,(.d _))],G []⟩) (sbr rfl rfl) ?_
 refine lr (fun u1 hu1=>sn rfl rfl (A1 (lr (fun u2 hu2=>sv rfl (sv rfl (D3 (dl A2 [p2]) rfl rfl (sv rfl (sv rfl (sv rfl (D3 (dl A2 [p3]) rfl rfl (sv rfl (sv rfl (D3 (dl A1c [(Phase.mk 12 [p2]),(Phase.mk 5 []),(Phase.mk 9 [p3]),(Phase.mk 4 [])]) rfl rfl (sv rfl (sst rfl G_hit [(di p1),(dl A1c [(Phase.mk 12 [p2]),(Phase.mk 5 []),(Phase.mk 9 [p3]),(Phase.mk 4 [])])] rfl (A1 (C1 ?_)))))))))))))))))
 cases h
 exact A8 (.inr rfl) (D0 (Z9 rfl G_hit (nl rfl) rfl) M3) (.refl _)
noncomputable def B32 (p1:Int):Option Map:=
  (B0x p1 16777216).bind fun v1=>(F1 [1500,600,1000,300] ((w64 (v1.tdiv 7)).tmod 4)).bind fun v2=>(cond ((v1.tmod 7)==0) ((P6 1 v2 [] [0,0,60000,0]).bind fun v3=>some (Map.mk 0 [v3] [] [] [])) ((cond ((v1.tmod 7)==1) (some ((v1.tmod 7)==1)) (some ((v1.tmod 7)==2))).bind fun y2=>cond y2 ((P6 1 v2 [] [0,0,50000,0]).bind fun v4=>(P6 1 1500 [] [30000,(-20000),30000,20000]).bind fun v5=>cond ((v1.tmod 7)==2) ((F1 [(Zone.mk [(Part.mk 0 28000 32000 ((w64 (v1.tdiv 28)).tmod 2)),(Part.mk 1 18000 22000 (w64 (2 - (w64 (2* ((w64 (v1.tdiv 28)).tmod 2))))))] 0)] 0).bind fun v6=>(A5z ((w64 (v1.tdiv 28)).tmod 31) 0 1).bind fun v7=>some (Map.mk 0 [v4,v5] (B5b [(Zone.mk [(Part.mk 0 28000 32000 ((w64 (v1.tdiv 28)).tmod 2)),(Part.mk 1 18000 22000 (w64 (2 - (w64 (2* ((w64 (v1.tdiv 28)).tmod 2))))))] 0)] 0 (Zone.mk v6.Parts 1)) [v7] [])) (some (Map.mk 0 [v4,v5] [(Zone.mk [(Part.mk 0 28000 32000 ((w64 (v1.tdiv 28)).tmod 2)),(Part.mk 1 18000 22000 (w64 (2 - (w64 (2* ((w64 (v1.tdiv 28)).tmod 2))))))] 0)] [] []))) (cond ((v1.tmod 7)==3) ((P6 1 v2 [1,2] [0,0,30000,0]).bind fun v8=>(P6 1 1500 [] [30000,0,60000,0]).bind fun v9=>(P6 1 800 [] [30000,0,54000,10000]).bind fun v10=>some (Map.mk 0 [v8,v9,v10] [] [] [])) (cond ((v1.tmod 7)==4) ((P6 1 v2 [2] [0,0,30000,0]).bind fun v11=>(P6 1 1500 [2] [6000,(-10000),30000,0]).bind fun v12=>(P6 1 1500 [] [30000,0,60000,0]).bind fun v13=>some (Map.mk 0 [v11,v12,v13] [(Zone.mk [(Part.mk 0 25000 30000 1),(Part.mk 1 20000 26000 0),(Part.mk 2 0 5000 0)] 0)] [] [])) (cond ((v1.tmod 7)==5) ((P6 1 v2 [1] [0,0,20000,0]).bind fun v14=>(P6 1 v2 [] [20000,0,50000,0]).bind fun v15=>(P6 3 200 [] [35000,(-8000),35000,8000]).bind fun v16=>some (Map.mk 0 [v14,v15,v16] [(Zone.mk [(Part.mk 1 14000 16000 0),(Part.mk 2 6000 10000 3)] 0)] [] [])) (cond ((v1.tmod 7)==6) ((P6 1 v2 [1,2] [0,0,20000,0]).bind fun v17=>(P6 1 1500 [] [20000,0,50000,0]).bind fun v18=>(P6 1 1000 [] [20000,0,44000,10000]).bind fun v19=>(P6 2 700 [] [36000,(-12000),36000,18000]).bind fun v20=>cond (((w64 (v1.tdiv 28)).tmod 2)==1) ((F1 [(Zone.mk [(Part.mk 1 14000 18000 1),(Part.mk 3 10000 14000 0)] 0),(Zone.mk [(Part.mk 2 14000 21000 1),(Part.mk 3 14500 23000 0)] 0)] 0).bind fun v21=>(F1 (B5b [(Zone.mk [(Part.mk 1 14000 18000 1),(Part.mk 3 10000 14000 0)] 0),(Zone.mk [(Part.mk 2 14000 21000 1),(Part.mk 3 14500 23000 0)] 0)] 0 (Zone.mk v21.Parts 1)) 1).bind fun v22=>(A5z ((w64 (v1.tdiv 56)).tmod 31) 1 3).bind fun v23=>(A5z ((w64 (v1.tdiv 56)).tmod 17) 2 3).bind fun v24=>some (Map.mk 0 [v17,v18,v19,v20] (B5b (B5b [(Zone.mk [(Part.mk 1 14000 18000 1),(Part.mk 3 10000 14000 0)] 0),(Zone.mk [(Part.mk 2 14000 21000 1),(Part.mk 3 14500 23000 0)] 0)] 0 (Zone.mk v21.Parts 1)) 1 (Zone.mk v22.Parts 2)) [v23,v24] [])) (some (Map.mk 0 [v17,v18,v19,v20] [(Zone.mk [(Part.mk 1 14000 18000 1),(Part.mk 3 10000 14000 0)] 0),(Zone.mk [(Part.mk 2 14000 21000 1),(Part.mk 3 14500 23000 0)] 0)] [] []))) (some (Map.mk 0 [] [] [] [])))))))).bind fun y1=>cond (((w64 (v1.tdiv 1736)).tmod 3)==1) (some (Map.mk ((w64 (v1.tdiv 28)).tmod 5) y1.Lanes y1.Zones y1.Signals [(Work.mk 0 10000 15000 ((w64 (v1.tdiv 5208)).tmod 40) (w64 (((w64 (v1.tdiv 5208)).tmod 40)+20)) (w64 (((w64 (v1.tdiv 208320)).tmod 3)*200)))])) (some (Map.mk ((w64 (v1.tdiv 28)).tmod 5) y1.Lanes y1.Zones y1.Signals []))
theorem C0n (p1:Int)(r:Map)(h:B32 p1=some r):PCall Try.prog 9 [(i64 p1)] (.agg (A12 r)):=by
 refine E1 (fk Try.func9 Try.ntmps9 (fun r=>if r==2 then [1000]else if r==6 then [1001]else if r==9 then [1001,1003]else if r==10 then [1010]else if r==15 then [1001,1002,1004,1006]else if r==17 then [1001,1002,1004,1005,1007]else if r==18 then [1003]else if r==20 then [1001,1002,1005,1007]else if r==21 then [1002]else if r==23 then [1001,1002,1004,1006,1008]else if r==24 then [1002,1006]else if r==30 then [1012]else []) (by with_unfolding_all rfl)) (nl rfl) ?_
 unfold B32 at h
 refine A7 (s0:=⟨T [(0,(.d _))],G []⟩) (sbr rfl rfl) ?_
 refine lr (fun u1 hu1=>sn rfl rfl (A1 (lr (fun u2 hu2=>sv rfl (bs h fun v1 hv1 h=>B7 rfl rfl A3 (B4l _ _ _ hv1) (.inl rfl) (sv rfl (A1 (lr (fun u3 hu3=>D3 (dl A2 [1500,600,1000,300]) rfl rfl (sv rfl (sv rfl (sv rfl (bs h fun v2 hv2 h=>sd rfl (K6 rfl rfl hv2 rfl) (sd rfl (I4 rfl hv2 rfl) (sv rfl (A1 (lr (fun u4 hu4=>sn rfl rfl (A1 (A5 (lr (fun u5 hu5=>sv rfl (sv rfl (A1 (bs h fun y1 hy1 h=>F8 (fun s=> ∃g1:(({d:Nat // d∈ [20,30,69,82,102,122]}×Nat)× ({d:Nat // d∈ [44,89,108,132]}×Nat)× ({d:Nat // d∈ [57,154]}×Nat)),Sb ⟨T [(0,(di v1)),(2,(.ptr (2,u1) 0)),(4,(.ptr (4,u4) 0))],G [((2,u1),some (.box 28 [(di 0),(.d .nilS),(.d .nilS),(.d .nilS),(.d .nilS)])),((4,u4),some (.box 28 [(di y1.Version),(oS y1.Lanes (g1.1.1.val,g1.1.2)),(oS y1.Zones (g1.2.1.1.val,g1.2.1.2)),(oS y1.Signals (g1.2.2.1.val,g1.2.2.2)),(.d .nilS)])),((g1.1.1.val,g1.1.2),oB 40 5 A2v y1.Lanes),((g1.2.1.1.val,g1.2.1.2),oB 69 2 Q8 y1.Zones),((g1.2.2.1.val,g1.2.2.2),oB 75 2 A5j y1.Signals)]⟩ s) ?_ ?_)))))))))))))))))))))))))
 refine A4 (lr (fun u6 hu6=>sv rfl (sv rfl (A1 (cc rfl hy1 (fun c1 hy1=> ?_) (fun c1 hy1=> ?_))))))
 refine C3 fun u7 hu7=>sv rfl (D3 (dl A2 [0,0,60000,0]) rfl rfl (bs hy1 fun v3 hv3 hy1=>B7 rfl rfl (.cons (.refl _) (.cons (.refl _) (.cons DLe.nil A3))) (K7 _ _ _ _ _ hv3) (.inl rfl) (B0u (.sl _) (.arr 40 5 (List.map A2v ([v3]:List Lane))) rfl rfl (sp rfl rfl (sst rfl (gq rfl) [(di 0),(.sl (20,u7)),(.d .nilS),(.d .nilS),(.d .nilS)] rfl (A1 (I3 ?_)))))))
 cases hy1
 exact l_j ⟨((⟨20, .head _⟩,u7),(⟨44, .head _⟩,0),(⟨57, .head _⟩,0)),(F7 ⟨.of rfl, .of rfl, .of rfl,trivial⟩ (sg rfl (B3 G_hit (.box (cv (.cons (.of (A2a (List.cons_ne_nil _ _)).symm) cw))) (Q6 (gq rfl) (V2 (V2 trivial))))))⟩
 refine A5 (lr (fun u8 hu8=>sv rfl (sv rfl (A1 (bs hy1 fun y2 hy2 hy1=>F8 (fun s=> ∃g2:Unit,Sb ⟨T [(0,(di v1)),(2,(.ptr (2,u1) 0)),(3,(di v2)),(4,(.ptr (4,u4) 0)),(14,(di (v1.tmod 7))),(22,(.d (bo y2)))],G [((2,u1),some (.box 28 [(di 0),(.d .nilS),(.d .nilS),(.d .nilS),(.d .nilS)])),((4,u4),some (.box 28 [(di 0),(.d .nilS),(.d .nilS),(.d .nilS),(.d .nilS)]))]⟩ s) ?_ ?_)))))
 refine cc rfl hy2 (fun c2 hy2=> ?_) (fun c2 hy2=> ?_)
 refine B4 ?_
 cases hy2
 exact l_j ⟨(),(sbr rfl rfl)⟩
 refine C3 fun u9 hu9=>sv rfl (sv rfl (A1 ?_))
 cases hy2
 exact l_j ⟨(),(sbr rfl rfl)⟩
 rintro _ ⟨g2,q1⟩
 refine A7 q1 (cc rfl hy1 (fun c3 hy1=> ?_) (fun c3 hy1=> ?_))
 refine lr (fun u10 hu10=>sv rfl (D3 (dl A2 [0,0,50000,0]) rfl rfl (bs hy1 fun v4 hv4 hy1=>B7 rfl rfl (.cons (.refl _) (.cons (.refl _) (.cons DLe.nil A3))) (K7 _ _ _ _ _ hv4) (.inl rfl) (D3 (dl A2 [30000,(-20000),30000,20000]) rfl rfl (bs hy1 fun v5 hv5 hy1=>B7 rfl rfl (.cons (.refl _) (.cons (.refl _) (.cons DLe.nil A3))) (K7 _ _ _ _ _ hv5) (.inl rfl) (B0u (.sl _) (.arr 40 5 (List.map A2v ([v4,v5]:List Lane))) rfl (A3h A2v _ (fun _=>rfl) rfl rfl ⟨rfl,rfl,rfl,rfl,rfl,rfl,trivial⟩) (sp rfl rfl (sst rfl (gq rfl) [(di 0),(.sl (30,u10)),(.d .nilS),(.d .nilS),(.d .nilS)] rfl (A1 (lr (fun u11 hu11=>sv rfl (sv rfl (sv rfl (sv rfl (sv rfl (sv rfl (sv rfl (sv rfl (sv rfl (sv rfl (D3 (dl M9 [(Part.mk 0 28000 32000 ((w64 (v1.tdiv 28)).tmod 2)),(Part.mk 1 18000 22000 (w64 (2 - (w64 (2* ((w64 (v1.tdiv 28)).tmod 2))))))]) rfl rfl (sv rfl (B0u (.sl _) (.arr 69 2 (List.map Q8 ([(Zone.mk [(Part.mk 0 28000 32000 ((w64 (v1.tdiv 28)).tmod 2)),(Part.mk 1 18000 22000 (w64 (2 - (w64 (2* ((w64 (v1.tdiv 28)).tmod 2))))))] 0)]:List Zone))) rfl rfl (sp rfl rfl (sst rfl (gq rfl) [(di 0),(.sl (30,u10)),(.sl (44,u11)),(.d .nilS),(.d .nilS)] rfl (A1 (A5 (A7 (s0:=⟨T [(0,(.d _)),(2,(.ptr _ _)),(4,(.ptr _ _))],G [((2,u1),some (.box 28 _)),((4,u4),some (.box 28 _)),((30,u10),some _),((44,u11),some _)]⟩) (sbr rfl rfl) ?_))))))))))))))))))))))))))))
 refine C3 fun u12 hu12=>sv rfl (sv rfl (sv rfl (A1 (cc rfl hy1 (fun c4 hy1=> ?_) (fun c4 hy1=> ?_)))))
 refine lr (fun u13 hu13=>sp rfl rfl (D3 (.sl _) rfl (A9w rfl (gq rfl) rfl) (bs hy1 fun v6 hv6 hy1=>D3 (.aptr _ _ _ _) rfl (A9x rfl rfl (gq rfl) hv6) (D3 (.aptr _ _ _ _) rfl rfl (B5c Q8 _ _ _ (0) _ (Zone.mk v6.Parts 1) [(i64 1)] rfl rfl rfl (gq rfl) hv6 (nl rfl) rfl (A1 (C3 fun u14 hu14=>sv rfl (sv rfl (sv rfl (bs hy1 fun v7 hv7 hy1=>B7 rfl rfl A3 (A6d _ _ _ _ hv7) (.inl rfl) (B0u (.sl _) (.arr 75 2 (List.map A5j ([v7]:List Signal))) rfl rfl (sp rfl rfl (sst rfl (gq rfl) [(di 0),(.sl (30,u10)),(.sl (44,u11)),(.sl (57,u14)),(.d .nilS)] rfl (A1 (I3 ?_)))))))))))))))
 cases hy1
 exact l_j ⟨((⟨30, .tail _ (.head _)⟩,u10),(⟨44, .head _⟩,u11),(⟨57, .head _⟩,u14)),(F7 ⟨.of rfl, .of rfl, .of rfl,trivial⟩ (sg rfl (B3 G_hit (.box (cv (.cons (.of (A2a (List.cons_ne_nil _ _)).symm) (.cons (.of (A2a (B7z (List.cons_ne_nil _ _))).symm) (.cons (.of (A2a (List.cons_ne_nil _ _)).symm) cw))))) (Q6 (gq rfl) (Q6 (gq rfl) (Q6 (gq rfl) trivial))))))⟩
 refine B4 (I3 ?_)
 cases hy1
 exact l_j ⟨((⟨30, .tail _ (.head _)⟩,u10),(⟨44, .head _⟩,u11),(⟨57, .head _⟩,0)),(F7 ⟨.of rfl, .of rfl, .of rfl,trivial⟩ (B3 G_hit (.of rfl) (B3 (gq rfl) (.box (cv (.cons (.of (A2a (List.cons_ne_nil _ _)).symm) (.cons (.of (A2a (List.cons_ne_nil _ _)).symm) cw)))) (Q6 (gq rfl) (Q6 (gq rfl) (V2 trivial))))))⟩
 refine lr (fun u15 hu15=>sv rfl (sv rfl (A1 (cc rfl hy1 (fun c5 hy1=> ?_) (fun c5 hy1=> ?_)))))
 refine C3 fun u16 hu16=>sv rfl (D3 (dl A2 [1,2]) rfl rfl (D3 (dl A2 [0,0,30000,0]) rfl rfl (bs hy1 fun v8 hv8 hy1=>B7 rfl rfl A3 (K7 _ _ _ _ _ hv8) (.inl rfl) (D3 (dl A2 [30000,0,60000,0]) rfl rfl (bs hy1 fun v9 hv9 hy1=>B7 rfl rfl (.cons (.refl _) (.cons (.refl _) (.cons DLe.nil A3))) (K7 _ _ _ _ _ hv9) (.inl rfl) (D3 (dl A2 [30000,0,54000,10000]) rfl rfl (bs hy1 fun v10 hv10 hy1=>B7 rfl rfl (.cons (.refl _) (.cons (.refl _) (.cons DLe.nil A3))) (K7 _ _ _ _ _ hv10) (.inl rfl) (B0u (.sl _) (.arr 40 5 (List.map A2v ([v8,v9,v10]:List Lane))) rfl (A3h A2v _ (fun _=>rfl) rfl rfl ⟨rfl,rfl,rfl,rfl,rfl,rfl,rfl,rfl,rfl,trivial⟩) (sp rfl rfl (sst rfl (gq rfl) [(di 0),(.sl (69,u16)),(.d .nilS),(.d .nilS),(.d .nilS)] rfl (A1 (I3 ?_))))))))))))
 cases hy1
 exact l_j ⟨((⟨69, .tail _ (.tail _ (.head _))⟩,u16),(⟨44, .head _⟩,0),(⟨57, .head _⟩,0)),(F7 ⟨.of rfl, .of rfl, .of rfl,trivial⟩ (sg rfl (B3 G_hit (.box (cv (.cons (.of (A2a (List.cons_ne_nil _ _)).symm) cw))) (Q6 (gq rfl) (V2 (V2 trivial))))))⟩
 refine lr (fun u17 hu17=>sv rfl (sv rfl (A1 (cc rfl hy1 (fun c6 hy1=> ?_) (fun c6 hy1=> ?_)))))
 refine lr (fun u18 hu18=>sv rfl (D3 (dl A2 [2]) rfl rfl (D3 (dl A2 [0,0,30000,0]) rfl rfl (bs hy1 fun v11 hv11 hy1=>B7 rfl rfl A3 (K7 _ _ _ _ _ hv11) (.inl rfl) (D3 (dl A2 [2]) rfl rfl (D3 (dl A2 [6000,(-10000),30000,0]) rfl rfl (bs hy1 fun v12 hv12 hy1=>B7 rfl rfl A3 (K7 _ _ _ _ _ hv12) (.inl rfl) (D3 (dl A2 [30000,0,60000,0]) rfl rfl (bs hy1 fun v13 hv13 hy1=>B7 rfl rfl (.cons (.refl _) (.cons (.refl _) (.cons DLe.nil A3))) (K7 _ _ _ _ _ hv13) (.inl rfl) (B0u (.sl _) (.arr 40 5 (List.map A2v ([v11,v12,v13]:List Lane))) rfl (A3h A2v _ (fun _=>rfl) rfl rfl ⟨rfl,rfl,rfl,rfl,rfl,rfl,rfl,rfl,rfl,trivial⟩) (sp rfl rfl (sst rfl (gq rfl) [(di 0),(.sl (82,u18)),(.d .nilS),(.d .nilS),(.d .nilS)] rfl (A1 (A7 (s0:=⟨T [(0,(.d _)),(2,(.ptr _ _)),(4,(.ptr _ _))],G [((2,u1),some (.box 28 _)),((4,u4),some (.box 28 _)),((82,u18),some _)]⟩) (sbr rfl rfl) ?_))))))))))))))
 refine C3 fun u19 hu19=>sv rfl (sv rfl (sv rfl (D3 (dl M9 [(Part.mk 0 25000 30000 1),(Part.mk 1 20000 26000 0),(Part.mk 2 0 5000 0)]) rfl (B6r M9 ([(Part.mk 0 25000 30000 1),(Part.mk 1 20000 26000 0),(Part.mk 2 0 5000 0)]:List Part) (fun _=>rfl) rfl rfl ⟨rfl,rfl,rfl,rfl,rfl,rfl,rfl,rfl,rfl,trivial⟩ (fun _=>rfl)) (sv rfl (B0u (.sl _) (.arr 69 2 (List.map Q8 ([(Zone.mk [(Part.mk 0 25000 30000 1),(Part.mk 1 20000 26000 0),(Part.mk 2 0 5000 0)] 0)]:List Zone))) rfl rfl (sp rfl rfl (sst rfl (gq rfl) [(di 0),(.sl (82,u18)),(.sl (89,u19)),(.d .nilS),(.d .nilS)] rfl (A1 (I3 ?_)))))))))
 cases hy1
 exact l_j ⟨((⟨82, .tail _ (.tail _ (.tail _ (.head _)))⟩,u18),(⟨89, .tail _ (.head _)⟩,u19),(⟨57, .head _⟩,0)),(F7 ⟨.of rfl, .of rfl, .of rfl,trivial⟩ (sg rfl (B3 G_hit (.box (cv (.cons (.of (A2a (List.cons_ne_nil _ _)).symm) (.cons (.of (A2a (List.cons_ne_nil _ _)).symm) cw)))) (Q6 (gq rfl) (Q6 (gq rfl) (V2 trivial))))))⟩
 refine lr (fun u20 hu20=>sv rfl (sv rfl (A1 (cc rfl hy1 (fun c7 hy1=> ?_) (fun c7 hy1=> ?_)))))
 refine lr (fun u21 hu21=>sv rfl (D3 (dl A2 [1]) rfl rfl (D3 (dl A2 [0,0,20000,0]) rfl rfl (bs hy1 fun v14 hv14 hy1=>B7 rfl rfl A3 (K7 _ _ _ _ _ hv14) (.inl rfl) (sv rfl (D3 (dl A2 [20000,0,50000,0]) rfl rfl (bs hy1 fun v15 hv15 hy1=>B7 rfl rfl (.cons (.refl _) (.cons (.refl _) (.cons DLe.nil A3))) (K7 _ _ _ _ _ hv15) (.inl rfl) (D3 (dl A2 [35000,(-8000),35000,8000]) rfl rfl (bs hy1 fun v16 hv16 hy1=>B7 rfl rfl (.cons (.refl _) (.cons (.refl _) (.cons DLe.nil A3))) (K7 _ _ _ _ _ hv16) (.inl rfl) (B0u (.sl _) (.arr 40 5 (List.map A2v ([v14,v15,v16]:List Lane))) rfl (A3h A2v _ (fun _=>rfl) rfl rfl ⟨rfl,rfl,rfl,rfl,rfl,rfl,rfl,rfl,rfl,trivial⟩) (sp rfl rfl (sst rfl (gq rfl) [(di 0),(.sl (102,u21)),(.d .nilS),(.d .nilS),(.d .nilS)] rfl (A1 (A7 (s0:=⟨T [(0,(.d _)),(2,(.ptr _ _)),(4,(.ptr _ _))],G [((2,u1),some (.box 28 _)),((4,u4),some (.box 28 _)),((102,u21),some _)]⟩) (sbr rfl rfl) ?_))))))))))))))
 refine C3 fun u22 hu22=>sv rfl (sv rfl (D3 (dl M9 [(Part.mk 1 14000 16000 0),(Part.mk 2 6000 10000 3)]) rfl rfl (sv rfl (B0u (.sl _) (.arr 69 2 (List.map Q8 ([(Zone.mk [(Part.mk 1 14000 16000 0),(Part.mk 2 6000 10000 3)] 0)]:List Zone))) rfl rfl (sp rfl rfl (sst rfl (gq rfl) [(di 0),(.sl (102,u21)),(.sl (108,u22)),(.d .nilS),(.d .nilS)] rfl (A1 (I3 ?_))))))))
 cases hy1
 exact l_j ⟨((⟨102, .tail _ (.tail _ (.tail _ (.tail _ (.head _))))⟩,u21),(⟨108, .tail _ (.tail _ (.head _))⟩,u22),(⟨57, .head _⟩,0)),(F7 ⟨.of rfl, .of rfl, .of rfl,trivial⟩ (sg rfl (B3 G_hit (.box (cv (.cons (.of (A2a (List.cons_ne_nil _ _)).symm) (.cons (.of (A2a (List.cons_ne_nil _ _)).symm) cw)))) (Q6 (gq rfl) (Q6 (gq rfl) (V2 trivial))))))⟩
 refine lr (fun u23 hu23=>sv rfl (sv rfl (A1 (cc rfl hy1 (fun c8 hy1=> ?_) (fun c8 hy1=> ?_)))))
 refine lr (fun u24 hu24=>sv rfl (D3 (dl A2 [1,2]) rfl rfl (D3 (dl A2 [0,0,20000,0]) rfl rfl (bs hy1 fun v17 hv17 hy1=>B7 rfl rfl A3 (K7 _ _ _ _ _ hv17) (.inl rfl) (D3 (dl A2 [20000,0,50000,0]) rfl rfl (bs hy1 fun v18 hv18 hy1=>B7 rfl rfl (.cons (.refl _) (.cons (.refl _) (.cons DLe.nil A3))) (K7 _ _ _ _ _ hv18) (.inl rfl) (D3 (dl A2 [20000,0,44000,10000]) rfl rfl (bs hy1 fun v19 hv19 hy1=>B7 rfl rfl (.cons (.refl _) (.cons (.refl _) (.cons DLe.nil A3))) (K7 _ _ _ _ _ hv19) (.inl rfl) (D3 (dl A2 [36000,(-12000),36000,18000]) rfl rfl (bs hy1 fun v20 hv20 hy1=>B7 rfl rfl (.cons (.refl _) (.cons (.refl _) (.cons DLe.nil A3))) (K7 _ _ _ _ _ hv20) (.inl rfl) (B0u (.sl _) (.arr 40 5 (List.map A2v ([v17,v18,v19,v20]:List Lane))) rfl (A3h A2v _ (fun _=>rfl) rfl rfl ⟨rfl,rfl,rfl,rfl,rfl,rfl,rfl,rfl,rfl,rfl,rfl,rfl,trivial⟩) (sp rfl rfl (sst rfl (gq rfl) [(di 0),(.sl (122,u24)),(.d .nilS),(.d .nilS),(.d .nilS)] rfl (A1 (A5 (A7 (s0:=⟨T [(0,(.d _)),(2,(.ptr _ _)),(4,(.ptr _ _))],G [((2,u1),some (.box 28 _)),((4,u4),some (.box 28 _)),((122,u24),some _)]⟩) (sbr rfl rfl) ?_))))))))))))))))
 refine C3 fun u25 hu25=>sv rfl (sv rfl (D3 (dl M9 [(Part.mk 1 14000 18000 1),(Part.mk 3 10000 14000 0)]) rfl rfl (sv rfl (sv rfl (sv rfl (D3 (dl M9 [(Part.mk 2 14000 21000 1),(Part.mk 3 14500 23000 0)]) rfl rfl (sv rfl (B0u (.sl _) (.arr 69 2 (List.map Q8 ([(Zone.mk [(Part.mk 1 14000 18000 1),(Part.mk 3 10000 14000 0)] 0),(Zone.mk [(Part.mk 2 14000 21000 1),(Part.mk 3 14500 23000 0)] 0)]:List Zone))) rfl rfl (sp rfl rfl (sst rfl (gq rfl) [(di 0),(.sl (122,u24)),(.sl (132,u25)),(.d .nilS),(.d .nilS)] rfl (A1 (lr (fun u26 hu26=>sv rfl (sv rfl (sv rfl (sv rfl (A1 (cc rfl hy1 (fun c9 hy1=> ?_) (fun c9 hy1=> ?_)))))))))))))))))))
 refine A5 (C6u fun u27 hu27=>B6j (.ptr _ _) rfl rfl (B6j (.sl _) rfl (A9w rfl G_hit rfl) (B6j (.ptr _ _) rfl rfl (B6j (.sl _) rfl (A9w rfl G_hit rfl) (bs hy1 fun v21 hv21 hy1=>B6j (.aptr _ _ _ _) rfl (A9x rfl rfl (gq rfl) hv21) (B6j (.aptr _ _ _ _) rfl rfl (B9d Q8 _ _ _ (0) _ (Zone.mk v21.Parts 1) [(i64 1)] rfl rfl rfl (gq rfl) hv21 (nl rfl) rfl (bs hy1 fun v22 hv22 hy1=>B6j (.aptr _ _ _ _) rfl (A9x rfl rfl G_hit hv22) (B6j (.aptr _ _ _ _) rfl rfl (B9d Q8 _ _ _ (1) _ (Zone.mk v22.Parts 2) [(i64 2)] rfl rfl rfl G_hit hv22 (nl rfl) rfl (C9k ⟨rfl,?_⟩)))))))))))
 refine A7 (s0:=⟨T [(0,(.d _)),(2,(.ptr _ _)),(4,(.ptr _ _))],G [((2,u1),some (.box 28 _)),((4,u4),some (.box 28 _)),((122,u24),some _),((132,u25),some _)]⟩) (sbr rfl rfl) ?_
 refine C3 fun u28 hu28=>sv rfl (sv rfl (sv rfl (bs hy1 fun v23 hv23 hy1=>B7 rfl rfl A3 (A6d _ _ _ _ hv23) (.inl rfl) (sv rfl (sv rfl (sv rfl (bs hy1 fun v24 hv24 hy1=>B7 rfl rfl A3 (A6d _ _ _ _ hv24) (.inl rfl) (B0u (.sl _) (.arr 75 2 (List.map A5j ([v23,v24]:List Signal))) rfl rfl (sp rfl rfl (sst rfl (gq rfl) [(di 0),(.sl (122,u24)),(.sl (132,u25)),(.sl (154,u28)),(.d .nilS)] rfl (A1 (I3 ?_))))))))))))
 cases hy1
 exact l_j ⟨((⟨122, .tail _ (.tail _ (.tail _ (.tail _ (.tail _ (.head _)))))⟩,u24),(⟨132, .tail _ (.tail _ (.tail _ (.head _)))⟩,u25),(⟨154, .tail _ (.head _)⟩,u28)),(F7 ⟨.of rfl, .of rfl, .of rfl,trivial⟩ (sg rfl (B3 G_hit (.box (cv (.cons (.of (A2a (List.cons_ne_nil _ _)).symm) (.cons (.of (A2a (B7z (B7z (List.cons_ne_nil _ _)))).symm) (.cons (.of (A2a (List.cons_ne_nil _ _)).symm) cw))))) (Q6 (gq rfl) (Q6 (gq rfl) (Q6 (gq rfl) trivial))))))⟩
 refine B4 (I3 ?_)
 cases hy1
 exact l_j ⟨((⟨122, .tail _ (.tail _ (.tail _ (.tail _ (.tail _ (.head _)))))⟩,u24),(⟨132, .tail _ (.tail _ (.tail _ (.head _)))⟩,u25),(⟨57, .head _⟩,0)),(F7 ⟨.of rfl, .of rfl, .of rfl,trivial⟩ (sg rfl (B3 G_hit (.box (cv (.cons (.of (A2a (List.cons_ne_nil _ _)).symm) (.cons (.of (A2a (List.cons_ne_nil _ _)).symm) cw)))) (Q6 (gq rfl) (Q6 (gq rfl) (V2 trivial))))))⟩
 refine B4 (I3 ?_)
 cases hy1
 exact l_j ⟨((⟨20, .head _⟩,0),(⟨44, .head _⟩,0),(⟨57, .head _⟩,0)),(F7 ⟨.of rfl, .of rfl, .of rfl,trivial⟩ (B3 G_hit (.of rfl) (sg rfl (V2 (V2 (V2 trivial))))))⟩
 rintro _ ⟨g1,q2⟩
 refine A7 q2 (lr (fun u29 hu29=>sv rfl (sv rfl (sv rfl (sp rfl rfl (sst rfl (gq rfl) [(di ((w64 (v1.tdiv 28)).tmod 5)),(oS y1.Lanes (g1.1.1.val,g1.1.2)),(oS y1.Zones (g1.2.1.1.val,g1.2.1.2)),(oS y1.Signals (g1.2.2.1.val,g1.2.2.2)),(.d .nilS)] rfl (A1 (A5 (lr (fun u30 hu30=>sv rfl (sv rfl (sv rfl (sv rfl (A1 (cc rfl h (fun c10 h=> ?_) (fun c10 h=> ?_))))))))))))))))
 refine C3 fun u31 hu31=>sv rfl (sv rfl (sv rfl (sv rfl (sv rfl (sv rfl (sv rfl (sv rfl (sv rfl (sv rfl (sv rfl (sv rfl (D3 (dl B1n [(Work.mk 0 10000 15000 ((w64 (v1.tdiv 5208)).tmod 40) (w64 (((w64 (v1.tdiv 5208)).tmod 40)+20)) (w64 (((w64 (v1.tdiv 208320)).tmod 3)*200)))]) rfl rfl (sp rfl rfl (sst rfl G_hit [(di ((w64 (v1.tdiv 28)).tmod 5)),(oS y1.Lanes (g1.1.1.val,g1.1.2)),(oS y1.Zones (g1.2.1.1.val,g1.2.1.2)),(oS y1.Signals (g1.2.2.1.val,g1.2.2.2)),(dl B1n [(Work.mk 0 10000 15000 ((w64 (v1.tdiv 5208)).tmod 40) (w64 (((w64 (v1.tdiv 5208)).tmod 40)+20)) (w64 (((w64 (v1.tdiv 208320)).tmod 3)*200)))])] rfl (A1 (A5 (A7 (s0:=⟨T [(2,(.ptr (2,u1) 0)),(4,(.ptr (4,u4) 0))],G [((2,u1),some (.box 28 [(di 0),(.d .nilS),(.d .nilS),(.d .nilS),(.d .nilS)])),((4,u4),some (.box 28 [(di ((w64 (v1.tdiv 28)).tmod 5)),(oS y1.Lanes (g1.1.1.val,g1.1.2)),(oS y1.Zones (g1.2.1.1.val,g1.2.1.2)),(oS y1.Signals (g1.2.2.1.val,g1.2.2.2)),(dl B1n [(Work.mk 0 10000 15000 ((w64 (v1.tdiv 5208)).tmod 40) (w64 (((w64 (v1.tdiv 5208)).tmod 40)+20)) (w64 (((w64 (v1.tdiv 208320)).tmod 3)*200)))])])),((g1.1.1.val,g1.1.2),oB 40 5 A2v y1.Lanes),((g1.2.1.1.val,g1.2.1.2),oB 69 2 Q8 y1.Zones),((g1.2.2.1.val,g1.2.2.2),oB 75 2 A5j y1.Signals)]⟩) (F7 ⟨.of rfl, .of rfl,trivial⟩ (sg rfl (B3 G_hit (.of rfl) (F9 (H6 (neL g1.1.1.property rfl) (H6 (neL g1.1.1.property rfl) (H6 (neL g1.1.1.property rfl) (H6 (neL g1.1.1.property rfl) G_hit)))) (F9 (H6 (neL g1.2.1.1.property rfl) (H6 (neL g1.2.1.1.property rfl) (H6 (neL g1.2.1.1.property rfl) (H6 (neL g1.2.1.1.property rfl) (H6 (C4s g1.2.1.1.property g1.1.1.property rfl) G_hit))))) (F9 (H6 (neL g1.2.2.1.property rfl) (H6 (neL g1.2.2.1.property rfl) (H6 (neL g1.2.2.1.property rfl) (H6 (neL g1.2.2.1.property rfl) (H6 (C4s g1.2.2.1.property g1.1.1.property rfl) (H6 (C4s g1.2.2.1.property g1.2.1.1.property rfl) G_hit)))))) trivial)))))) ?_)))))))))))))))))
 refine C3 fun u32 hu32=>D3 (A3t [(di ((w64 (v1.tdiv 28)).tmod 5)),(oS y1.Lanes (g1.1.1.val,g1.1.2)),(oS y1.Zones (g1.2.1.1.val,g1.2.1.2)),(oS y1.Signals (g1.2.2.1.val,g1.2.2.2)),(dl B1n [(Work.mk 0 10000 15000 ((w64 (v1.tdiv 5208)).tmod 40) (w64 (((w64 (v1.tdiv 5208)).tmod 40)+20)) (w64 (((w64 (v1.tdiv 208320)).tmod 3)*200)))])]) rfl (B9 rfl (gq rfl) rfl rfl) (A99 _ _ _ _ _ (A3f _) rfl rfl G_hit (nl rfl) [(di ((w64 (v1.tdiv 28)).tmod 5)),(oS y1.Lanes (g1.1.1.val,g1.1.2)),(oS y1.Zones (g1.2.1.1.val,g1.2.1.2)),(oS y1.Signals (g1.2.2.1.val,g1.2.2.2)),(dl B1n [(Work.mk 0 10000 15000 ((w64 (v1.tdiv 5208)).tmod 40) (w64 (((w64 (v1.tdiv 5208)).tmod 40)+20)) (w64 (((w64 (v1.tdiv 208320)).tmod 3)*200)))])] rfl (A1 (C1 ?_)))
 cases h
 exact A8 (.inr rfl) (D0 (Z9 rfl G_hit (nl rfl) rfl) (A9v (rD (M5 (A76 (H6 (neL g1.1.1.property rfl) (H6 (neL g1.1.1.property rfl) (H6 (neL g1.1.1.property rfl) G_hit)))) (M5 (A76 (H6 (neL g1.2.1.1.property rfl) (H6 (neL g1.2.1.1.property rfl) (H6 (neL g1.2.1.1.property rfl) (H6 (C4s g1.2.1.1.property g1.1.1.property rfl) G_hit))))) (M5 (A76 (H6 (neL g1.2.2.1.property rfl) (H6 (neL g1.2.2.1.property rfl) (H6 (neL g1.2.2.1.property rfl) (H6 (C4s g1.2.2.1.property g1.1.1.property rfl) (H6 (C4s g1.2.2.1.property g1.2.1.1.property rfl) G_hit)))))) (rD M4))))))) (.agg (ca rfl (.cons ⟨A75,rfl⟩ (.cons ⟨A75,rfl⟩ (.cons ⟨A75,rfl⟩ (cz rfl))))))
 refine B4 (lr (fun u33 hu33=>D3 (A3t [(di ((w64 (v1.tdiv 28)).tmod 5)),(oS y1.Lanes (g1.1.1.val,g1.1.2)),(oS y1.Zones (g1.2.1.1.val,g1.2.1.2)),(oS y1.Signals (g1.2.2.1.val,g1.2.2.2)),(.d .nilS)]) rfl (B9 rfl G_hit rfl rfl) (A99 _ _ _ _ _ (A3f _) rfl rfl (gq rfl) (nl rfl) [(di ((w64 (v1.tdiv 28)).tmod 5)),(oS y1.Lanes (g1.1.1.val,g1.1.2)),(oS y1.Zones (g1.2.1.1.val,g1.2.1.2)),(oS y1.Signals (g1.2.2.1.val,g1.2.2.2)),(.d .nilS)] rfl (A1 (C1 ?_)))))
 cases h
 exact A8 (.inr rfl) (D0 (Z9 rfl G_hit (nl rfl) rfl) (A9v (rD (M5 (A76 (H6 (neL g1.1.1.property rfl) (H6 (neL g1.1.1.property rfl) (H6 (neL g1.1.1.property rfl) (H6 (neL g1.1.1.property rfl) G_hit))))) (M5 (A76 (H6 (neL g1.2.1.1.property rfl) (H6 (neL g1.2.1.1.property rfl) (H6 (neL g1.2.1.1.property rfl) (H6 (neL g1.2.1.1.property rfl) (H6 (C4s g1.2.1.1.property g1.1.1.property rfl) G_hit)))))) (M5 (A76 (H6 (neL g1.2.2.1.property rfl) (H6 (neL g1.2.2.1.property rfl) (H6 (neL g1.2.2.1.property rfl) (H6 (neL g1.2.2.1.property rfl) (H6 (C4s g1.2.2.1.property g1.1.1.property rfl) (H6 (C4s g1.2.2.1.property g1.2.1.1.property rfl) G_hit))))))) (rD M4))))))) (.agg (ca rfl (.cons ⟨A75,rfl⟩ (.cons ⟨A75,rfl⟩ (.cons ⟨A75,rfl⟩ (.cons ⟨DLe.nil,rfl⟩ .nil))))))
noncomputable def A7i (p1:Int)(p2:Int):Option Int:=
  (C26 p1 p2).bind fun v1=>cond (decide (v1<0)) (some (w64 (v1+p2))) (some v1)
theorem B6u (p1:Int)(p2:Int)(r:Int)(h:A7i p1 p2=some r):PCall Try.prog 11 [(i64 p1),(i64 p2)] (i64 r):=by
 refine E1 (fk Try.func11 Try.ntmps11 m0 (by with_unfolding_all rfl)) (nl rfl) ?_
 unfold A7i at h
 refine A7 (s0:=⟨T [(0,(.d _)),(1,(.d _))],G []⟩) (sbr rfl rfl) ?_
 refine lr (fun u1 hu1=>sv rfl (A1 (lr (fun u2 hu2=>sv rfl (sv rfl (bs h fun v1 hv1 h=>sd rfl (C29 rfl rfl hv1) (sv rfl (A1 (A5 (lr (fun u3 hu3=>sv rfl (sv rfl (A1 (cc rfl h (fun c1 h=> ?_) (fun c1 h=> ?_)))))))))))))))
 refine C3 fun u4 hu4=>sv rfl (sv rfl (sv rfl (sv rfl (A1 (lr (fun u5 hu5=>sv rfl (sv rfl (A1 (C1 ?_)))))))))
 cases h
 exact A8 (.inr rfl) (D0 (C2 rfl) M3) (.refl _)
 refine B4 (lr (fun u6 hu6=>sv rfl (sv rfl (A1 (C1 ?_)))))
 cases h
 exact A8 (.inr rfl) (D0 (C2 rfl) M3) (.refl _)
noncomputable def L9 (p1:Int)(p2:Int)(p3:Int):Option Bool:=
  some ((decide (p2≤p1))&& (decide (p1≤p3)))
theorem N8 (p1:Int)(p2:Int)(p3:Int)(r:Bool)(h:L9 p1 p2 p3=some r):PCall Try.prog 42 [(i64 p1),(i64 p2),(i64 p3)] (bo r):=by
 refine E1 (fk Try.func42 Try.ntmps42 m0 (by with_unfolding_all rfl)) (nl rfl) ?_
 unfold L9 at h
 refine A7 (s0:=⟨T [(0,(.d _)),(1,(.d _)),(2,(.d _))],G []⟩) (sbr rfl rfl) ?_
 refine lr (fun u1 hu1=>sv rfl (A1 (lr (fun u2 hu2=>sv rfl (sv rfl (sv rfl (sv rfl (gt rfl (fun _=>rfl) (gt rfl (fun _=>rfl) (gt rfl (fun w3=>(A5i (A6 w3) (A6 w3) rfl)) (sa rfl rfl rfl (sv rfl (A1 (C1 ?_))))))))))))))
 cases h
 exact A8 (.inr rfl) (D0 (C2 rfl) M3) (.refl _)
noncomputable def M0 (p1:RoadsCheck):Option Int:=
  (L9 p1.Map_.Version 0 1099511627776).bind fun v1=>cond (!v1) (some 2) (cond ((p1.Map_.Lanes.length:Int)==0) (some 6) (cond ((((decide ((p1.Map_.Lanes.length:Int)>12))||(decide ((p1.Map_.Zones.length:Int)>12)))||(decide ((p1.Map_.Signals.length:Int)>4)))||(decide ((p1.Map_.Works.length:Int)>8))) (some 8) (some 0)))
theorem A77 (p1:RoadsCheck)(r:Int)(h:M0 p1=some r):PCall Try.prog 43 [(.agg (A12 p1.Map_))] (i64 r):=by
 refine E1 (fk Try.func43 Try.ntmps43 m0 (by with_unfolding_all rfl)) (nl rfl) ?_
 unfold M0 at h
 refine A7 (s0:=⟨T [(0,(.d _))],G []⟩) (sbr rfl rfl) ?_
 refine lr (fun u1 hu1=>sn rfl rfl (sv rfl (A1 (A5 (A4 (lr (fun u2 hu2=>sp rfl rfl (sp rfl rfl (sl rfl G_hit rfl (bs h fun v1 hv1 h=>B7 rfl rfl A3 (N8 _ _ _ _ hv1) (.inl rfl) (D3 (.d (bo (!v1))) rfl rfl (sv rfl (A1 (cc rfl h (fun c1 h=> ?_) (fun c1 h=> ?_)))))))))))))))
 refine lr (fun u3 hu3=>sv rfl (A1 (C1 ?_)))
 cases h
 exact A8 (.inr rfl) (D0 (C2 rfl) M3) (.refl _)
 refine lr (fun u4 hu4=>sp rfl rfl (sp rfl rfl (sl rfl G_hit rfl (sd rfl (I8 rfl) (sv rfl (sv rfl (A1 (cc rfl h (fun c2 h=> ?_) (fun c2 h=> ?_)))))))))
 refine lr (fun u5 hu5=>sv rfl (A1 (C1 ?_)))
 cases h
 exact A8 (.inr rfl) (D0 (C2 rfl) M3) (.refl _)
 refine lr (fun u6 hu6=>sp rfl rfl (sp rfl rfl (sl rfl G_hit rfl (sd rfl (I8 rfl) (sv rfl (sv rfl (gp rfl (A39 rfl) (fun _=>rfl) ?_)))))))
 refine A1i _ (.ptr _ _) rfl (A39 rfl) (fun w2=>(by simp only [A6 w2];rfl)) ?_
 refine gf rfl (vl rfl G_hit rfl) (gf rfl (fun w4=>(I8 (A6 w4))) (gf rfl (vb rfl rfl rfl) (sd rfl (A8s rfl rfl (fun hc=>A6 (A1h hc))) (sv rfl (gp rfl (A39 rfl) (fun _=>rfl) ?_)))))
 refine A1i _ (.ptr _ _) rfl (A39 rfl) (fun w7=>(by simp only [A6 w7];rfl)) ?_
 refine gf rfl (vl rfl G_hit rfl) (gf rfl (fun w9=>(I8 (A6 w9))) (gf rfl (vb rfl rfl rfl) (sd rfl (A8s rfl rfl (fun hc=>A6 (A1h hc))) (sv rfl (gp rfl (A39 rfl) (fun _=>rfl) ?_)))))
 refine A1i _ (.ptr _ _) rfl (A39 rfl) (fun w12=>(by simp only [A6 w12];rfl)) ?_
 refine gf rfl (vl rfl G_hit rfl) (gf rfl (fun w14=>(I8 (A6 w14))) (gf rfl (vb rfl rfl rfl) (sd rfl (A8s rfl rfl (fun hc=>A6 (A1h hc))) (sv rfl (A1 (cc rfl h (fun c3 h=> ?_) (fun c3 h=> ?_)))))))
 refine A5 (A7 (s0:=⟨T [],G []⟩) (sbr rfl rfl) ?_)
 refine C3 fun u7 hu7=>sv rfl (A1 (C1 ?_))
 cases h
 exact A8 (.inr rfl) (D0 (C2 rfl) M3) (.refl _)
 refine B4 (I3 (A5 (A7 (s0:=⟨T [],G []⟩) (sbr rfl rfl) ?_)))
 refine C3 fun u8 hu8=>sv rfl (A1 (C1 ?_))
 cases h
 exact A8 (.inr rfl) (D0 (C2 rfl) M3) (.refl _)
noncomputable def Y9 (p1:Int):Option (Int×Int×Int):=
  cond ((decide (p1<0))||(decide (p1≥4))) (some (0,0,0)) ((F1 ([(0,0,0),(2000,30,90),(1000,20,60),(300,100,300)]:List (Int×Int×Int)) p1).bind fun v1=>some (v1.1,v1.2.1,v1.2.2))
theorem A7j (p1:Int)(r:(Int×Int×Int))(h:Y9 p1=some r):PCall Try.prog 24 [(i64 p1)] (.tup [(i64 r.1),(i64 r.2.1),(i64 r.2.2)]):=by
 refine E1 (fk Try.func24 Try.ntmps24 m0 (by with_unfolding_all rfl)) (nl rfl) ?_
 unfold Y9 at h
 refine A7 (s0:=⟨T [(0,(.d _))],G []⟩) (sbr rfl rfl) ?_
 refine lr (fun u1 hu1=>sv rfl (sv rfl (sv rfl (A1 (lr (fun u2 hu2=>sv rfl (sv rfl (sv rfl (sv rfl (sn rfl rfl (sst rfl G_hit [(di 0),(di 0),(di 0),(di 2000),(di 30),(di 90),(di 1000),(di 20),(di 60),(di 300),(di 100),(di 300)] rfl (A1 (A5 (lr (fun u3 hu3=>sv rfl (sv rfl (sv rfl (gf rfl (fun _=>rfl) (gf rfl (vb rfl rfl rfl) (sd rfl (A8s rfl rfl (fun hc=>A6 (A1h hc))) (A1 (cc rfl h (fun c1 h=> ?_) (fun c1 h=> ?_)))))))))))))))))))))))
 refine lr (fun u4 hu4=>sv rfl (sv rfl (sv rfl (A1 (C1 ?_)))))
 cases h
 exact A8 (.inr rfl) (C4j (C2 rfl) (C2 rfl) (C2 rfl) M3 M3 M3) (.refl _)
 refine B4 (lr (fun u5 hu5=>sv rfl (bs h fun v1 hv1 h=>sp rfl (B30 rfl rfl hv1 rfl) (sd rfl (C4u (f:=C9t) rfl G_hit hv1 (fun _=>rfl) rfl rfl) (sn rfl rfl (sst rfl G_hit [(di v1.1),(di v1.2.1),(di v1.2.2)] rfl (A1 (A5 (A7 (s0:=⟨T [(6,(.ptr _ _))],G [((6,u5),some (.box 103 _))]⟩) (sbr rfl rfl) ?_)))))))))
 refine A21 rfl fun u6 hu6=>sp rfl rfl (sl rfl G_hit rfl (sp rfl rfl (sl rfl G_hit rfl (sp rfl rfl (sl rfl G_hit rfl (sv rfl (sv rfl (sv rfl (A1 (C1 ?_))))))))))
 cases h
 exact A8 (.inr rfl) (C4j (C2 rfl) (C2 rfl) (C2 rfl) M3 M3 M3) (.refl _)
noncomputable def U1 (p1:(List Spot))(x1:Int):Option (Stp Int (Sum Unit Bool)):=
  cond (decide (x1< (p1.length:Int))) ((F1 p1 x1).bind fun v1=>cond ((decide ((mm2 false v1.X v1.Y)< (-16777216)))||(decide ((mm2 true v1.X v1.Y)>16777216))) (some (.out (.inr false))) (some (.go (w64 (x1+1))))) (some (.out (.inl ())))
noncomputable def A2w (p1:(List Spot)):Option Bool:=
  thenS (loop (U1 p1) 0) (fun _=>some true) (fun r=>some r)
theorem B5k (p1:(List Spot))(r:Bool)(h:A2w p1=some r):PCall Try.prog 103 [(.list (List.map A3v p1))] (bo r):=by
 refine E1 (fk Try.func103 Try.ntmps103 m0 (by with_unfolding_all rfl)) (nl rfl) ?_
 unfold A2w at h
 refine A7 (s0:=⟨T [(0,(.d _))],G []⟩) (sbr rfl rfl) ?_
 refine lr (fun u1 hu1=>sv rfl (A1 (A5 (lr (fun u2 hu2=>sv rfl (sd rfl (I8 rfl) (sv rfl (A1 (js h fun z1 hz1 h=>F8 (fun s=> ∃(y1:Unit) (g1:Unit),z1= .inl y1∧Sb ⟨T [],G []⟩ s) ?_ ?_)))))))))
 refine A4 (G5 (U1 p1) (fun (x1:Int) (g2:Unit)=>⟨T [(5,(dl A3v p1)),(6,(di (p1.length:Int))),(7,(di x1))],G []⟩) 0 () _ hz1 (sbr rfl rfl) ?_)
 intro x1 g2 z2 hz2 ez2
 unfold U1 at hz2
 refine lr (fun u3 hu3=>sv rfl (A1 (A5 (cc rfl hz2 (fun c1 hz2=> ?_) (fun c1 hz2=> ?_)))))
 refine B4 (A5 (A4 (lr (fun u4 hu4=>bs hz2 fun v1 hv1 hz2=>sd rfl (K6 rfl rfl hv1 rfl) (sd rfl (G1 rfl hv1 rfl rfl) (sn rfl rfl (sst rfl G_hit [(di v1.X),(di v1.Y)] rfl (A1 (lr (fun u5 hu5=>sp rfl rfl (sl rfl G_hit rfl (sp rfl rfl (sl rfl G_hit rfl (sv rfl (sv rfl (sv rfl (gp rfl (A39 rfl) (fun _=>rfl) (gf rfl (vl rfl G_hit rfl) (gp rfl (A39 rfl) (fun _=>rfl) (gf rfl (vl rfl G_hit rfl) ?_))))))))))))))))))))
 refine gf rfl (fun w5=>(by simp only [A6 w5];rfl)) ?_
 refine gf rfl (vb rfl rfl rfl) (sd rfl (A8s rfl rfl (fun hc=>A6 (A1h hc))) (A1 (cc rfl hz2 (fun c2 hz2=> ?_) (fun c2 hz2=> ?_))))
 refine A5 (A7 (s0:=⟨T [],G []⟩) (sbr rfl rfl) ?_)
 refine C3 fun u6 hu6=>sv rfl (A1 (C1 ?_))
 cases hz2
 obtain rfl:=ez2 _ rfl
 refine ⟨nofun,F2 ?_⟩
 rw [Sum.elim_inr]at h
 cases h
 exact A8 (.inr rfl) (D0 (C2 rfl) M3) (.refl _)
 refine B4 (I3 (A7 (s0:=⟨T [(5,(.d _)),(6,(.d _)),(7,(.d _))],G []⟩) (sbr rfl rfl) ?_))
 refine C3 fun u7 hu7=>sv rfl (sv rfl (A1 (L6 ?_)))
 cases hz2
 exact ⟨rfl,(),(sbr rfl rfl)⟩
 refine E3 rfl ?_
 cases hz2
 obtain rfl:=ez2 _ rfl
 refine ⟨nofun,D7 rfl (l_j ?_)⟩
 exact ⟨_,(),rfl,(sbr rfl rfl)⟩
 rintro _ ⟨y1,g1,rfl,q1⟩
 rw [Sum.elim_inl]at h
 refine A7 q1 (lr (fun u8 hu8=>sv rfl (A1 (C1 ?_))))
 cases h
 exact A8 (.inr rfl) (D0 (C2 rfl) M3) (.refl _)
noncomputable def A22 (p1:Spot)(p2:Spot):Option CurveVector:=
  some (CurveVector.mk (w64 (p2.X - p1.X)) (w64 (p2.Y - p1.Y)))
theorem B00 (p1:Spot)(p2:Spot)(r:CurveVector)(h:A22 p1 p2=some r):PCall Try.prog 104 [(.agg [(i64 p1.X),(i64 p1.Y)]),(.agg [(i64 p2.X),(i64 p2.Y)])] (.agg [(i64 r.x),(i64 r.y)]):=by
 refine E1 (fk Try.func104 Try.ntmps104 m0 (by with_unfolding_all rfl)) (nl rfl) ?_
 unfold A22 at h
 refine A7 (s0:=⟨T [(0,(.d _)),(1,(.d _))],G []⟩) (sbr rfl rfl) ?_
 refine lr (fun u1 hu1=>sn rfl rfl (sn rfl rfl (sn rfl rfl (A1 (lr (fun u2 hu2=>sp rfl rfl (sl rfl (gq rfl) rfl (sp rfl rfl (sl rfl (gq rfl) rfl (sv rfl (sp rfl rfl (sl rfl (gq rfl) rfl (sp rfl rfl (sl rfl (gq rfl) rfl (sv rfl (sv rfl (sst rfl G_hit [(di (w64 (p2.X - p1.X))),(di (w64 (p2.Y - p1.Y)))] rfl (A1 (C1 ?_)))))))))))))))))))
 cases h
 exact A8 (.inr rfl) (D0 (Z9 rfl G_hit (nl rfl) rfl) M3) (.refl _)
noncomputable def O4 (p1:CurveVector)(p2:CurveVector):Option Int:=
  some (w64 ((w64 (p1.x*p2.x))+ (w64 (p1.y*p2.y))))
theorem A1v (p1:CurveVector)(p2:CurveVector)(r:Int)(h:O4 p1 p2=some r):PCall Try.prog 106 [(.agg [(i64 p1.x),(i64 p1.y)]),(.agg [(i64 p2.x),(i64 p2.y)])] (i64 r):=by
 refine E1 (fk Try.func106 Try.ntmps106 m0 (by with_unfolding_all rfl)) (nl rfl) ?_
 unfold O4 at h
 refine A7 (s0:=⟨T [(0,(.d _)),(1,(.d _))],G []⟩) (sbr rfl rfl) ?_
 refine lr (fun u1 hu1=>sn rfl rfl (sn rfl rfl (sv rfl (A1 (lr (fun u2 hu2=>sp rfl rfl (sl rfl (gq rfl) rfl (sp rfl rfl (sl rfl G_hit rfl (sv rfl (sp rfl rfl (sl rfl (gq rfl) rfl (sp rfl rfl (sl rfl G_hit rfl (sv rfl (sv rfl (sv rfl (A1 (C1 ?_)))))))))))))))))))
 cases h
 exact A8 (.inr rfl) (D0 (C2 rfl) M3) (.refl _)
noncomputable def Z3 (p1:Int)(x1:(Int×Int)):Option (Stp (Int×Int) Int):=
  cond (decide (x1.1<x1.2)) (cond (decide ((w64 ((w64 ((w64 (x1.1+x1.2)).tdiv 2))* (w64 ((w64 (x1.1+x1.2)).tdiv 2))))<p1)) (some (.go ((w64 ((w64 ((w64 (x1.1+x1.2)).tdiv 2))+1)),x1.2))) (some (.go (x1.1,(w64 ((w64 (x1.1+x1.2)).tdiv 2)))))) (some (.out x1.1))
noncomputable def A14 (p1:Int):Option (Int×Bool):=
  (loop (Z3 p1) (0,67108864)).bind fun y1=>some (y1,((w64 (y1*y1))==p1))
theorem B01 (p1:Int)(r:(Int×Bool))(h:A14 p1=some r):PCall Try.prog 105 [(i64 p1)] (.tup [(i64 r.1),(bo r.2)]):=by
 refine E1 (fk Try.func105 Try.ntmps105 m0 (by with_unfolding_all rfl)) (nl rfl) ?_
 unfold A14 at h
 refine A7 (s0:=⟨T [(0,(.d _))],G []⟩) (sbr rfl rfl) ?_
 refine lr (fun u1 hu1=>sv rfl (sv rfl (A1 (lr (fun u2 hu2=>sv rfl (sv rfl (A1 (A5 (bs h fun y1 hy1 h=>F8 (fun s=> ∃g1:Unit,Sb ⟨T [(0,(di p1)),(4,(di y1))],G []⟩ s) ?_ ?_)))))))))
 refine A4 (G5 (Z3 p1) (fun (x1:(Int×Int)) (g2:Unit)=>⟨T [(0,(di p1)),(4,(di x1.1)),(5,(di x1.2))],G []⟩) (0,67108864) () _ hy1 (sbr rfl rfl) ?_)
 intro x1 g2 z1 hz1 ez1
 unfold Z3 at hz1
 refine A5 (lr (fun u3 hu3=>sv rfl (sv rfl (sv rfl (A1 (cc rfl hz1 (fun c1 hz1=> ?_) (fun c1 hz1=> ?_)))))))
 refine B4 (A4 (lr (fun u4 hu4=>sv rfl (sv rfl (sv rfl (sv rfl (sv rfl (A1 (lr (fun u5 hu5=>sv rfl (sv rfl (sv rfl (sv rfl (sv rfl (A1 (cc rfl hz1 (fun c2 hz1=> ?_) (fun c2 hz1=> ?_)))))))))))))))))
 refine C3 fun u6 hu6=>sv rfl (sv rfl (sv rfl (A1 (I3 (L6 ?_)))))
 cases hz1
 exact ⟨rfl,(),(sbr rfl rfl)⟩
 refine C3 fun u7 hu7=>sv rfl (sv rfl (A1 (I3 (L6 ?_))))
 cases hz1
 exact ⟨rfl,(),(sbr rfl rfl)⟩
 refine E3 rfl ?_
 cases hz1
 obtain rfl:=ez1 _ rfl
 refine ⟨nofun,D7 rfl (l_j ?_)⟩
 exact ⟨(),(sbr rfl rfl)⟩
 rintro _ ⟨g1,q1⟩
 refine A7 q1 (lr (fun u8 hu8=>sv rfl (sv rfl (sv rfl (sv rfl (sv rfl (sv rfl (sv rfl (sv rfl (A1 (C1 ?_)))))))))))
 cases h
 exact A8 (.inr rfl) (C6p (C2 rfl) (C2 rfl) M3 M3) (.refl _)
noncomputable def R2 (p1:Curve)(x1:(Int×CurveVector)):Option (Stp (Int×CurveVector) (Sum Unit Int)):=
  cond (decide (x1.1< (w64 ((p1.Pts.length:Int) - 1)))) ((F1 p1.Pts x1.1).bind fun v2=>(F1 p1.Pts (w64 (x1.1+1))).bind fun v3=>(A22 v2 v3).bind fun v4=>(O4 v4 v4).bind fun v5=>(A14 v5).bind fun v6=>cond (!v6.2) (some (.out (.inr 3))) (cond ((decide (v6.1<1000))||(decide (v6.1>1048576))) (some (.out (.inr 2))) (((cond (decide (x1.1>0)) (O4 x1.2 v4) (some default))).bind fun v7=>cond ((decide (x1.1>0))&& (decide (v7≤0))) (some (.out (.inr 12))) (some (.go ((w64 (x1.1+1)),v4)))))) (some (.out (.inl ())))
noncomputable def A0e (p1:Curve):Option Int:=
  cond (decide ((p1.Pts.length:Int)<2)) (some 6) (cond (decide ((p1.Pts.length:Int)>16)) (some 5) ((A2w p1.Pts).bind fun v1=>cond (!v1) (some 2) (thenS (loop (R2 p1) (0,(CurveVector.mk 0 0))) (fun _=>some 0) (fun r=>some r))))
theorem A8t (p1:Curve)(r:Int)(h:A0e p1=some r):PCall Try.prog 74 [(.agg [(.list (List.map A3v p1.Pts))])] (i64 r):=by
 refine E1 (fk Try.func74 Try.ntmps74 m0 (by with_unfolding_all rfl)) (nl rfl) ?_
 unfold A0e at h
 refine A7 (s0:=⟨T [(0,(.d _))],G []⟩) (sbr rfl rfl) ?_
 refine lr (fun u1 hu1=>sn rfl rfl (sv rfl (A1 (A5 (A4 (lr (fun u2 hu2=>sp rfl rfl (sl rfl G_hit rfl (sd rfl (I8 rfl) (sv rfl (sv rfl (A1 (cc rfl h (fun c1 h=> ?_) (fun c1 h=> ?_))))))))))))))
 refine lr (fun u3 hu3=>sv rfl (A1 (C1 ?_)))
 cases h
 exact A8 (.inr rfl) (D0 (C2 rfl) M3) (.refl _)
 refine lr (fun u4 hu4=>sp rfl rfl (sl rfl G_hit rfl (sd rfl (I8 rfl) (sv rfl (sv rfl (A1 (cc rfl h (fun c2 h=> ?_) (fun c2 h=> ?_))))))))
 refine lr (fun u5 hu5=>sv rfl (A1 (C1 ?_)))
 cases h
 exact A8 (.inr rfl) (D0 (C2 rfl) M3) (.refl _)
 refine lr (fun u6 hu6=>sp rfl rfl (sl rfl G_hit rfl (bs h fun v1 hv1 h=>B7 rfl rfl A3 (B5k _ _ hv1) (.inl rfl) (D3 (.d (bo (!v1))) rfl rfl (sv rfl (A1 (cc rfl h (fun c3 h=> ?_) (fun c3 h=> ?_))))))))
 refine lr (fun u7 hu7=>sv rfl (A1 (C1 ?_)))
 cases h
 exact A8 (.inr rfl) (D0 (C2 rfl) M3) (.refl _)
 refine B4 (I3 (lr (fun u8 hu8=>sn rfl rfl (A1 (A5 (lr (fun u9 hu9=>sp rfl rfl (sl rfl (gq rfl) rfl (sd rfl (I8 rfl) (sv rfl (sv rfl (A1 (js h fun z1 hz1 h=>F8 (fun s=> ∃(y1:Unit) (g1:Unit),z1= .inl y1∧Sb ⟨T [],G []⟩ s) ?_ ?_)))))))))))))
 refine A4 (G5 (R2 p1) (fun (x1:(Int×CurveVector)) (g2:Unit)=>⟨T [(1,(.ptr (1,u1) 0)),(3,(.ptr (3,u8) 0)),(26,(di (w64 ((p1.Pts.length:Int) - 1)))),(27,(di x1.1))],G [((1,u1),some (.box 37 [(dl A3v p1.Pts)])),((3,u8),some (.box 135 [(di x1.2.x),(di x1.2.y)]))]⟩) (0,(CurveVector.mk 0 0)) () _ hz1 (sbr rfl rfl) ?_)
 intro x1 g2 z2 hz2 ez2
 unfold R2 at hz2
 refine lr (fun u10 hu10=>sv rfl (A1 (A5 (cc rfl hz2 (fun c4 hz2=> ?_) (fun c4 hz2=> ?_)))))
 refine B4 (A5 (A4 (lr (fun u11 hu11=>sv rfl (sv rfl (A1 (A5 (A21 rfl fun u12 hu12=>sp rfl rfl (sl rfl G_hit rfl (sv rfl (bs hz2 fun v2 hv2 hz2=>sd rfl (K6 rfl rfl hv2 rfl) (sd rfl (G1 rfl hv2 rfl rfl) (sp rfl rfl (sl rfl G_hit rfl (sv rfl (sv rfl (bs hz2 fun v3 hv3 hz2=>sd rfl (K6 rfl rfl hv3 rfl) (sd rfl (G1 rfl hv3 rfl rfl) (bs hz2 fun v4 hv4 hz2=>B7 rfl rfl A3 (B00 _ _ _ hv4) (.inl rfl) (sn rfl rfl (sst rfl G_hit [(di v4.x),(di v4.y)] rfl (A1 (A5 (A7 (s0:=⟨T [(1,(.ptr _ _)),(3,(.ptr _ _)),(4,(.d _)),(5,(.ptr _ _)),(26,(.d _)),(27,(.d _))],G [((1,u1),some (.box 37 _)),((3,u8),some (.box 135 _)),((5,u12),some (.box 135 _))]⟩) (sbr rfl rfl) ?_))))))))))))))))))))))))
 refine C3 fun u13 hu13=>sd rfl (B9 rfl (gq rfl) rfl rfl) (sd rfl (B9 rfl (gq rfl) rfl rfl) (bs hz2 fun v5 hv5 hz2=>B7 rfl rfl A3 (A1v _ _ _ hv5) (.inl rfl) (bs hz2 fun v6 hv6 hz2=>B7 rfl rfl A3 (B01 _ _ hv6) (.inl rfl) (sv rfl (sv rfl (sv rfl (sv rfl (sv rfl (A1 (A5 (A4 (lr (fun u14 hu14=>sv rfl (D3 (.d (bo (!v6.2))) rfl rfl (sv rfl (A1 (cc rfl hz2 (fun c5 hz2=> ?_) (fun c5 hz2=> ?_))))))))))))))))))
 refine lr (fun u15 hu15=>sv rfl (A1 (C1 ?_)))
 cases hz2
 obtain rfl:=ez2 _ rfl
 refine ⟨nofun,F2 ?_⟩
 rw [Sum.elim_inr]at h
 cases h
 exact A8 (.inr rfl) (D0 (C2 rfl) M3) (.refl _)
 refine lr (fun u16 hu16=>sv rfl (sv rfl (sv rfl (gf rfl (fun _=>rfl) (gf rfl (vb rfl rfl rfl) (sd rfl (A8s rfl rfl (fun hc=>A6 (A1h hc))) (sv rfl (A1 (cc rfl hz2 (fun c6 hz2=> ?_) (fun c6 hz2=> ?_))))))))))
 refine A5 (A7 (s0:=⟨T [],G []⟩) (sbr rfl rfl) ?_)
 refine C3 fun u17 hu17=>sv rfl (A1 (C1 ?_))
 cases hz2
 obtain rfl:=ez2 _ rfl
 refine ⟨nofun,F2 ?_⟩
 rw [Sum.elim_inr]at h
 cases h
 exact A8 (.inr rfl) (D0 (C2 rfl) M3) (.refl _)
 refine A5 (A7 (s0:=⟨T [(1,(.ptr _ _)),(3,(.ptr _ _)),(4,(.d _)),(5,(.ptr _ _)),(26,(.d _)),(27,(.d _))],G [((1,u1),some (.box 37 _)),((3,u8),some (.box 135 _)),((5,u12),some (.box 135 _))]⟩) (sbr rfl rfl) ?_)
 refine C3 fun u18 hu18=>sv rfl (sv rfl (sv rfl (gt rfl (fun w3=>(B9 rfl (gq rfl) rfl rfl)) (gt rfl (fun w4=>(B9 rfl (gq rfl) rfl rfl)) (bs hz2 fun v7 hv7 hz2=> ?_)))))
 refine V3 _ (i64 v7) (A38 rfl) (fun w5=>⟨_,[(.d (.agg [(i64 x1.2.x),(i64 x1.2.y)])),(.d (.agg [(i64 v4.x),(i64 v4.y)]))],_,_,(by simp only [A6 w5];rfl),rfl,A3,A1v _ _ _ (G9 w5 hv7),(.inl rfl)⟩) ?_
 refine gt rfl (vb rfl rfl rfl) (sa rfl rfl rfl (sv rfl (A1 (cc rfl hz2 (fun c7 hz2=> ?_) (fun c7 hz2=> ?_)))))
 refine lr (fun u19 hu19=>sv rfl (A1 (C1 ?_)))
 cases hz2
 obtain rfl:=ez2 _ rfl
 refine ⟨nofun,F2 ?_⟩
 rw [Sum.elim_inr]at h
 cases h
 exact A8 (.inr rfl) (D0 (C2 rfl) M3) (.refl _)
 refine B4 (I3 (C3 fun u20 hu20=>sd rfl (B9 rfl (gq rfl) rfl rfl) (sst rfl (gq rfl) [(di v4.x),(di v4.y)] rfl (A1 (I3 (C3 fun u21 hu21=>sv rfl (sv rfl (A1 (L6 ?_)))))))))
 cases hz2
 exact ⟨rfl,(),(sbr rfl rfl)⟩
 refine E3 rfl ?_
 cases hz2
 obtain rfl:=ez2 _ rfl
 refine ⟨nofun,D7 rfl (l_j ?_)⟩
 exact ⟨_,(),rfl,(sbr rfl rfl)⟩
 rintro _ ⟨y1,g1,rfl,q1⟩
 rw [Sum.elim_inl]at h
 refine A7 q1 (lr (fun u22 hu22=>sv rfl (A1 (C1 ?_))))
 cases h
 exact A8 (.inr rfl) (D0 (C2 rfl) M3) (.refl _)
noncomputable def Q0 (p1:(List Int))(p3:Int)(x1:(Int×Int)):Option (Stp (Int×Int) (Sum Unit Bool)):=
  cond (decide (x1.2< (p1.length:Int))) ((F1 p1 x1.2).bind fun v1=>cond ((decide (v1<x1.1))||(decide (v1≥p3))) (some (.out (.inr false))) (some (.go ((w64 (v1+1)),(w64 (x1.2+1)))))) (some (.out (.inl ())))
noncomputable def W9 (p1:(List Int))(p2:Int)(p3:Int):Option Bool:=
  thenS (loop (Q0 p1 p3) (p2,0)) (fun _=>some true) (fun r=>some r)
theorem A4m (p1:(List Int))(p2:Int)(p3:Int)(r:Bool)(h:W9 p1 p2 p3=some r):PCall Try.prog 75 [(.list (List.map A2 p1)),(i64 p2),(i64 p3)] (bo r):=by
 refine E1 (fk Try.func75 Try.ntmps75 m0 (by with_unfolding_all rfl)) (nl rfl) ?_
 unfold W9 at h
 refine A7 (s0:=⟨T [(0,(.d _)),(1,(.d _)),(2,(.d _))],G []⟩) (sbr rfl rfl) ?_
 refine lr (fun u1 hu1=>sv rfl (A1 (A5 (lr (fun u2 hu2=>sv rfl (sd rfl (I8 rfl) (sv rfl (A1 (js h fun z1 hz1 h=>F8 (fun s=> ∃(y1:Unit) (g1:Unit),z1= .inl y1∧Sb ⟨T [],G []⟩ s) ?_ ?_)))))))))
 refine A4 (G5 (Q0 p1 p3) (fun (x1:(Int×Int)) (g2:Unit)=>⟨T [(1,(di x1.1)),(2,(di p3)),(9,(dl A2 p1)),(10,(di (p1.length:Int))),(11,(di x1.2))],G []⟩) (p2,0) () _ hz1 (sbr rfl rfl) ?_)
 intro x1 g2 z2 hz2 ez2
 unfold Q0 at hz2
 refine lr (fun u3 hu3=>sv rfl (A1 (A5 (cc rfl hz2 (fun c1 hz2=> ?_) (fun c1 hz2=> ?_)))))
 refine B4 (A5 (A4 (lr (fun u4 hu4=>bs hz2 fun v1 hv1 hz2=>sd rfl (K6 rfl rfl hv1 rfl) (sd rfl (I4 rfl hv1 rfl) (sv rfl (A1 (A5 (lr (fun u5 hu5=>sv rfl (sv rfl (sv rfl (sv rfl (gf rfl (fun _=>rfl) (gf rfl (fun _=>rfl) (gf rfl (fun w3=>(A5i (A6 w3) (A6 w3) rfl)) (sd rfl (A8s rfl rfl (fun hc=>A6 (A1h hc))) (A1 (cc rfl hz2 (fun c2 hz2=> ?_) (fun c2 hz2=> ?_))))))))))))))))))))
 refine lr (fun u6 hu6=>sv rfl (A1 (C1 ?_)))
 cases hz2
 obtain rfl:=ez2 _ rfl
 refine ⟨nofun,F2 ?_⟩
 rw [Sum.elim_inr]at h
 cases h
 exact A8 (.inr rfl) (D0 (C2 rfl) M3) (.refl _)
 refine B4 (C3 fun u7 hu7=>sv rfl (sv rfl (sv rfl (A1 (I3 (C3 fun u8 hu8=>sv rfl (sv rfl (A1 (L6 ?_)))))))))
 cases hz2
 exact ⟨rfl,(),(sbr rfl rfl)⟩
 refine E3 rfl ?_
 cases hz2
 obtain rfl:=ez2 _ rfl
 refine ⟨nofun,D7 rfl (l_j ?_)⟩
 exact ⟨_,(),rfl,(sbr rfl rfl)⟩
 rintro _ ⟨y1,g1,rfl,q1⟩
 rw [Sum.elim_inl]at h
 refine A7 q1 (lr (fun u9 hu9=>sv rfl (A1 (C1 ?_))))
 cases h
 exact A8 (.inr rfl) (D0 (C2 rfl) M3) (.refl _)
noncomputable def J9 (p1:RoadsCheck)(x1:Int):Option (Stp Int (Sum Unit Int)):=
  cond (decide (x1< (p1.Map_.Lanes.length:Int))) ((F1 p1.Map_.Lanes x1).bind fun v1=>(Y9 v1.Kind).bind fun v2=>cond (v2.1==0) (some (.out (.inr 4))) ((A0e v1.Curve_).bind fun v3=>cond (v3 !=0) (some (.out (.inr v3))) ((L9 v1.Half 200 4000).bind fun v4=>((cond (!(!v4)) (L9 v1.Limit 1 v2.1) (some default))).bind fun v5=>cond ((!v4)||(!v5)) (some (.out (.inr 2))) (cond (decide ((v1.Next.length:Int)>3)) (some (.out (.inr 8))) ((W9 v1.Next (w64 (x1+1)) (p1.Map_.Lanes.length:Int)).bind fun v6=>cond (!v6) (some (.out (.inr 11))) (some (.go (w64 (x1+1))))))))) (some (.out (.inl ())))
noncomputable def P2 (p1:RoadsCheck):Option Int:=
  thenS (loop (J9 p1) 0) (fun _=>some 0) (fun r=>some r)
theorem A8d (p1:RoadsCheck)(r:Int)(h:P2 p1=some r):PCall Try.prog 44 [(.agg (A12 p1.Map_))] (i64 r):=by
 refine E1 (fk Try.func44 Try.ntmps44 m0 (by with_unfolding_all rfl)) (nl rfl) ?_
 unfold P2 at h
 refine A7 (s0:=⟨T [(0,(.d _))],G []⟩) (sbr rfl rfl) ?_
 refine lr (fun u1 hu1=>sn rfl rfl (sv rfl (A1 (A5 (lr (fun u2 hu2=>sp rfl rfl (sp rfl rfl (sl rfl G_hit rfl (sd rfl (I8 rfl) (sv rfl (A1 (js h fun z1 hz1 h=>F8 (fun s=> ∃(y1:Unit) (g1:Unit),z1= .inl y1∧Sb ⟨T [],G []⟩ s) ?_ ?_))))))))))))
 refine A4 (G5 (J9 p1) (fun (x1:Int) (g2:Unit)=>⟨T [(1,(.ptr (1,u1) 0)),(11,(dl A2v p1.Map_.Lanes)),(12,(di (p1.Map_.Lanes.length:Int))),(13,(di x1))],G [((1,u1),some (.box 88 (A05 p1.Map_)))]⟩) 0 () _ hz1 (sbr rfl rfl) ?_)
 intro x1 g2 z2 hz2 ez2
 unfold J9 at hz2
 refine lr (fun u3 hu3=>sv rfl (A1 (A5 (cc rfl hz2 (fun c1 hz2=> ?_) (fun c1 hz2=> ?_)))))
 refine B4 (A5 (A4 (lr (fun u4 hu4=>sv rfl (bs hz2 fun v1 hv1 hz2=>sd rfl (K6 rfl rfl hv1 rfl) (sd rfl (G1 rfl hv1 rfl rfl) (sn rfl rfl (sv rfl (sst rfl G_hit (B1o v1) rfl (A1 (lr (fun u5 hu5=>sp rfl rfl (sl rfl G_hit rfl (bs hz2 fun v2 hv2 hz2=>B7 rfl rfl A3 (A7j _ _ hv2) (.inl rfl) (sv rfl (sv rfl (sv rfl (sv rfl (sv rfl (sv rfl (sv rfl (A1 (A5 (A5 (A7 (s0:=⟨T [(1,(.ptr _ _)),(3,(.d _)),(4,(.ptr _ _)),(5,(.d _)),(11,(.d _)),(12,(.d _)),(13,(.d _))],G [((1,u1),some (.box 88 _)),((4,u4),some (.box 40 _))]⟩) (sbr rfl rfl) ?_)))))))))))))))))))))))))
 refine C3 fun u6 hu6=>sv rfl (sv rfl (A1 (cc rfl hz2 (fun c2 hz2=> ?_) (fun c2 hz2=> ?_))))
 refine lr (fun u7 hu7=>sv rfl (A1 (C1 ?_)))
 cases hz2
 obtain rfl:=ez2 _ rfl
 refine ⟨nofun,F2 ?_⟩
 rw [Sum.elim_inr]at h
 cases h
 exact A8 (.inr rfl) (D0 (C2 rfl) M3) (.refl _)
 refine B4 (A5 (lr (fun u8 hu8=>sp rfl rfl (sd rfl (B9 rfl (gq rfl) rfl rfl) (bs hz2 fun v3 hv3 hz2=>B7 rfl rfl A3 (A8t _ _ hv3) (.inl rfl) (sv rfl (A1 (lr (fun u9 hu9=>sv rfl (sv rfl (A1 (cc rfl hz2 (fun c3 hz2=> ?_) (fun c3 hz2=> ?_)))))))))))))
 refine lr (fun u10 hu10=>sv rfl (sv rfl (A1 (C1 ?_))))
 cases hz2
 obtain rfl:=ez2 _ rfl
 refine ⟨nofun,F2 ?_⟩
 rw [Sum.elim_inr]at h
 cases h
 exact A8 (.inr rfl) (D0 (C2 rfl) M3) (.refl _)
 refine B4 (A4 (lr (fun u11 hu11=>sp rfl rfl (sl rfl (gq rfl) rfl (bs hz2 fun v4 hv4 hz2=>B7 rfl rfl A3 (N8 _ _ _ _ hv4) (.inl rfl) (D3 (.d (bo (!v4))) rfl rfl (sv rfl (gp rfl (A39 rfl) (fun _=>rfl) (gf rfl (vl rfl (gq rfl) rfl) (gf rfl (fun _=>rfl) (bs hz2 fun v5 hv5 hz2=> ?_)))))))))))
 refine V3 _ (bo v5) (A39 rfl) (fun w4=>⟨_,[(di v1.Limit),(di 1),(di v2.1)],_,_,(by simp only [A6 w4];rfl),rfl,A3,N8 _ _ _ _ (G9 w4 hv5),(.inl rfl)⟩) ?_
 refine A1i _ (.d (bo (!v5))) rfl (A39 rfl) (fun w5=>(by simp only [A6 w5];rfl)) ?_
 refine sd rfl (A8s rfl rfl (fun hc=>A6 (A1h hc))) (sv rfl (A1 (cc rfl hz2 (fun c4 hz2=> ?_) (fun c4 hz2=> ?_))))
 refine A5 (A7 (s0:=⟨T [],G []⟩) (sbr rfl rfl) ?_)
 refine C3 fun u12 hu12=>sv rfl (A1 (C1 ?_))
 cases hz2
 obtain rfl:=ez2 _ rfl
 refine ⟨nofun,F2 ?_⟩
 rw [Sum.elim_inr]at h
 cases h
 exact A8 (.inr rfl) (D0 (C2 rfl) M3) (.refl _)
 refine A5 (A7 (s0:=⟨T [(1,(.ptr _ _)),(3,(.d _)),(4,(.ptr _ _)),(11,(.d _)),(12,(.d _)),(13,(.d _))],G [((1,u1),some (.box 88 _)),((4,u4),some (.box 40 _))]⟩) (sbr rfl rfl) ?_)
 refine C3 fun u13 hu13=>sp rfl rfl (sl rfl (gq rfl) rfl (sd rfl (I8 rfl) (sv rfl (sv rfl (A1 (cc rfl hz2 (fun c5 hz2=> ?_) (fun c5 hz2=> ?_)))))))
 refine lr (fun u14 hu14=>sv rfl (A1 (C1 ?_)))
 cases hz2
 obtain rfl:=ez2 _ rfl
 refine ⟨nofun,F2 ?_⟩
 rw [Sum.elim_inr]at h
 cases h
 exact A8 (.inr rfl) (D0 (C2 rfl) M3) (.refl _)
 refine lr (fun u15 hu15=>sp rfl rfl (sl rfl (gq rfl) rfl (sv rfl (sv rfl (sp rfl rfl (sp rfl rfl (sl rfl G_hit rfl (sd rfl (I8 rfl) (bs hz2 fun v6 hv6 hz2=>B7 rfl rfl A3 (A4m _ _ _ _ hv6) (.inl rfl) (D3 (.d (bo (!v6))) rfl rfl (sv rfl (A1 (cc rfl hz2 (fun c6 hz2=> ?_) (fun c6 hz2=> ?_))))))))))))))
 refine A5 (A7 (s0:=⟨T [],G []⟩) (sbr rfl rfl) ?_)
 refine C3 fun u16 hu16=>sv rfl (A1 (C1 ?_))
 cases hz2
 obtain rfl:=ez2 _ rfl
 refine ⟨nofun,F2 ?_⟩
 rw [Sum.elim_inr]at h
 cases h
 exact A8 (.inr rfl) (D0 (C2 rfl) M3) (.refl _)
 refine B4 (I3 (I3 (A7 (s0:=⟨T [(1,(.ptr _ _)),(11,(.d _)),(12,(.d _)),(13,(.d _))],G [((1,u1),some (.box 88 _))]⟩) (sbr rfl rfl) ?_)))
 refine C3 fun u17 hu17=>sv rfl (sv rfl (A1 (L6 ?_)))
 cases hz2
 exact ⟨rfl,(),(sbr rfl rfl)⟩
 refine E3 rfl ?_
 cases hz2
 obtain rfl:=ez2 _ rfl
 refine ⟨nofun,D7 rfl (l_j ?_)⟩
 exact ⟨_,(),rfl,(sbr rfl rfl)⟩
 rintro _ ⟨y1,g1,rfl,q1⟩
 rw [Sum.elim_inl]at h
 refine A7 q1 (lr (fun u18 hu18=>sv rfl (A1 (C1 ?_))))
 cases h
 exact A8 (.inr rfl) (D0 (C2 rfl) M3) (.refl _)
noncomputable def I9 (p1:RoadsCheck)(v1:Lane)(v2:Spot)(x2:Int):Option (Stp Int (Sum Unit Int)):=
  cond (decide (x2< (v1.Next.length:Int))) ((F1 v1.Next x2).bind fun v3=>(F1 p1.Map_.Lanes v3).bind fun v4=>cond (v4.Kind !=v1.Kind) (some (.out (.inr 4))) ((F1 p1.Map_.Lanes v3).bind fun v5=>(F1 v5.Curve_.Pts 0).bind fun v6=>cond (!(v6.X==v2.X&& (v6.Y==v2.Y&&true))) (some (.out (.inr 3))) (some (.go (w64 (x2+1)))))) (some (.out (.inl ())))
noncomputable def J0 (p1:RoadsCheck)(x1:Int):Option (Stp Int (Sum Unit Int)):=
  cond (decide (x1< (p1.Map_.Lanes.length:Int))) ((F1 p1.Map_.Lanes x1).bind fun v1=>(F1 v1.Curve_.Pts (w64 ((v1.Curve_.Pts.length:Int) - 1))).bind fun v2=>thenS (loop (I9 p1 v1 v2) 0) (fun _=>some (.go (w64 (x1+1)))) (fun r=>some (.out (.inr r)))) (some (.out (.inl ())))
noncomputable def N5 (p1:RoadsCheck):Option Int:=
  thenS (loop (J0 p1) 0) (fun _=>some 0) (fun r=>some r)
theorem A7k (p1:RoadsCheck)(r:Int)(h:N5 p1=some r):PCall Try.prog 45 [(.agg (A12 p1.Map_))] (i64 r):=by
 refine E1 (fk Try.func45 Try.ntmps45 m0 (by with_unfolding_all rfl)) (nl rfl) ?_
 unfold N5 at h
 refine A7 (s0:=⟨T [(0,(.d _))],G []⟩) (sbr rfl rfl) ?_
 refine lr (fun u1 hu1=>sn rfl rfl (sv rfl (A1 (A5 (lr (fun u2 hu2=>sp rfl rfl (sp rfl rfl (sl rfl G_hit rfl (sd rfl (I8 rfl) (sv rfl (A1 (js h fun z1 hz1 h=>F8 (fun s=> ∃(y1:Unit) (g1:Unit),z1= .inl y1∧Sb ⟨T [],G []⟩ s) ?_ ?_))))))))))))
 refine A4 (G5 (J0 p1) (fun (x1:Int) (g2:Unit)=>⟨T [(1,(.ptr (1,u1) 0)),(10,(dl A2v p1.Map_.Lanes)),(11,(di (p1.Map_.Lanes.length:Int))),(12,(di x1))],G [((1,u1),some (.box 88 (A05 p1.Map_)))]⟩) 0 () _ hz1 (sbr rfl rfl) ?_)
 intro x1 g2 z2 hz2 ez2
 unfold J0 at hz2
 refine lr (fun u3 hu3=>sv rfl (A1 (A5 (cc rfl hz2 (fun c1 hz2=> ?_) (fun c1 hz2=> ?_)))))
 refine B4 (A5 (A4 (lr (fun u4 hu4=>bs hz2 fun v1 hv1 hz2=>sd rfl (K6 rfl rfl hv1 rfl) (sd rfl (G1 rfl hv1 rfl rfl) (sn rfl rfl (sst rfl G_hit (B1o v1) rfl (A1 (lr (fun u5 hu5=>sp rfl rfl (sp rfl rfl (sl rfl G_hit rfl (sp rfl rfl (sp rfl rfl (sl rfl G_hit rfl (sd rfl (I8 rfl) (sv rfl (bs hz2 fun v2 hv2 hz2=>sd rfl (K6 rfl rfl hv2 rfl) (sd rfl (G1 rfl hv2 rfl rfl) (sn rfl rfl (sst rfl G_hit [(di v2.X),(di v2.Y)] rfl (A1 (A5 (A7 (s0:=⟨T [(1,(.ptr _ _)),(4,(.ptr _ _)),(5,(.ptr _ _)),(10,(.d _)),(11,(.d _)),(12,(.d _))],G [((1,u1),some (.box 88 _)),((4,u4),some (.box 40 _)),((5,u5),some (.box 111 _))]⟩) (sbr rfl rfl) ?_))))))))))))))))))))))))
 refine C3 fun u6 hu6=>sp rfl rfl (sl rfl (gq rfl) rfl (sd rfl (I8 rfl) (sv rfl (A1 (js hz2 fun z3 hz3 hz2=>F8 (fun s=> ∃(y2:Unit) (g3:Unit),z3= .inl y2∧Sb ⟨T [(1,(.ptr (1,u1) 0)),(10,(dl A2v p1.Map_.Lanes)),(11,(di (p1.Map_.Lanes.length:Int))),(12,(di x1))],G [((1,u1),some (.box 88 (A05 p1.Map_)))]⟩ s) ?_ ?_)))))
 refine A4 (G5 (I9 p1 v1 v2) (fun (x2:Int) (g4:Unit)=>⟨T [(1,(.ptr (1,u1) 0)),(4,(.ptr (4,u4) 0)),(5,(.ptr (5,u5) 0)),(10,(dl A2v p1.Map_.Lanes)),(11,(di (p1.Map_.Lanes.length:Int))),(12,(di x1)),(27,(dl A2 v1.Next)),(28,(di (v1.Next.length:Int))),(29,(di x2))],G [((1,u1),some (.box 88 (A05 p1.Map_))),((4,u4),some (.box 40 (B1o v1))),((5,u5),some (.box 111 [(di v2.X),(di v2.Y)]))]⟩) 0 () _ hz3 (sbr rfl rfl) ?_)
 intro x2 g4 z4 hz4 ez4
 unfold I9 at hz4
 refine lr (fun u7 hu7=>sv rfl (A1 (A5 (cc rfl hz4 (fun c2 hz4=> ?_) (fun c2 hz4=> ?_)))))
 refine B4 (A5 (A4 (lr (fun u8 hu8=>bs hz4 fun v3 hv3 hz4=>sd rfl (K6 rfl rfl hv3 rfl) (sd rfl (I4 rfl hv3 rfl) (sv rfl (A1 (A5 (A5 (A21 rfl fun u9 hu9=>sp rfl rfl (sp rfl rfl (sl rfl G_hit rfl (sv rfl (bs hz4 fun v4 hv4 hz4=>sd rfl (K6 rfl rfl hv4 rfl) (sv rfl (sd rfl (I4 rfl hv4 rfl) (sp rfl rfl (sl rfl (gq rfl) rfl (sv rfl (A1 (cc rfl hz4 (fun c3 hz4=> ?_) (fun c3 hz4=> ?_))))))))))))))))))))))
 refine A5 (A7 (s0:=⟨T [],G []⟩) (sbr rfl rfl) ?_)
 refine C3 fun u10 hu10=>sv rfl (A1 (C1 ?_))
 cases hz4
 obtain rfl:=ez4 _ rfl
 refine ⟨nofun,F2 ?_⟩
 rw [Sum.elim_inr]at hz2
 cases hz2
 obtain rfl:=ez2 _ rfl
 refine ⟨nofun,F2 ?_⟩
 rw [Sum.elim_inr]at h
 cases h
 exact A8 (.inr rfl) (D0 (C2 rfl) M3) (.refl _)
 refine B4 (A5 (A7 (s0:=⟨T [(1,(.ptr _ _)),(4,(.ptr _ _)),(5,(.ptr _ _)),(7,(.d _)),(10,(.d _)),(11,(.d _)),(12,(.d _)),(27,(.d _)),(28,(.d _)),(29,(.d _))],G [((1,u1),some (.box 88 _)),((4,u4),some (.box 40 _)),((5,u5),some (.box 111 _))]⟩) (sbr rfl rfl) ?_))
 refine A21 rfl fun u11 hu11=>sp rfl rfl (sp rfl rfl (sl rfl G_hit rfl (sv rfl (bs hz4 fun v5 hv5 hz4=>sd rfl (K6 rfl rfl hv5 rfl) (sv rfl (sv rfl (sd rfl (I4 rfl hv5 rfl) (bs hz4 fun v6 hv6 hz4=>sd rfl (K6 rfl rfl hv6 rfl) (sd rfl (G1 rfl hv6 rfl rfl) (sd rfl (B9 rfl (gq rfl) rfl rfl) (D3 (.d (bo (!(v6.X==v2.X&& (v6.Y==v2.Y&&true))))) rfl rfl (A1 (cc rfl hz4 (fun c4 hz4=> ?_) (fun c4 hz4=> ?_))))))))))))))
 refine A5 (A7 (s0:=⟨T [],G []⟩) (sbr rfl rfl) ?_)
 refine C3 fun u12 hu12=>sv rfl (A1 (C1 ?_))
 cases hz4
 obtain rfl:=ez4 _ rfl
 refine ⟨nofun,F2 ?_⟩
 rw [Sum.elim_inr]at hz2
 cases hz2
 obtain rfl:=ez2 _ rfl
 refine ⟨nofun,F2 ?_⟩
 rw [Sum.elim_inr]at h
 cases h
 exact A8 (.inr rfl) (D0 (C2 rfl) M3) (.refl _)
 refine B4 (I3 (A7 (s0:=⟨T [(1,(.ptr _ _)),(4,(.ptr _ _)),(5,(.ptr _ _)),(10,(.d _)),(11,(.d _)),(12,(.d _)),(27,(.d _)),(28,(.d _)),(29,(.d _))],G [((1,u1),some (.box 88 _)),((4,u4),some (.box 40 _)),((5,u5),some (.box 111 _))]⟩) (sbr rfl rfl) ?_))
 refine C3 fun u13 hu13=>sv rfl (sv rfl (A1 (L6 ?_)))
 cases hz4
 exact ⟨rfl,(),(sbr rfl rfl)⟩
 refine E3 rfl ?_
 cases hz4
 obtain rfl:=ez4 _ rfl
 refine ⟨nofun,D7 rfl (l_j ?_)⟩
 exact ⟨_,(),rfl,(sbr rfl rfl)⟩
 rintro _ ⟨y2,g3,rfl,q1⟩
 rw [Sum.elim_inl]at hz2
 refine I3 (A7 q1 (C3 fun u14 hu14=>sv rfl (sv rfl (A1 (L6 ?_)))))
 cases hz2
 exact ⟨rfl,(),(sbr rfl rfl)⟩
 refine E3 rfl ?_
 cases hz2
 obtain rfl:=ez2 _ rfl
 refine ⟨nofun,D7 rfl (l_j ?_)⟩
 exact ⟨_,(),rfl,(sbr rfl rfl)⟩
 rintro _ ⟨y1,g1,rfl,q2⟩
 rw [Sum.elim_inl]at h
 refine A7 q2 (lr (fun u15 hu15=>sv rfl (A1 (C1 ?_))))
 cases h
 exact A8 (.inr rfl) (D0 (C2 rfl) M3) (.refl _)
noncomputable def P3 (p1:Phase):Option Bool:=
  (L9 p1.Ticks 1 10000).bind fun v1=>some (!v1)
theorem A60 (p1:Phase)(r:Bool)(h:P3 p1=some r):PCall Try.prog 77 [(.agg [(i64 p1.Ticks),(.list (List.map A2 p1.Green))])] (bo r):=by
 refine E1 (fk Try.func77 Try.ntmps77 m0 (by with_unfolding_all rfl)) (nl rfl) ?_
 unfold P3 at h
 refine A7 (s0:=⟨T [(0,(.d _))],G []⟩) (sbr rfl rfl) ?_
 refine lr (fun u1 hu1=>sn rfl rfl (sv rfl (A1 (lr (fun u2 hu2=>sp rfl rfl (sl rfl G_hit rfl (bs h fun v1 hv1 h=>B7 rfl rfl A3 (N8 _ _ _ _ hv1) (.inl rfl) (D3 (.d (bo (!v1))) rfl rfl (sv rfl (A1 (C1 ?_)))))))))))
 cases h
 exact A8 (.inr rfl) (D0 (C2 rfl) M3) (.refl _)
noncomputable def B1 (p1:(List Phase))(x1:Int):Option (Stp Int (Sum Unit Int)):=
  cond (decide (x1< (p1.length:Int))) ((F1 p1 x1).bind fun v1=>(P3 v1).bind fun v2=>cond v2 (some (.out (.inr x1))) (some (.go (w64 (x1+1))))) (some (.out (.inl ())))
noncomputable def B6 (p1:(List Phase)):Option Int:=
  thenS (loop (B1 p1) 0) (fun _=>some (-1)) (fun r=>some r)
theorem U2 (p1:(List Phase))(r:Int)(h:B6 p1=some r):PCall Try.prog 107 [(.list (List.map A1c p1)),(.fn (.func 77) [] [])] (i64 r):=by
 refine E1 (fk Try.func107 Try.ntmps107 m0 (by with_unfolding_all rfl)) (nl rfl) ?_
 unfold B6 at h
 refine A7 (s0:=⟨T [(0,(.d _)),(1,(.d _))],G []⟩) (sbr rfl rfl) ?_
 refine lr (fun u1 hu1=>sv rfl (A1 (A5 (lr (fun u2 hu2=>sv rfl (sd rfl (I8 rfl) (sv rfl (A1 (js h fun z1 hz1 h=>F8 (fun s=> ∃(y1:Unit) (g1:Unit),z1= .inl y1∧Sb ⟨T [],G []⟩ s) ?_ ?_)))))))))
 refine A4 (G5 (B1 p1) (fun (x1:Int) (g2:Unit)=>⟨T [(0,(dl A1c p1)),(1,(.d (.fn (.func 77) [] []))),(7,(di (p1.length:Int))),(8,(di x1))],G []⟩) 0 () _ hz1 (sbr rfl rfl) ?_)
 intro x1 g2 z2 hz2 ez2
 unfold B1 at hz2
 refine lr (fun u3 hu3=>sv rfl (A1 (A5 (cc rfl hz2 (fun c1 hz2=> ?_) (fun c1 hz2=> ?_)))))
 refine B4 (A5 (A4 (lr (fun u4 hu4=>sv rfl (sv rfl (A1 (lr (fun u5 hu5=>sv rfl (sv rfl (sv rfl (bs hz2 fun v1 hv1 hz2=>sd rfl (K6 rfl rfl hv1 rfl) (sd rfl (G1 rfl hv1 rfl rfl) (bs hz2 fun v2 hv2 hz2=>B7 rfl rfl A3 (A60 _ _ hv2) (.inl rfl) (A1 (cc rfl hz2 (fun c2 hz2=> ?_) (fun c2 hz2=> ?_))))))))))))))))
 refine lr (fun u6 hu6=>sv rfl (sv rfl (A1 (C1 ?_))))
 cases hz2
 obtain rfl:=ez2 _ rfl
 refine ⟨nofun,F2 ?_⟩
 rw [Sum.elim_inr]at h
 cases h
 exact A8 (.inr rfl) (D0 (C2 rfl) M3) (.refl _)
 refine B4 (I3 (C3 fun u7 hu7=>sv rfl (sv rfl (A1 (L6 ?_)))))
 cases hz2
 exact ⟨rfl,(),(sbr rfl rfl)⟩
 refine E3 rfl ?_
 cases hz2
 obtain rfl:=ez2 _ rfl
 refine ⟨nofun,D7 rfl (l_j ?_)⟩
 exact ⟨_,(),rfl,(sbr rfl rfl)⟩
 rintro _ ⟨y1,g1,rfl,q1⟩
 rw [Sum.elim_inl]at h
 refine A7 q1 (lr (fun u8 hu8=>sv rfl (A1 (C1 ?_))))
 cases h
 exact A8 (.inr rfl) (D0 (C2 rfl) M3) (.refl _)
noncomputable def B2 (p1:(List Phase)):Option Bool:=
  (B6 p1).bind fun v1=>some (decide (v1≥0))
theorem S6 (p1:(List Phase))(r:Bool)(h:B2 p1=some r):PCall Try.prog 76 [(.list (List.map A1c p1)),(.fn (.func 77) [] [])] (bo r):=by
 refine E1 (fk Try.func76 Try.ntmps76 m0 (by with_unfolding_all rfl)) (nl rfl) ?_
 unfold B2 at h
 refine A7 (s0:=⟨T [(0,(.d _)),(1,(.d _))],G []⟩) (sbr rfl rfl) ?_
 refine lr (fun u1 hu1=>sv rfl (A1 (lr (fun u2 hu2=>sv rfl (sv rfl (bs h fun v1 hv1 h=>B7 rfl rfl A3 (U2 _ _ hv1) (.inl rfl) (sv rfl (sv rfl (A1 (C1 ?_))))))))))
 cases h
 exact A8 (.inr rfl) (D0 (C2 rfl) M3) (.refl _)
noncomputable def M6 (p1:Phase)(p2:RoadsCheck):Option Bool:=
  (W9 p1.Green 0 (p2.Map_.Lanes.length:Int)).bind fun v1=>some (!v1)
theorem A56 (p1:Phase)(p2:RoadsCheck)(r:Bool)(h:M6 p1 p2=some r):PCall Try.prog 78 [(.agg [(i64 p1.Ticks),(.list (List.map A2 p1.Green))]),(.bp (A12 p2.Map_) 0)] (bo r):=by
 refine E1 (fk Try.func78 Try.ntmps78 m0 (by with_unfolding_all rfl)) (nl rfl) ?_
 unfold M6 at h
 refine A7 (s0:=⟨T [(0,(.d _)),(1,(.d _))],G []⟩) (sbr rfl rfl) ?_
 refine lr (fun u1 hu1=>sn rfl rfl (sv rfl (A1 (lr (fun u2 hu2=>sp rfl rfl (sl rfl G_hit rfl (sv rfl (sv rfl (sv rfl (sd rfl (I8 rfl) (bs h fun v1 hv1 h=>B7 rfl rfl A3 (A4m _ _ _ _ hv1) (.inl rfl) (D3 (.d (bo (!v1))) rfl rfl (sv rfl (A1 (C1 ?_)))))))))))))))
 cases h
 exact A8 (.inr rfl) (D0 (C2 rfl) M3) (.refl _)
noncomputable def A9 (p1:(List Phase))(p2:RoadsCheck)(x1:Int):Option (Stp Int (Sum Unit Int)):=
  cond (decide (x1< (p1.length:Int))) ((F1 p1 x1).bind fun v1=>(M6 v1 p2).bind fun v2=>cond v2 (some (.out (.inr x1))) (some (.go (w64 (x1+1))))) (some (.out (.inl ())))
noncomputable def B5 (p1:(List Phase))(p2:RoadsCheck):Option Int:=
  thenS (loop (A9 p1 p2) 0) (fun _=>some (-1)) (fun r=>some r)
theorem T5 (p1:(List Phase))(p2:RoadsCheck)(r:Int)(h:B5 p1 p2=some r):PCall Try.prog 107 [(.list (List.map A1c p1)),(.fn (.func 78) [] [(.bp (A12 p2.Map_) 0)])] (i64 r):=by
 refine E1 (fk Try.func107 Try.ntmps107 m0 (by with_unfolding_all rfl)) (nl rfl) ?_
 unfold B5 at h
 refine A7 (s0:=⟨T [(0,(.d _)),(1,(.d _))],G []⟩) (sbr rfl rfl) ?_
 refine lr (fun u1 hu1=>sv rfl (A1 (A5 (lr (fun u2 hu2=>sv rfl (sd rfl (I8 rfl) (sv rfl (A1 (js h fun z1 hz1 h=>F8 (fun s=> ∃(y1:Unit) (g1:Unit),z1= .inl y1∧Sb ⟨T [],G []⟩ s) ?_ ?_)))))))))
 refine A4 (G5 (A9 p1 p2) (fun (x1:Int) (g2:Unit)=>⟨T [(0,(dl A1c p1)),(1,(.d (.fn (.func 78) [] [(.bp (A12 p2.Map_) 0)]))),(7,(di (p1.length:Int))),(8,(di x1))],G []⟩) 0 () _ hz1 (sbr rfl rfl) ?_)
 intro x1 g2 z2 hz2 ez2
 unfold A9 at hz2
 refine lr (fun u3 hu3=>sv rfl (A1 (A5 (cc rfl hz2 (fun c1 hz2=> ?_) (fun c1 hz2=> ?_)))))
 refine B4 (A5 (A4 (lr (fun u4 hu4=>sv rfl (sv rfl (A1 (lr (fun u5 hu5=>sv rfl (sv rfl (sv rfl (bs hz2 fun v1 hv1 hz2=>sd rfl (K6 rfl rfl hv1 rfl) (sd rfl (G1 rfl hv1 rfl rfl) (bs hz2 fun v2 hv2 hz2=>B7 rfl rfl A3 (A56 _ _ _ hv2) (.inl rfl) (A1 (cc rfl hz2 (fun c2 hz2=> ?_) (fun c2 hz2=> ?_))))))))))))))))
 refine lr (fun u6 hu6=>sv rfl (sv rfl (A1 (C1 ?_))))
 cases hz2
 obtain rfl:=ez2 _ rfl
 refine ⟨nofun,F2 ?_⟩
 rw [Sum.elim_inr]at h
 cases h
 exact A8 (.inr rfl) (D0 (C2 rfl) M3) (.refl _)
 refine B4 (I3 (C3 fun u7 hu7=>sv rfl (sv rfl (A1 (L6 ?_)))))
 cases hz2
 exact ⟨rfl,(),(sbr rfl rfl)⟩
 refine E3 rfl ?_
 cases hz2
 obtain rfl:=ez2 _ rfl
 refine ⟨nofun,D7 rfl (l_j ?_)⟩
 exact ⟨_,(),rfl,(sbr rfl rfl)⟩
 rintro _ ⟨y1,g1,rfl,q1⟩
 rw [Sum.elim_inl]at h
 refine A7 q1 (lr (fun u8 hu8=>sv rfl (A1 (C1 ?_))))
 cases h
 exact A8 (.inr rfl) (D0 (C2 rfl) M3) (.refl _)
noncomputable def B0 (p1:(List Phase))(p2:RoadsCheck):Option Bool:=
  (B5 p1 p2).bind fun v1=>some (decide (v1≥0))
theorem R5 (p1:(List Phase))(p2:RoadsCheck)(r:Bool)(h:B0 p1 p2=some r):PCall Try.prog 76 [(.list (List.map A1c p1)),(.fn (.func 78) [] [(.bp (A12 p2.Map_) 0)])] (bo r):=by
 refine E1 (fk Try.func76 Try.ntmps76 m0 (by with_unfolding_all rfl)) (nl rfl) ?_
 unfold B0 at h
 refine A7 (s0:=⟨T [(0,(.d _)),(1,(.d _))],G []⟩) (sbr rfl rfl) ?_
 refine lr (fun u1 hu1=>sv rfl (A1 (lr (fun u2 hu2=>sv rfl (sv rfl (bs h fun v1 hv1 h=>B7 rfl rfl A3 (T5 _ _ _ hv1) (.inl rfl) (sv rfl (sv rfl (A1 (C1 ?_))))))))))
 cases h
 exact A8 (.inr rfl) (D0 (C2 rfl) M3) (.refl _)
noncomputable def H8 (p1:RoadsCheck)(x1:Int):Option (Stp Int (Sum Unit Int)):=
  cond (decide (x1< (p1.Map_.Signals.length:Int))) ((F1 p1.Map_.Signals x1).bind fun v1=>cond ((v1.Phases.length:Int)==0) (some (.out (.inr 6))) (cond (decide ((v1.Phases.length:Int)>6)) (some (.out (.inr 8))) ((L9 v1.Offset 0 1099511627776).bind fun v2=>cond (!v2) (some (.out (.inr 2))) ((B2 v1.Phases).bind fun v3=>cond v3 (some (.out (.inr 2))) ((B0 v1.Phases p1).bind fun v4=>cond v4 (some (.out (.inr 11))) (some (.go (w64 (x1+1))))))))) (some (.out (.inl ())))
noncomputable def M1 (p1:RoadsCheck):Option Int:=
  thenS (loop (H8 p1) 0) (fun _=>some 0) (fun r=>some r)
theorem A78 (p1:RoadsCheck)(r:Int)(h:M1 p1=some r):PCall Try.prog 46 [(.agg (A12 p1.Map_))] (i64 r):=by
 refine E1 (fk Try.func46 Try.ntmps46 m0 (by with_unfolding_all rfl)) (nl rfl) ?_
 unfold M1 at h
 refine A7 (s0:=⟨T [(0,(.d _))],G []⟩) (sbr rfl rfl) ?_
 refine lr (fun u1 hu1=>sn rfl rfl (sv rfl (A1 (A5 (lr (fun u2 hu2=>sp rfl rfl (sp rfl rfl (sl rfl G_hit rfl (sd rfl (I8 rfl) (sv rfl (A1 (js h fun z1 hz1 h=>F8 (fun s=> ∃(y1:Unit) (g1:Unit),z1= .inl y1∧Sb ⟨T [],G []⟩ s) ?_ ?_))))))))))))
 refine A4 (G5 (H8 p1) (fun (x1:Int) (g2:Unit)=>⟨T [(1,(.ptr (1,u1) 0)),(8,(dl A5j p1.Map_.Signals)),(9,(di (p1.Map_.Signals.length:Int))),(10,(di x1))],G [((1,u1),some (.box 88 (A05 p1.Map_)))]⟩) 0 () _ hz1 (sbr rfl rfl) ?_)
 intro x1 g2 z2 hz2 ez2
 unfold H8 at hz2
 refine lr (fun u3 hu3=>sv rfl (A1 (A5 (cc rfl hz2 (fun c1 hz2=> ?_) (fun c1 hz2=> ?_)))))
 refine B4 (A5 (A4 (lr (fun u4 hu4=>bs hz2 fun v1 hv1 hz2=>sd rfl (K6 rfl rfl hv1 rfl) (sd rfl (G1 rfl hv1 rfl rfl) (sn rfl rfl (sst rfl G_hit [(di v1.Offset),(dl A1c v1.Phases)] rfl (A1 (lr (fun u5 hu5=>sp rfl rfl (sl rfl G_hit rfl (sd rfl (I8 rfl) (sv rfl (A1 (A4 (lr (fun u6 hu6=>sv rfl (sv rfl (sv rfl (A1 (cc rfl hz2 (fun c2 hz2=> ?_) (fun c2 hz2=> ?_))))))))))))))))))))))
 refine lr (fun u7 hu7=>sv rfl (A1 (C1 ?_)))
 cases hz2
 obtain rfl:=ez2 _ rfl
 refine ⟨nofun,F2 ?_⟩
 rw [Sum.elim_inr]at h
 cases h
 exact A8 (.inr rfl) (D0 (C2 rfl) M3) (.refl _)
 refine lr (fun u8 hu8=>sv rfl (sv rfl (sv rfl (A1 (cc rfl hz2 (fun c3 hz2=> ?_) (fun c3 hz2=> ?_))))))
 refine lr (fun u9 hu9=>sv rfl (A1 (C1 ?_)))
 cases hz2
 obtain rfl:=ez2 _ rfl
 refine ⟨nofun,F2 ?_⟩
 rw [Sum.elim_inr]at h
 cases h
 exact A8 (.inr rfl) (D0 (C2 rfl) M3) (.refl _)
 refine lr (fun u10 hu10=>sp rfl rfl (sl rfl G_hit rfl (bs hz2 fun v2 hv2 hz2=>B7 rfl rfl A3 (N8 _ _ _ _ hv2) (.inl rfl) (D3 (.d (bo (!v2))) rfl rfl (sv rfl (A1 (cc rfl hz2 (fun c4 hz2=> ?_) (fun c4 hz2=> ?_))))))))
 refine A5 (A7 (s0:=⟨T [],G []⟩) (sbr rfl rfl) ?_)
 refine C3 fun u11 hu11=>sv rfl (A1 (C1 ?_))
 cases hz2
 obtain rfl:=ez2 _ rfl
 refine ⟨nofun,F2 ?_⟩
 rw [Sum.elim_inr]at h
 cases h
 exact A8 (.inr rfl) (D0 (C2 rfl) M3) (.refl _)
 refine A5 (A7 (s0:=⟨T [(1,(.ptr _ _)),(4,(.ptr _ _)),(8,(.d _)),(9,(.d _)),(10,(.d _))],G [((1,u1),some (.box 88 _)),((4,u4),some (.box 75 _))]⟩) (sbr rfl rfl) ?_)
 refine C3 fun u12 hu12=>sp rfl rfl (sl rfl (gq rfl) rfl (bs hz2 fun v3 hv3 hz2=>B7 rfl rfl A3 (S6 _ _ hv3) (.inl rfl) (sv rfl (A1 (cc rfl hz2 (fun c5 hz2=> ?_) (fun c5 hz2=> ?_))))))
 refine lr (fun u13 hu13=>sv rfl (A1 (C1 ?_)))
 cases hz2
 obtain rfl:=ez2 _ rfl
 refine ⟨nofun,F2 ?_⟩
 rw [Sum.elim_inr]at h
 cases h
 exact A8 (.inr rfl) (D0 (C2 rfl) M3) (.refl _)
 refine lr (fun u14 hu14=>sp rfl rfl (sl rfl (gq rfl) rfl (D3 (.fn _ _ _) rfl rfl (bs hz2 fun v4 hv4 hz2=>B7 rfl (rD (M5 (C0i M4 (M5 (A8r G_hit (rD (rD (rD (rD (rD M4)))))) M4)) M4)) A3 (R5 _ _ _ hv4) (.inr rfl) (sv rfl (A1 (cc rfl hz2 (fun c6 hz2=> ?_) (fun c6 hz2=> ?_))))))))
 refine lr (fun u15 hu15=>sv rfl (A1 (C1 ?_)))
 cases hz2
 obtain rfl:=ez2 _ rfl
 refine ⟨nofun,F2 ?_⟩
 rw [Sum.elim_inr]at h
 cases h
 exact A8 (.inr rfl) (D0 (C2 rfl) M3) (.refl _)
 refine B4 (I3 (I3 (C3 fun u16 hu16=>sv rfl (sv rfl (A1 (L6 ?_))))))
 cases hz2
 exact ⟨rfl,(),(sbr rfl rfl)⟩
 refine E3 rfl ?_
 cases hz2
 obtain rfl:=ez2 _ rfl
 refine ⟨nofun,D7 rfl (l_j ?_)⟩
 exact ⟨_,(),rfl,(sbr rfl rfl)⟩
 rintro _ ⟨y1,g1,rfl,q1⟩
 rw [Sum.elim_inl]at h
 refine A7 q1 (lr (fun u17 hu17=>sv rfl (A1 (C1 ?_))))
 cases h
 exact A8 (.inr rfl) (D0 (C2 rfl) M3) (.refl _)
/-- kerbstone/curve.pieces$1 -/
def A61:AC:=(.seq (.reg [oo 3 (.mv (ci 0))]) (.seq (.reg [oo 8 (.fieldA 0 (.t 1)),oo 9 (.load 1 false (.t 8)),oo 10 (.len (.t 9)),oo 11 (.bin .sub (.t 10) (ci 1)),oo 12 (.mv (ci 0))]) (.block 0 (.loop (.seq (.reg [oo 13 (.bin .lss (.t 12) (.t 11))]) (.seq (.cond (.t 13) .skip (.exit 0)) (.seq (.block 1 (.seq (.reg [oo 14 (.mv (.t 12)),oo 4 (.mv (.t 14))]) (.seq (.draw [oo 15 (.fieldA 0 (.t 1)),oo 16 (.load 1 false (.t 15)),oo 17 (.mv (.t 4)),oo 18 (.idxS 2 (.t 16) (.t 17)),oo 19 (.load 2 true (.t 18)),oo 20 (.fieldA 0 (.t 1)),oo 21 (.load 1 false (.t 20)),oo 22 (.mv (.t 4)),oo 23 (.bin .add (.t 22) (ci 1)),oo 24 (.idxS 2 (.t 21) (.t 23)),oo 25 (.load 2 true (.t 24)),oo 26 (.call (cf 104) [(.t 19),(.t 25)]),oo 5 (.alloc 135 [z0,z0]),oe (.store 2 (.t 5) (.t 26))] []) (.seq (.reg [oo 28 (.load 2 true (.t 5)),oo 29 (.load 2 true (.t 5)),oo 30 (.call (cf 106) [(.t 28),(.t 29)]),oo 31 (.call (cf 105) [(.t 30)]),oo 27 (.mv (.t 31)),oo 32 (.ext (.t 27) 0),oo 33 (.ext (.t 27) 1),oo 6 (.mv (.t 32)),oo 7 (.mv (.t 33))]) (.seq (.seq (.drawB [oo 34 (.mv (.t 0)),oo 35 (.mv (.t 4)),oo 36 (.fieldA 0 (.t 1)),oo 37 (.load 1 false (.t 36)),oo 38 (.mv (.t 4)),oo 39 (.idxS 2 (.t 37) (.t 38)),oo 40 (.load 2 true (.t 39)),oo 41 (.load 2 true (.t 5)),oo 42 (.mv (.t 6)),oo 43 (.mv (.t 3)),oo 44 (.build [z0,z0,z0,z0,z0,z0] [(0,2,(.t 40)),(2,2,(.t 41)),(4,1,(.t 42)),(5,1,(.t 43))]),oo 45 (.icall (.t 34) [(.t 35),(.t 44)]),oo 46 (.un .not (.t 45))] 11 []) (.cond (.t 46) .ret .skip)) (.reg [oo 47 (.mv (.t 3)),oo 48 (.mv (.t 6)),oo 49 (.bin .add (.t 47) (.t 48)),oo 3 (.mv (.t 49))])))))) (.reg [oo 50 (.bin .add (.t 12) (ci 1)),oo 12 (.mv (.t 50))]))))))))
theorem B0y:FnOK Try.prog 145 51 [] A61:=⟨_,_,Try.func145,rfl,Try.ntmps145,by kernel_rfl,⟨fun r=>if r==6 then [11]else [],by kernel_rfl⟩,by kernel_rfl⟩
/-- The pieces of a chain of points, from a number on. -/
noncomputable def A2c (pts:List Spot):Nat→Nat→Int→Option (List (Int×CurvePiece))
  |0,_,_=>some []
  |n+1,i,start=>(pts[i]?).bind fun p=>(pts[i+1]?).bind fun q=>(A22 p q).bind fun v=>(O4 v v).bind fun d=>(A14 d).bind fun r=>
   (A2c pts n (i+1) (w64 (start+r.1))).bind fun l=>some (((i:Int),CurvePiece.mk p v r.1 start)::l)
noncomputable def A9b (pts:List Spot):Option (List (Int×CurvePiece)):=if pts.length≤1000000 then A2c pts (pts.length - 1) 0 0 else none
/-- kerbstone/curve.pieces -/
def A7l:AC:=(.seq (.reg [oo 1 (.box 37 true (.t 0)),oo 2 (.mv (.c (.v .nilFunc)))]) (.seq (.reg [oo 3 (.mkfn (.func 145) [] [(.t 1)]),oo 2 (.mv (.t 3))]) .ret))
theorem B33:FnOK Try.prog 127 4 [.t 2] A7l:=⟨_,_,Try.func127,rfl,Try.ntmps127,by kernel_rfl,⟨fun _=> [],by kernel_rfl⟩,by kernel_rfl⟩
abbrev B9e (a:Int×CurvePiece):List D:= [i64 a.1, .agg [i64 a.2.p.X,i64 a.2.p.Y,i64 a.2.v.x,i64 a.2.v.y,i64 a.2.l,i64 a.2.start]]
theorem B84 (c:Curve):PCall Try.prog 127 [.agg [.list (List.map A3v c.Pts)]] (.fn (.func 145) [] [.bp [.list (List.map A3v c.Pts)] 0]):=by
  refine C4c B33 (by simp) ?_
  unfold A7l
  refine A5x (A8q fun u hu=> ?_)
  refine C20 (.ptr _ _) _ rfl rfl ?_
  refine N4 (.d _) rfl rfl ?_
  refine A5a ?_
  refine A5x (A8q fun u' hu'=> ?_)
  refine N4 (.fn _ _ _) rfl rfl ?_
  refine N4 (.fn _ _ _) rfl rfl ?_
  refine A5a ?_
  refine C1q ⟨.inr rfl,?_⟩
  refine D0 (C2 (v:= .fn _ _ _) rfl) ?_
  exact C0i M4 (M5 (A8r (by simp only [upd,if_true];rfl) (M5 M3 M4)) M4)
theorem C4w (ps:List Spot)(n:Int)(i:Nat)(p:Spot)(hn:n=i)(h:ps[i]? =some p):(List.map A3v ps)[n.toNat]? =some (A3v p):=by
  subst hn
  rw [Int.toNat_natCast,List.getElem?_map,h];rfl
theorem C2l {n:Int}(h: -9223372036854775808≤n∧n≤9223372036854775807):w64 n=n:=Go.IntWalk.i64_in n h
theorem B34 (pts:List Spot): ∀n i s L,A2c pts n i s=some L→L.length=n:=by
  intro n
  induction n with
  |zero=>intro i s L h;cases h;rfl
  |succ n ih=>
   intro i s L h
   rw [A2c]at h
   obtain ⟨p,hp,h⟩:=bind_some h
   obtain ⟨q,hq,h⟩:=bind_some h
   obtain ⟨v,hv,h⟩:=bind_some h
   obtain ⟨d,hd,h⟩:=bind_some h
   obtain ⟨r,hr,h⟩:=bind_some h
   obtain ⟨l,hl,h⟩:=bind_some h
   cases h
   rw [List.length_cons,ih _ _ _ hl]
theorem B85 {pts:List Spot}{L:List (Int×CurvePiece)}(h:A9b pts=some L):C5l Try.prog (.fn (.func 145) [] [.bp [.list (List.map A3v pts)] 0]) (L.map B9e):=by
  unfold A9b at h
  split at h
  case isFalse=>cases h
  rename_i hlen
  refine ⟨145,[],_,rfl,?_⟩
  intro k h0 Inv Stop hi0 hy
  refine C4b B0y (by simp) ?_
  unfold A61
  refine A5x (A8q fun u hu=> ?_)
  refine N4 (.d _) rfl rfl ?_
  refine A5a ?_
  refine A5x (A8q fun u hu=> ?_)
  refine N4 (.d _) rfl rfl ?_
  refine N4 (.d _) rfl rfl ?_
  refine N4 (.d (i64 pts.length)) rfl (I8 (f:=A3v) rfl) ?_
  refine N4 (.d _) rfl rfl ?_
  refine N4 (.d _) rfl rfl ?_
  refine A5a ?_
  refine B56 ?_
  refine C4d (α:=Nat×Int×E8) (fun x=>⟨T [(0, .yld k),(1, .d (.bp [.list (List.map A3v pts)] 0)),(3, .d (i64 x.2.1)),(11, .d (i64 (w64 (pts.length - 1)))),(12, .d (i64 x.1))],x.2.2⟩) (fun x=>pts.length - x.1)
    (fun x=>Inv x.1 x.2.2∧x.1≤pts.length - 1∧A2c pts (pts.length - 1 - x.1) x.1 x.2.1=some (L.drop x.1)) (0,0,h0) ⟨hi0,by omega,h⟩ (C5i ⟨rfl,rfl,rfl,rfl,rfl,trivial⟩ fun _ _ h=>h) ?_
  rintro ⟨i,start,hh⟩ ⟨hinv,hi,hgo⟩
  dsimp only at hinv hi hgo ⊢
  refine A5x (A8q fun u hu=> ?_)
  refine N4 (.d _) rfl rfl ?_
  refine A5a ?_
  refine A5x ?_
  refine C4e rfl (fun hlt=> ?_) (fun hlt=> ?_)
  ·refine B7v ?_
   have hlen1:w64 ((pts.length:Int) - 1)=pts.length - 1:=C2l (by omega)
   rw [hlen1]at hlt
   have hi1:i+1<pts.length:=by omega
   have hw1:IntKind.i64.wrap ((i:Int)+1)=(i:Int)+1:=C2l (by omega)
   obtain ⟨m,hm⟩: ∃m,pts.length - 1 - i=m+1:=⟨pts.length - 1 - i - 1,by omega⟩
   rw [hm,A2c]at hgo
   obtain ⟨p,hp,hgo⟩:=bind_some hgo
   obtain ⟨q,hq,hgo⟩:=bind_some hgo
   obtain ⟨v,hv,hgo⟩:=bind_some hgo
   obtain ⟨d,hd,hgo⟩:=bind_some hgo
   obtain ⟨r,hr,hgo⟩:=bind_some hgo
   obtain ⟨l,hl,hgo⟩:=bind_some hgo
   have hgo:((i:Int),CurvePiece.mk p v r.1 start)::l=L.drop i:=Option.some.inj hgo
   have hLi:L[i]? =some ((i:Int),CurvePiece.mk p v r.1 start):=by
     have:=congrArg (fun z=>z[0]?) hgo
     simpa using this.symm
   have hLd:L.drop (i+1)=l:=by
     have:=congrArg (fun z=>z.drop 1) hgo
     simpa using this.symm
   have hin: ∀(p:Spot) (n:Int) (j:Nat),n=j→pts[j]? =some p→(List.map A3v pts)[n.toNat]? =some (A3v p):=fun p n j=>C4w pts n j p
   refine A5x ?_
   refine B56 ?_
   refine A5x (A8q fun u hu=> ?_)
   refine N4 (.d _) rfl rfl ?_
   refine N4 (.d _) rfl rfl ?_
   refine A5a ?_
   refine A5x (C1u rfl fun u hu=> ?_)
   refine N4 (.d _) rfl rfl ?_
   refine N4 (.d _) rfl rfl ?_
   refine N4 (.d _) rfl rfl ?_
   refine C22 _ _ _ _ rfl rfl (Int.natCast_nonneg i) (hin p _ i rfl hp) rfl ?_
   refine B2r _ _ _ _ _ rfl (hin p _ i rfl hp) (by simp) rfl ?_
   refine N4 (.d _) rfl rfl ?_
   refine N4 (.d _) rfl rfl ?_
   refine N4 (.d _) rfl rfl ?_
   refine N4 (.d _) rfl rfl ?_
   refine C22 _ _ _ _ rfl rfl (by rw [hw1];omega) (hin q _ (i+1) (by rw [hw1];rfl) hq) rfl ?_
   refine B2r _ _ _ _ _ rfl (hin q _ (i+1) (by rw [hw1];rfl) hq) (by simp) rfl ?_
   refine B59 rfl rfl (B00 p q _ hv) (.inl rfl) ?_
   refine C20 (.ptr _ _) _ rfl rfl ?_
   refine B91 _ _ _ _ _ rfl rfl rfl (by simp only [upd,if_true];rfl) (by simp) ?_
   refine A5a ?_
   refine A5x (A8q fun u' hu'=> ?_)
   refine B58 _ _ _ _ (.d (.agg [i64 v.x,i64 v.y])) rfl (by simp only [upd,if_true];rfl) (by simp [A7d]) rfl ?_
   refine B58 _ _ _ _ (.d (.agg [i64 v.x,i64 v.y])) rfl (by simp only [upd,if_true];rfl) (by simp [A7d]) rfl ?_
   refine B59 rfl rfl (A1v v v _ hd) (.inl rfl) ?_
   refine B59 rfl rfl (B01 d _ hr) (.inl rfl) ?_
   refine N4 (.d _) rfl rfl ?_
   refine N4 (.d _) rfl rfl ?_
   refine N4 (.d _) rfl rfl ?_
   refine N4 (.d _) rfl rfl ?_
   refine N4 (.d _) rfl rfl ?_
   refine A5a ?_
   refine A5x (A5x ?_)
   refine C4a rfl fun u2 hu2=> ?_
   simp only [List.take,List.drop]
   refine N4 (.yld _) rfl rfl ?_
   refine N4 (.d _) rfl rfl ?_
   refine N4 (.d _) rfl rfl ?_
   refine N4 (.d _) rfl rfl ?_
   refine N4 (.d _) rfl rfl ?_
   refine C22 _ _ _ _ rfl rfl (Int.natCast_nonneg i) (hin p _ i rfl hp) rfl ?_
   refine B2r _ _ _ _ _ rfl (hin p _ i rfl hp) (by simp) rfl ?_
   refine B58 _ _ _ _ (.d (.agg [i64 v.x,i64 v.y])) rfl (by simp only [upd,if_true];rfl) (by simp [A7d]) rfl ?_
   refine N4 (.d _) rfl rfl ?_
   refine N4 (.d _) rfl rfl ?_
   refine N4 (.d _) rfl rfl ?_
   refine A5a ?_
   intro u3 hu3
   refine C4i k ((B9e ((i:Int),CurvePiece.mk p v r.1 start)).map .d) rfl rfl ?_
   refine YCall.weak (C24 hu (C24 hu fun _ _ h=>h)) ((hy i hh _ (by rw [List.getElem?_map,hLi];rfl) hinv).mono ?_)
   rintro v' h' (⟨rfl,hin⟩|⟨rfl,hst⟩)
   ·intro u4 hu4
    refine N4 (.d _) rfl rfl ?_
    refine A5a ?_
    refine B28 (t:=false) rfl (fun h=>by cases h) (fun _=> ?_)
    refine B7v ?_
    refine A8q fun u hu=> ?_
    refine N4 (.d _) rfl rfl ?_
    refine N4 (.d _) rfl rfl ?_
    refine N4 (.d _) rfl rfl ?_
    refine N4 (.d _) rfl rfl ?_
    refine A5a ?_
    refine A8q fun u hu=> ?_
    refine N4 (.d _) rfl rfl ?_
    refine N4 (.d _) rfl rfl ?_
    refine A5a ?_
    refine ⟨(i+1,w64 (start+r.1),h'),⟨hin,by dsimp only;omega,?_⟩,by dsimp only;omega,C5i ⟨rfl,rfl,rfl,rfl,?_,trivial⟩ fun _ _ h=>h⟩
    ·dsimp only
     rw [hLd,show pts.length - 1 - (i+1)=m by omega];exact hl
    ·show AV.d (i64 (IntKind.i64.wrap ((i:Int)+1)))=_
     rw [hw1];rfl
   ·intro u4 hu4
    refine N4 (.d _) rfl rfl ?_
    refine A5a ?_
    refine B28 (t:=true) rfl (fun _=> ?_) (fun h=>by cases h)
    refine C1q ?_
    dsimp only
    exact ⟨Or.inr trivial,AV.tup [],rfl,Or.inr hst⟩
  ·refine B7w ?_
   have hlen1:1≤pts.length→w64 ((pts.length:Int) - 1)=pts.length - 1:=fun _=>C2l (by omega)
   have:i=pts.length - 1:=by
     by_cases h:1≤pts.length
     ·rw [hlen1 h]at hlt;omega
     ·omega
   subst this
   rw [Nat.sub_self,A2c]at hgo
   have hL:(L.map B9e).length=pts.length - 1:=by
     have h1:L.drop (pts.length - 1)= []:=(Option.some.inj hgo).symm
     have h2:=List.drop_eq_nil_iff.1 h1
     rw [List.length_map]
     refine Nat.le_antisymm h2 ?_
     exact Nat.le_of_eq (B34 _ _ _ _ _ h).symm
   exact ⟨.inl rfl,_,rfl, .inl (by rw [hL];exact hinv)⟩
noncomputable def R6 (x1:(List Int))(a1:(Int×CurvePiece)):Option (Stp (List Int) (List Int)):=
  (A9u x1 [a1.2.l]).bind fun v3=>some (.go v3)
noncomputable def A0f (p1:Curve):Option (List Int):=
  (A0e p1).bind fun v1=>cond (v1 !=0) (some []) (((A9b p1.Pts).bind fun v2=>loopL (R6) (fun (x1:(List Int))=>x1) v2 []).bind fun y1=>some y1)
theorem B35 (p1:Curve)(r:(List Int))(h:A0f p1=some r):PCall Try.prog 102 [(.agg [(.list (List.map A3v p1.Pts))])] (.list (List.map A2 r)):=by
 refine E1 (fk Try.func102 Try.ntmps102 (fun r=>if r==6 then [1003]else []) (by with_unfolding_all rfl)) (nl rfl) ?_
 unfold A0f at h
 refine A7 (s0:=⟨T [(0,(.d _))],G []⟩) (sbr rfl rfl) ?_
 refine lr (fun u1 hu1=>sn rfl rfl (sv rfl (A1 (A5 (lr (fun u2 hu2=>sd rfl (B9 rfl G_hit rfl rfl) (bs h fun v1 hv1 h=>B7 rfl rfl A3 (A8t _ _ hv1) (.inl rfl) (sv rfl (A1 (cc rfl h (fun c1 h=> ?_) (fun c1 h=> ?_)))))))))))
 refine lr (fun u3 hu3=>sv rfl (A1 (C1 ?_)))
 cases h
 exact A8 (.inr rfl) (D0 (C2 rfl) M3) DLe.nil
 refine B4 (lr (fun u4 hu4=>sn rfl rfl (A1 (A5 (lr (fun u5 hu5=>sd rfl (B9 rfl (gq rfl) rfl rfl) (B7 rfl rfl A3 (B84 p1) (.inl rfl) (A1 (bs h fun y1 hy1 h=>F8 (fun s=> ∃g1:Nat,Sb ⟨T [(3,(.ptr (3,u4) 0))],G [((3,u4),some (.box 59 [(oS y1 (17,g1))])),((17,g1),oB 2 1 A2 y1)]⟩ s) ?_ ?_)))))))))
 refine A4 (bs hy1 fun v2 hv2 hy1=>A7 (s0:=⟨T [(3,(.ptr _ _)),(10,(.d _))],G [((3,u4),some (.box 59 _))]⟩) (sbr rfl rfl) ?_)
 refine C4m (.fn (.func 145) [] [(.bp [(.list (List.map A3v p1.Pts))] 0)]) B9e v2 (R6) (fun (x1:(List Int))=>x1) (fun (x1:(List Int)) (g2:Nat)=> [((3,u4),some (.box 59 [(oS x1 (17,g2))])),((17,g2),oB 2 1 A2 x1)]) [] 0 _ rfl (B85 hv2) (fun _=>rfl) hy1 (F7 trivial (B3 G_hit (.of rfl) (V2 trivial))) nofun ?_ ?_
 intro u7 hu7 hku7
 refine ⟨fun x1 g2=>(H6 rfl (H6 rfl rfl)),?_⟩
 intro r1 x1 g2 a1 z1 hrr1 hz1 ez1
 unfold R6 at hz1
 show AWL _ _ _ _ _ _ ⟨T [(12,(.d (.agg (B82 a1.2)))),(11,(di a1.1)),(3,(.ptr (3,u4) 0)),(10,(.d (.fn (.func 145) [] [(.bp [(.list (List.map A3v p1.Pts))] 0)])))],G [((1000000,u7),some (.obj (T [(3,(.ptr (3,u4) 0)),(10,(.d (.fn (.func 145) [] [(.bp [(.list (List.map A3v p1.Pts))] 0)])))]) r1)),((3,u4),some (.box 59 [(oS x1 (17,g2))])),((17,g2),oB 2 1 A2 x1)]⟩
 refine C3 fun u8 hu8=>sn rfl rfl (sst rfl G_hit (B83 a1.2) rfl (A1 (l_j (C8b (gq rfl) ?_))))
 refine A4 (C3 fun u9 hu9=>D3 (oS x1 (17,g2)) rfl (A9w rfl (gq rfl) rfl) (sp rfl rfl (sl rfl (gq rfl) rfl (D3 (dl A2 [a1.2.l]) rfl rfl (bs hz1 fun v3 hv3 hz1=>A00 A2 (17,g2) x1 a1.2.l [] _ (W6 (fun _=>rfl)) rfl (gq rfl) hv3 (sst rfl (gq rfl) [(.sl (17,u9))] rfl (A1 (I3 (L6 ?_)))))))))
 cases hz1
 exact C8c (gq rfl) u9 (B3 G_hit (.box (.cons (.of (A2a (A3u hv3)).symm) .nil)) (Q6 (gq rfl) trivial))
 rintro x1 g2 _ rfl qx1
 refine I3 (l_j ?_)
 exact ⟨g2,(Sb.after qx1 (F7 ⟨.of rfl,trivial⟩ (B3 G_hit (.of rfl) (F9 (gq rfl) trivial))))⟩
 rintro _ ⟨g1,q1⟩
 refine A7 q1 (lr (fun u10 hu10=>D3 (oS y1 (17,g1)) rfl (A9w rfl G_hit rfl) (D3 (oS y1 (17,g1)) rfl rfl (A1 (C1 ?_)))))
 cases h
 exact A8 (.inr rfl) (D0 (C2 rfl) (A76 (gq rfl))) A75
noncomputable def N9 (v1:(List Int))(x1:(Int×Int)):Option (Stp (Int×Int) Int):=
  cond (decide (x1.2< (v1.length:Int))) ((F1 v1 x1.2).bind fun v2=>some (.go ((w64 (x1.1+v2)),(w64 (x1.2+1))))) (some (.out x1.1))
noncomputable def A0g (p1:Curve):Option Int:=
  (A0f p1).bind fun v1=>(loop (N9 v1) (0,0)).bind fun y1=>some y1
theorem B36 (p1:Curve)(r:Int)(h:A0g p1=some r):PCall Try.prog 73 [(.agg [(.list (List.map A3v p1.Pts))])] (i64 r):=by
 refine E1 (fk Try.func73 Try.ntmps73 m0 (by with_unfolding_all rfl)) (nl rfl) ?_
 unfold A0g at h
 refine A7 (s0:=⟨T [(0,(.d _))],G []⟩) (sbr rfl rfl) ?_
 refine lr (fun u1 hu1=>sn rfl rfl (sv rfl (A1 (lr (fun u2 hu2=>sv rfl (A1 (A5 (lr (fun u3 hu3=>sd rfl (B9 rfl G_hit rfl rfl) (bs h fun v1 hv1 h=>B7 rfl rfl A3 (B35 _ _ hv1) (.inl rfl) (sd rfl (I8 rfl) (sv rfl (A1 (bs h fun y1 hy1 h=>F8 (fun s=> ∃g1:Unit,Sb ⟨T [(3,(di y1))],G []⟩ s) ?_ ?_))))))))))))))
 refine A4 (G5 (N9 v1) (fun (x1:(Int×Int)) (g2:Unit)=>⟨T [(3,(di x1.1)),(7,(dl A2 v1)),(8,(di (v1.length:Int))),(9,(di x1.2))],G []⟩) (0,0) () _ hy1 (sbr rfl rfl) ?_)
 intro x1 g2 z1 hz1 ez1
 unfold N9 at hz1
 refine lr (fun u4 hu4=>sv rfl (A1 (A5 (cc rfl hz1 (fun c1 hz1=> ?_) (fun c1 hz1=> ?_)))))
 refine B4 (A5 (A4 (lr (fun u5 hu5=>bs hz1 fun v2 hv2 hz1=>sd rfl (K6 rfl rfl hv2 rfl) (sd rfl (I4 rfl hv2 rfl) (sv rfl (A1 (C3 fun u6 hu6=>sv rfl (sv rfl (sv rfl (sv rfl (A1 (I3 (C3 fun u7 hu7=>sv rfl (sv rfl (A1 (L6 ?_)))))))))))))))))
 cases hz1
 exact ⟨rfl,(),(sbr rfl rfl)⟩
 refine E3 rfl ?_
 cases hz1
 obtain rfl:=ez1 _ rfl
 refine ⟨nofun,D7 rfl (l_j ?_)⟩
 exact ⟨(),(sbr rfl rfl)⟩
 rintro _ ⟨g1,q1⟩
 refine A7 q1 (lr (fun u8 hu8=>sv rfl (sv rfl (A1 (C1 ?_)))))
 cases h
 exact A8 (.inr rfl) (D0 (C2 rfl) M3) (.refl _)
noncomputable def U9 (p1:Map)(p2:Int):Option Int:=
  (F1 p1.Lanes p2).bind fun v1=>(A0g v1.Curve_).bind fun v2=>some v2
theorem A15 (p1:Map)(p2:Int)(r:Int)(h:U9 p1 p2=some r):PCall Try.prog 41 [(.agg (A12 p1)),(i64 p2)] (i64 r):=by
 refine E1 (fk Try.func41 Try.ntmps41 m0 (by with_unfolding_all rfl)) (nl rfl) ?_
 unfold U9 at h
 refine A7 (s0:=⟨T [(0,(.d _)),(1,(.d _))],G []⟩) (sbr rfl rfl) ?_
 refine lr (fun u1 hu1=>sn rfl rfl (sv rfl (A1 (lr (fun u2 hu2=>sp rfl rfl (sl rfl G_hit rfl (sv rfl (bs h fun v1 hv1 h=>sd rfl (K6 rfl rfl hv1 rfl) (sv rfl (sd rfl (G1 rfl hv1 rfl rfl) (bs h fun v2 hv2 h=>B7 rfl rfl A3 (B36 _ _ hv2) (.inl rfl) (sv rfl (A1 (C1 ?_))))))))))))))
 cases h
 exact A8 (.inr rfl) (D0 (C2 rfl) M3) (.refl _)
noncomputable def K0 (p1:RoadsCheck)(v1:Zone)(x3:Int):Option (Stp Int (Sum Unit Int)):=
  cond (decide (x3< (v1.Parts.length:Int))) ((F1 v1.Parts x3).bind fun v5=>((cond (!((decide (v5.From<0))||(decide (v5.From≥v5.To)))) (U9 p1.Map_ v5.Lane_) (some default))).bind fun v6=>cond (((((decide (v5.From<0))||(decide (v5.From≥v5.To)))||(decide (v5.To>v6)))||(decide (v5.Rank<0)))||(decide (v5.Rank>100))) (some (.out (.inr 2))) (some (.go (w64 (x3+1))))) (some (.out (.inl ())))
noncomputable def Q3 (v1:Zone)(x2:((List Int)×Int)):Option (Stp ((List Int)×Int) (List Int)):=
  cond (decide (x2.2< (v1.Parts.length:Int))) ((F1 v1.Parts x2.2).bind fun v2=>(A9u x2.1 [v2.Lane_]).bind fun v3=>some (.go (v3,(w64 (x2.2+1))))) (some (.out x2.1))
noncomputable def K1 (p1:RoadsCheck)(x1:Int):Option (Stp Int (Sum Unit Int)):=
  cond (decide (x1< (p1.Map_.Zones.length:Int))) ((F1 p1.Map_.Zones x1).bind fun v1=>cond (decide ((v1.Parts.length:Int)<2)) (some (.out (.inr 6))) (cond (decide ((v1.Parts.length:Int)>6)) (some (.out (.inr 8))) (cond ((decide (v1.Signal_<0))||(decide (v1.Signal_>(p1.Map_.Signals.length:Int)))) (some (.out (.inr 2))) ((loop (Q3 v1) ([],0)).bind fun y2=>(W9 y2 0 (p1.Map_.Lanes.length:Int)).bind fun v4=>cond (!v4) (some (.out (.inr 11))) (thenS (loop (K0 p1 v1) 0) (fun _=>some (.go (w64 (x1+1)))) (fun r=>some (.out (.inr r)))))))) (some (.out (.inl ())))
noncomputable def P4 (p1:RoadsCheck):Option Int:=
  thenS (loop (K1 p1) 0) (fun _=>some 0) (fun r=>some r)
theorem A8e (p1:RoadsCheck)(r:Int)(h:P4 p1=some r):PCall Try.prog 47 [(.agg (A12 p1.Map_))] (i64 r):=by
 refine E1 (fk Try.func47 Try.ntmps47 (fun r=>if r==15 then [1003]else []) (by with_unfolding_all rfl)) (nl rfl) ?_
 unfold P4 at h
 refine A7 (s0:=⟨T [(0,(.d _))],G []⟩) (sbr rfl rfl) ?_
 refine lr (fun u1 hu1=>sn rfl rfl (sv rfl (A1 (A5 (lr (fun u2 hu2=>sp rfl rfl (sp rfl rfl (sl rfl G_hit rfl (sd rfl (I8 rfl) (sv rfl (A1 (js h fun z1 hz1 h=>F8 (fun s=> ∃(y1:Unit) (g1:Unit),z1= .inl y1∧Sb ⟨T [],G []⟩ s) ?_ ?_))))))))))))
 refine A4 (G5 (K1 p1) (fun (x1:Int) (g2:Unit)=>⟨T [(1,(.ptr (1,u1) 0)),(13,(dl Q8 p1.Map_.Zones)),(14,(di (p1.Map_.Zones.length:Int))),(15,(di x1))],G [((1,u1),some (.box 88 (A05 p1.Map_)))]⟩) 0 () _ hz1 (sbr rfl rfl) ?_)
 intro x1 g2 z2 hz2 ez2
 unfold K1 at hz2
 refine lr (fun u3 hu3=>sv rfl (A1 (A5 (cc rfl hz2 (fun c1 hz2=> ?_) (fun c1 hz2=> ?_)))))
 refine B4 (A5 (A4 (lr (fun u4 hu4=>bs hz2 fun v1 hv1 hz2=>sd rfl (K6 rfl rfl hv1 rfl) (sd rfl (G1 rfl hv1 rfl rfl) (sn rfl rfl (sst rfl G_hit [(dl M9 v1.Parts),(di v1.Signal_)] rfl (A1 (A5 (lr (fun u5 hu5=>sp rfl rfl (sl rfl G_hit rfl (sd rfl (I8 rfl) (sv rfl (A1 (A4 (lr (fun u6 hu6=>sv rfl (sv rfl (sv rfl (A1 (cc rfl hz2 (fun c2 hz2=> ?_) (fun c2 hz2=> ?_)))))))))))))))))))))))
 refine lr (fun u7 hu7=>sv rfl (A1 (C1 ?_)))
 cases hz2
 obtain rfl:=ez2 _ rfl
 refine ⟨nofun,F2 ?_⟩
 rw [Sum.elim_inr]at h
 cases h
 exact A8 (.inr rfl) (D0 (C2 rfl) M3) (.refl _)
 refine lr (fun u8 hu8=>sv rfl (sv rfl (sv rfl (A1 (cc rfl hz2 (fun c3 hz2=> ?_) (fun c3 hz2=> ?_))))))
 refine lr (fun u9 hu9=>sv rfl (A1 (C1 ?_)))
 cases hz2
 obtain rfl:=ez2 _ rfl
 refine ⟨nofun,F2 ?_⟩
 rw [Sum.elim_inr]at h
 cases h
 exact A8 (.inr rfl) (D0 (C2 rfl) M3) (.refl _)
 refine lr (fun u10 hu10=>sp rfl rfl (sl rfl G_hit rfl (sv rfl (sv rfl (gp rfl (A39 rfl) (fun _=>rfl) (gf rfl (vl rfl G_hit rfl) (gp rfl (A39 rfl) (fun _=>rfl) ?_)))))))
 refine A1i _ (.ptr _ _) rfl (A39 rfl) (fun w4=>(by simp only [A6 w4];rfl)) ?_
 refine gf rfl (vl rfl (gq rfl) rfl) (gf rfl (fun w6=>(I8 (A6 w6))) (gf rfl (fun w7=>(A5i (A6 w7) (A6 w7) rfl)) (sd rfl (A8s rfl rfl (fun hc=>A6 (A1h hc))) (sv rfl (A1 (cc rfl hz2 (fun c4 hz2=> ?_) (fun c4 hz2=> ?_)))))))
 refine A5 (A7 (s0:=⟨T [],G []⟩) (sbr rfl rfl) ?_)
 refine C3 fun u11 hu11=>sv rfl (A1 (C1 ?_))
 cases hz2
 obtain rfl:=ez2 _ rfl
 refine ⟨nofun,F2 ?_⟩
 rw [Sum.elim_inr]at h
 cases h
 exact A8 (.inr rfl) (D0 (C2 rfl) M3) (.refl _)
 refine B4 (I3 (A5 (A7 (s0:=⟨T [(1,(.ptr _ _)),(4,(.ptr _ _)),(13,(.d _)),(14,(.d _)),(15,(.d _))],G [((1,u1),some (.box 88 _)),((4,u4),some (.box 69 _))]⟩) (sbr rfl rfl) ?_)))
 refine C3 fun u12 hu12=>sv rfl (A1 (A5 (lr (fun u13 hu13=>sp rfl rfl (sl rfl (gq rfl) rfl (sd rfl (I8 rfl) (sv rfl (A1 (bs hz2 fun y2 hy2 hz2=>F8 (fun s=> ∃g3:Nat,Sb ⟨T [(1,(.ptr (1,u1) 0)),(4,(.ptr (4,u4) 0)),(6,(oS y2 (52,g3))),(13,(dl Q8 p1.Map_.Zones)),(14,(di (p1.Map_.Zones.length:Int))),(15,(di x1))],G [((1,u1),some (.box 88 (A05 p1.Map_))),((4,u4),some (.box 69 [(dl M9 v1.Parts),(di v1.Signal_)])),((52,g3),oB 3 1 A2 y2)]⟩ s) ?_ ?_)))))))))
 refine A4 (G5 (Q3 v1) (fun (x2:((List Int)×Int)) (g4:Nat)=>⟨T [(1,(.ptr (1,u1) 0)),(4,(.ptr (4,u4) 0)),(6,(oS x2.1 (52,g4))),(13,(dl Q8 p1.Map_.Zones)),(14,(di (p1.Map_.Zones.length:Int))),(15,(di x1)),(42,(dl M9 v1.Parts)),(43,(di (v1.Parts.length:Int))),(44,(di x2.2))],G [((1,u1),some (.box 88 (A05 p1.Map_))),((4,u4),some (.box 69 [(dl M9 v1.Parts),(di v1.Signal_)])),((52,g4),oB 3 1 A2 x2.1)]⟩) ([],0) 0 _ hy2 (F7 ⟨.of rfl, .of rfl, .of rfl, .of rfl, .of rfl, .of rfl, .of rfl, .of rfl, .of rfl,trivial⟩ (B3 G_hit (.of rfl) (sg rfl (V2 trivial)))) ?_)
 intro x2 g4 z3 hz3 ez3
 unfold Q3 at hz3
 refine lr (fun u14 hu14=>sv rfl (A1 (A5 (cc rfl hz3 (fun c5 hz3=> ?_) (fun c5 hz3=> ?_)))))
 refine B4 (A5 (A4 (lr (fun u15 hu15=>bs hz3 fun v2 hv2 hz3=>sd rfl (K6 rfl rfl hv2 rfl) (sd rfl (G1 rfl hv2 rfl rfl) (sn rfl rfl (sst rfl G_hit (A8c v2) rfl (A1 (C3 fun u16 hu16=>D3 (oS x2.1 (52,g4)) rfl rfl (sp rfl rfl (sl rfl G_hit rfl (D3 (dl A2 [v2.Lane_]) rfl rfl (bs hz3 fun v3 hv3 hz3=>A00 A2 (52,g4) x2.1 v2.Lane_ [] _ (W6 (fun _=>rfl)) rfl (gq rfl) hv3 (ss rfl (A1 (I3 (A7 (s0:=⟨T [(1,(.ptr _ _)),(4,(.ptr _ _)),(6,(.sl _)),(13,(.d _)),(14,(.d _)),(15,(.d _)),(42,(.d _)),(43,(.d _)),(44,(.d _))],G [((1,u1),some (.box 88 _)),((4,u4),some (.box 69 _)),((52,u16),some _)]⟩) (sbr rfl rfl) ?_)))))))))))))))))
 refine C3 fun u17 hu17=>sv rfl (sv rfl (A1 (L6 ?_)))
 cases hz3
 exact ⟨rfl,u16,(F7 ⟨.of rfl, .of rfl,(.of (A2a (A3u hv3)).symm), .of rfl, .of rfl, .of rfl, .of rfl, .of rfl, .of rfl,trivial⟩ (B3 G_hit (.of rfl) (sg rfl (Q6 (gq rfl) trivial))))⟩
 refine E3 rfl ?_
 cases hz3
 obtain rfl:=ez3 _ rfl
 refine ⟨nofun,D7 rfl (l_j ?_)⟩
 exact ⟨g4,(F7 ⟨.of rfl, .of rfl, .of rfl, .of rfl, .of rfl, .of rfl,trivial⟩ (B3 G_hit (.of rfl) (sg rfl (F9 (gq rfl) trivial))))⟩
 rintro _ ⟨g3,q1⟩
 refine A7 q1 (A5 (lr (fun u18 hu18=>D3 (oS y2 (52,g3)) rfl rfl (sp rfl rfl (sp rfl rfl (sl rfl G_hit rfl (sd rfl (I8 rfl) (bs hz2 fun v4 hv4 hz2=>B7 rfl (M5 (A76 (gq rfl)) (rD (rD M4))) (.cons A75 (.cons (.refl _) A3)) (A4m _ _ _ _ hv4) (.inr rfl) (D3 (.d (bo (!v4))) rfl rfl (A1 (cc rfl hz2 (fun c6 hz2=> ?_) (fun c6 hz2=> ?_))))))))))))
 refine lr (fun u19 hu19=>sv rfl (A1 (C1 ?_)))
 cases hz2
 obtain rfl:=ez2 _ rfl
 refine ⟨nofun,F2 ?_⟩
 rw [Sum.elim_inr]at h
 cases h
 exact A8 (.inr rfl) (D0 (C2 rfl) M3) (.refl _)
 refine B4 (lr (fun u20 hu20=>sp rfl rfl (sl rfl (gq rfl) rfl (sd rfl (I8 rfl) (sv rfl (A1 (js hz2 fun z4 hz4 hz2=>F8 (fun s=> ∃(y3:Unit) (g5:Unit),z4= .inl y3∧Sb ⟨T [(1,(.ptr (1,u1) 0)),(13,(dl Q8 p1.Map_.Zones)),(14,(di (p1.Map_.Zones.length:Int))),(15,(di x1))],G [((1,u1),some (.box 88 (A05 p1.Map_)))]⟩ s) ?_ ?_)))))))
 refine A4 (G5 (K0 p1 v1) (fun (x3:Int) (g6:Unit)=>⟨T [(1,(.ptr (1,u1) 0)),(13,(dl Q8 p1.Map_.Zones)),(14,(di (p1.Map_.Zones.length:Int))),(15,(di x1)),(62,(dl M9 v1.Parts)),(63,(di (v1.Parts.length:Int))),(64,(di x3))],G [((1,u1),some (.box 88 (A05 p1.Map_)))]⟩) 0 () _ hz4 (sbr rfl rfl) ?_)
 intro x3 g6 z5 hz5 ez5
 unfold K0 at hz5
 refine lr (fun u21 hu21=>sv rfl (A1 (A5 (cc rfl hz5 (fun c7 hz5=> ?_) (fun c7 hz5=> ?_)))))
 refine B4 (A5 (A4 (lr (fun u22 hu22=>bs hz5 fun v5 hv5 hz5=>sd rfl (K6 rfl rfl hv5 rfl) (sd rfl (G1 rfl hv5 rfl rfl) (sn rfl rfl (sst rfl G_hit (A8c v5) rfl (A1 (A5 (A21 rfl fun u23 hu23=>sp rfl rfl (sl rfl G_hit rfl (sv rfl (sv rfl (gp rfl (A39 rfl) (fun _=>rfl) (gf rfl (vl rfl G_hit rfl) (gp rfl (A39 rfl) (fun _=>rfl) (gf rfl (vl rfl G_hit rfl) (gf rfl (fun w12=>(A5i (A6 w12) (A6 w12) rfl)) (sd rfl (A8s rfl rfl (fun hc=>A6 (A1h hc))) (sv rfl (gp rfl (A39 rfl) (fun _=>rfl) (gf rfl (vl rfl G_hit rfl) (gp rfl (A39 rfl) (fun _=>rfl) (gf rfl (fun w16=>(B9 (A6 w16) (gq rfl) rfl rfl)) (gp rfl (A39 rfl) (fun _=>rfl) (gf rfl (vl rfl G_hit rfl) (bs hz5 fun v6 hv6 hz5=> ?_)))))))))))))))))))))))))))
 refine V3 _ (i64 v6) (A39 rfl) (fun w19=>⟨_,[(.d (.agg (A12 p1.Map_))),(di v5.Lane_)],_,_,(by simp only [A6 w19];rfl),rfl,A3,A15 _ _ _ (G9 w19 hv6),(.inl rfl)⟩) ?_
 refine gf rfl (fun w20=>(A5i (A6 w20) (A6 w20) rfl)) (sd rfl (A8s rfl rfl (fun hc=>A6 (A1h hc))) (sv rfl (gp rfl (A39 rfl) (fun _=>rfl) (gf rfl (vl rfl G_hit rfl) (gf rfl (vb rfl rfl rfl) (sd rfl (A8s rfl rfl (fun hc=>A6 (A1h hc))) (sv rfl (gp rfl (A39 rfl) (fun _=>rfl) (gf rfl (vl rfl G_hit rfl) (gf rfl (vb rfl rfl rfl) (sd rfl (A8s rfl rfl (fun hc=>A6 (A1h hc))) (A1 (cc rfl hz5 (fun c8 hz5=> ?_) (fun c8 hz5=> ?_))))))))))))))
 refine A5 (A7 (s0:=⟨T [],G []⟩) (sbr rfl rfl) ?_)
 refine C3 fun u24 hu24=>sv rfl (A1 (C1 ?_))
 cases hz5
 obtain rfl:=ez5 _ rfl
 refine ⟨nofun,F2 ?_⟩
 rw [Sum.elim_inr]at hz2
 cases hz2
 obtain rfl:=ez2 _ rfl
 refine ⟨nofun,F2 ?_⟩
 rw [Sum.elim_inr]at h
 cases h
 exact A8 (.inr rfl) (D0 (C2 rfl) M3) (.refl _)
 refine B4 (I3 (A7 (s0:=⟨T [(1,(.ptr _ _)),(13,(.d _)),(14,(.d _)),(15,(.d _)),(62,(.d _)),(63,(.d _)),(64,(.d _))],G [((1,u1),some (.box 88 _))]⟩) (sbr rfl rfl) ?_))
 refine C3 fun u25 hu25=>sv rfl (sv rfl (A1 (L6 ?_)))
 cases hz5
 exact ⟨rfl,(),(sbr rfl rfl)⟩
 refine E3 rfl ?_
 cases hz5
 obtain rfl:=ez5 _ rfl
 refine ⟨nofun,D7 rfl (l_j ?_)⟩
 exact ⟨_,(),rfl,(sbr rfl rfl)⟩
 rintro _ ⟨y3,g5,rfl,q2⟩
 rw [Sum.elim_inl]at hz2
 refine I3 (A7 q2 (C3 fun u26 hu26=>sv rfl (sv rfl (A1 (L6 ?_)))))
 cases hz2
 exact ⟨rfl,(),(sbr rfl rfl)⟩
 refine E3 rfl ?_
 cases hz2
 obtain rfl:=ez2 _ rfl
 refine ⟨nofun,D7 rfl (l_j ?_)⟩
 exact ⟨_,(),rfl,(sbr rfl rfl)⟩
 rintro _ ⟨y1,g1,rfl,q3⟩
 rw [Sum.elim_inl]at h
 refine A7 q3 (lr (fun u27 hu27=>sv rfl (A1 (C1 ?_))))
 cases h
 exact A8 (.inr rfl) (D0 (C2 rfl) M3) (.refl _)
noncomputable def K2 (p1:RoadsCheck)(x1:Int):Option (Stp Int (Sum Unit Int)):=
  cond (decide (x1< (p1.Map_.Works.length:Int))) ((F1 p1.Map_.Works x1).bind fun v1=>cond ((decide (v1.Lane_<0))||(decide (v1.Lane_≥(p1.Map_.Lanes.length:Int)))) (some (.out (.inr 7))) ((F1 p1.Map_.Lanes v1.Lane_).bind fun v2=>(Y9 v2.Kind).bind fun v3=>((cond (!((decide (v1.From<0))||(decide (v1.From>v1.To)))) (U9 p1.Map_ v1.Lane_) (some default))).bind fun v4=>((cond (!((((((decide (v1.From<0))||(decide (v1.From>v1.To)))||(decide (v1.To>v4)))||(decide (v1.Begin<0)))||(decide (v1.Begin≥v1.End)))||(decide (v1.End>1099511627776)))) (L9 v1.Limit 0 v3.1) (some default))).bind fun v5=>cond (((((((decide (v1.From<0))||(decide (v1.From>v1.To)))||(decide (v1.To>v4)))||(decide (v1.Begin<0)))||(decide (v1.Begin≥v1.End)))||(decide (v1.End>1099511627776)))||(!v5)) (some (.out (.inr 2))) (some (.go (w64 (x1+1)))))) (some (.out (.inl ())))
noncomputable def P5 (p1:RoadsCheck):Option Int:=
  thenS (loop (K2 p1) 0) (fun _=>some 0) (fun r=>some r)
theorem A8f (p1:RoadsCheck)(r:Int)(h:P5 p1=some r):PCall Try.prog 48 [(.agg (A12 p1.Map_))] (i64 r):=by
 refine E1 (fk Try.func48 Try.ntmps48 m0 (by with_unfolding_all rfl)) (nl rfl) ?_
 unfold P5 at h
 refine A7 (s0:=⟨T [(0,(.d _))],G []⟩) (sbr rfl rfl) ?_
 refine lr (fun u1 hu1=>sn rfl rfl (sv rfl (A1 (A5 (lr (fun u2 hu2=>sp rfl rfl (sp rfl rfl (sl rfl G_hit rfl (sd rfl (I8 rfl) (sv rfl (A1 (js h fun z1 hz1 h=>F8 (fun s=> ∃(y1:Unit) (g1:Unit),z1= .inl y1∧Sb ⟨T [],G []⟩ s) ?_ ?_))))))))))))
 refine A4 (G5 (K2 p1) (fun (x1:Int) (g2:Unit)=>⟨T [(1,(.ptr (1,u1) 0)),(10,(dl B1n p1.Map_.Works)),(11,(di (p1.Map_.Works.length:Int))),(12,(di x1))],G [((1,u1),some (.box 88 (A05 p1.Map_)))]⟩) 0 () _ hz1 (sbr rfl rfl) ?_)
 intro x1 g2 z2 hz2 ez2
 unfold K2 at hz2
 refine lr (fun u3 hu3=>sv rfl (A1 (A5 (cc rfl hz2 (fun c1 hz2=> ?_) (fun c1 hz2=> ?_)))))
 refine B4 (A5 (A4 (lr (fun u4 hu4=>bs hz2 fun v1 hv1 hz2=>sd rfl (K6 rfl rfl hv1 rfl) (sd rfl (G1 rfl hv1 rfl rfl) (sn rfl rfl (sst rfl G_hit (C8r v1) rfl (A1 (A5 (lr (fun u5 hu5=>sp rfl rfl (sl rfl G_hit rfl (sv rfl (sv rfl (gp rfl (A39 rfl) (fun _=>rfl) (gf rfl (vl rfl G_hit rfl) (gp rfl (A39 rfl) (fun _=>rfl) ?_)))))))))))))))))
 refine A1i _ (.ptr _ _) rfl (A39 rfl) (fun w4=>(by simp only [A6 w4];rfl)) ?_
 refine gf rfl (vl rfl (gq rfl) rfl) (gf rfl (fun w6=>(I8 (A6 w6))) (gf rfl (fun w7=>(A5i (A6 w7) (A6 w7) rfl)) (sd rfl (A8s rfl rfl (fun hc=>A6 (A1h hc))) (A1 (cc rfl hz2 (fun c2 hz2=> ?_) (fun c2 hz2=> ?_))))))
 refine A5 (A7 (s0:=⟨T [],G []⟩) (sbr rfl rfl) ?_)
 refine C3 fun u6 hu6=>sv rfl (A1 (C1 ?_))
 cases hz2
 obtain rfl:=ez2 _ rfl
 refine ⟨nofun,F2 ?_⟩
 rw [Sum.elim_inr]at h
 cases h
 exact A8 (.inr rfl) (D0 (C2 rfl) M3) (.refl _)
 refine B4 (A5 (A7 (s0:=⟨T [(1,(.ptr _ _)),(4,(.ptr _ _)),(10,(.d _)),(11,(.d _)),(12,(.d _))],G [((1,u1),some (.box 88 _)),((4,u4),some (.box 33 _))]⟩) (sbr rfl rfl) ?_))
 refine C3 fun u7 hu7=>sp rfl rfl (sp rfl rfl (sl rfl G_hit rfl (sp rfl rfl (sl rfl (gq rfl) rfl (bs hz2 fun v2 hv2 hz2=>sd rfl (K6 rfl rfl hv2 rfl) (sv rfl (sd rfl (I4 rfl hv2 rfl) (bs hz2 fun v3 hv3 hz2=>B7 rfl rfl A3 (A7j _ _ hv3) (.inl rfl) (sv rfl (sv rfl (sv rfl (sv rfl (sv rfl (sv rfl (sv rfl (A1 (A5 (A7 (s0:=⟨T [(1,(.ptr _ _)),(4,(.ptr _ _)),(5,(.d _)),(10,(.d _)),(11,(.d _)),(12,(.d _))],G [((1,u1),some (.box 88 _)),((4,u4),some (.box 33 _))]⟩) (sbr rfl rfl) ?_))))))))))))))))))
 refine A21 rfl fun u8 hu8=>sp rfl rfl (sl rfl (gq rfl) rfl (sv rfl (sv rfl (gp rfl (A39 rfl) (fun _=>rfl) (gf rfl (vl rfl (gq rfl) rfl) (gp rfl (A39 rfl) (fun _=>rfl) (gf rfl (vl rfl (gq rfl) rfl) (gf rfl (fun w12=>(A5i (A6 w12) (A6 w12) rfl)) (sd rfl (A8s rfl rfl (fun hc=>A6 (A1h hc))) (sv rfl (gp rfl (A39 rfl) (fun _=>rfl) (gf rfl (vl rfl (gq rfl) rfl) (gp rfl (A39 rfl) (fun _=>rfl) (gf rfl (fun w16=>(B9 (A6 w16) G_hit rfl rfl)) (gp rfl (A39 rfl) (fun _=>rfl) (gf rfl (vl rfl (gq rfl) rfl) (bs hz2 fun v4 hv4 hz2=> ?_)))))))))))))))))
 refine V3 _ (i64 v4) (A39 rfl) (fun w19=>⟨_,[(.d (.agg (A12 p1.Map_))),(di v1.Lane_)],_,_,(by simp only [A6 w19];rfl),rfl,A3,A15 _ _ _ (G9 w19 hv4),(.inl rfl)⟩) ?_
 refine gf rfl (fun w20=>(A5i (A6 w20) (A6 w20) rfl)) (sd rfl (A8s rfl rfl (fun hc=>A6 (A1h hc))) (sv rfl (gp rfl (A39 rfl) (fun _=>rfl) (gf rfl (vl rfl (gq rfl) rfl) (gf rfl (vb rfl rfl rfl) (sd rfl (A8s rfl rfl (fun hc=>A6 (A1h hc))) (sv rfl (gp rfl (A39 rfl) (fun _=>rfl) (gf rfl (vl rfl (gq rfl) rfl) (gp rfl (A39 rfl) (fun _=>rfl) (gf rfl (vl rfl (gq rfl) rfl) (gf rfl (fun w28=>(A5i (A6 w28) (A6 w28) rfl)) (sd rfl (A8s rfl rfl (fun hc=>A6 (A1h hc))) (sv rfl (gp rfl (A39 rfl) (fun _=>rfl) (gf rfl (vl rfl (gq rfl) rfl) (gf rfl (vb rfl rfl rfl) (sd rfl (A8s rfl rfl (fun hc=>A6 (A1h hc))) (sv rfl (gp rfl (A39 rfl) (fun _=>rfl) (gf rfl (vl rfl (gq rfl) rfl) (gf rfl (fun _=>rfl) (bs hz2 fun v5 hv5 hz2=> ?_)))))))))))))))))))))))
 refine V3 _ (bo v5) (A39 rfl) (fun w35=>⟨_,[(di v1.Limit),(di 0),(di v3.1)],_,_,(by simp only [A6 w35];rfl),rfl,A3,N8 _ _ _ _ (G9 w35 hv5),(.inl rfl)⟩) ?_
 refine A1i _ (.d (bo (!v5))) rfl (A39 rfl) (fun w36=>(by simp only [A6 w36];rfl)) ?_
 refine sd rfl (A8s rfl rfl (fun hc=>A6 (A1h hc))) (A1 (cc rfl hz2 (fun c3 hz2=> ?_) (fun c3 hz2=> ?_)))
 refine A5 (A7 (s0:=⟨T [],G []⟩) (sbr rfl rfl) ?_)
 refine C3 fun u9 hu9=>sv rfl (A1 (C1 ?_))
 cases hz2
 obtain rfl:=ez2 _ rfl
 refine ⟨nofun,F2 ?_⟩
 rw [Sum.elim_inr]at h
 cases h
 exact A8 (.inr rfl) (D0 (C2 rfl) M3) (.refl _)
 refine B4 (I3 (A7 (s0:=⟨T [(1,(.ptr _ _)),(10,(.d _)),(11,(.d _)),(12,(.d _))],G [((1,u1),some (.box 88 _))]⟩) (sbr rfl rfl) ?_))
 refine C3 fun u10 hu10=>sv rfl (sv rfl (A1 (L6 ?_)))
 cases hz2
 exact ⟨rfl,(),(sbr rfl rfl)⟩
 refine E3 rfl ?_
 cases hz2
 obtain rfl:=ez2 _ rfl
 refine ⟨nofun,D7 rfl (l_j ?_)⟩
 exact ⟨_,(),rfl,(sbr rfl rfl)⟩
 rintro _ ⟨y1,g1,rfl,q1⟩
 rw [Sum.elim_inl]at h
 refine A7 q1 (lr (fun u11 hu11=>sv rfl (A1 (C1 ?_))))
 cases h
 exact A8 (.inr rfl) (D0 (C2 rfl) M3) (.refl _)
noncomputable def N0 (v:Nat)(p1:RoadsCheck):Option Int:=
  cond (Nat.beq v 43) (M0 p1) (cond (Nat.beq v 44) (P2 p1) (cond (Nat.beq v 45) (N5 p1) (cond (Nat.beq v 46) (M1 p1) (cond (Nat.beq v 47) (P4 p1) (cond (Nat.beq v 48) (P5 p1) (none))))))
theorem A3w (v:Nat)(p1:RoadsCheck)(r:Int)(h:N0 v p1=some r):PCall Try.prog v [(.agg [(i64 p1.Map_.Version),(.list (List.map A2v p1.Map_.Lanes)),(.list (List.map Q8 p1.Map_.Zones)),(.list (List.map A5j p1.Map_.Signals)),(.list (List.map B1n p1.Map_.Works))])] (i64 r):=by
  unfold N0 at h
  rcases B4k h with ⟨rfl,h⟩|⟨_,h⟩
  ·exact A77 _ r h
  rcases B4k h with ⟨rfl,h⟩|⟨_,h⟩
  ·exact A8d _ r h
  rcases B4k h with ⟨rfl,h⟩|⟨_,h⟩
  ·exact A7k _ r h
  rcases B4k h with ⟨rfl,h⟩|⟨_,h⟩
  ·exact A78 _ r h
  rcases B4k h with ⟨rfl,h⟩|⟨_,h⟩
  ·exact A8e _ r h
  rcases B4k h with ⟨rfl,h⟩|⟨_,h⟩
  ·exact A8f _ r h
  cases h
noncomputable def G6 (p1:Map)(x1:Int):Option (Stp Int (Sum Unit Int)):=
  cond (decide (x1< ([43,44,45,46,47,48].length:Int))) ((F1 [43,44,45,46,47,48] x1).bind fun v1=>(N0 v1 (RoadsCheck.mk p1)).bind fun v2=>cond (v2 !=0) (some (.out (.inr v2))) (some (.go (w64 (x1+1))))) (some (.out (.inl ())))
noncomputable def X3 (p1:Map):Option Int:=
  thenS (loop (G6 p1) 0) (fun _=>some 0) (fun r=>some r)
theorem A3a (p1:Map)(r:Int)(h:X3 p1=some r):PCall Try.prog 13 [(.agg (A12 p1))] (i64 r):=by
 refine E1 (fk Try.func13 Try.ntmps13 (fun r=>if r==1 then [1000]else []) (by with_unfolding_all rfl)) (nl rfl) ?_
 unfold X3 at h
 refine A7 (s0:=⟨T [(0,(.d _))],G []⟩) (sbr rfl rfl) ?_
 refine lr (fun u1 hu1=>sn rfl rfl (sv rfl (A1 (A5 (lr (fun u2 hu2=>D3 (dl eFn [43,44,45,46,47,48]) rfl rfl (sd rfl (I8 rfl) (sv rfl (A1 (js h fun z1 hz1 h=>F8 (fun s=> ∃(y1:Unit) (g1:Unit),z1= .inl y1∧Sb ⟨T [],G []⟩ s) ?_ ?_))))))))))
 refine A4 (G5 (G6 p1) (fun (x1:Int) (g2:Unit)=>⟨T [(1,(.ptr (1,u1) 0)),(6,(dl eFn [43,44,45,46,47,48])),(7,(di ([43,44,45,46,47,48].length:Int))),(8,(di x1))],G [((1,u1),some (.box 28 (A05 p1)))]⟩) 0 () _ hz1 (sbr rfl rfl) ?_)
 intro x1 g2 z2 hz2 ez2
 unfold G6 at hz2
 refine lr (fun u3 hu3=>sv rfl (A1 (A5 (cc rfl hz2 (fun c1 hz2=> ?_) (fun c1 hz2=> ?_)))))
 refine B4 (A5 (A4 (lr (fun u4 hu4=>bs hz2 fun v1 hv1 hz2=>sd rfl (K6 rfl rfl hv1 rfl) (sd rfl (I4 rfl hv1 rfl) (sv rfl (A1 (lr (fun u5 hu5=>sv rfl (sd rfl (B9 rfl G_hit rfl rfl) (sv rfl (bs hz2 fun v2 hv2 hz2=>B7 rfl rfl A3 (A3w _ _ _ hv2) (.inl rfl) (sv rfl (A1 (lr (fun u6 hu6=>sv rfl (sv rfl (A1 (cc rfl hz2 (fun c2 hz2=> ?_) (fun c2 hz2=> ?_))))))))))))))))))))
 refine lr (fun u7 hu7=>sv rfl (sv rfl (A1 (C1 ?_))))
 cases hz2
 obtain rfl:=ez2 _ rfl
 refine ⟨nofun,F2 ?_⟩
 rw [Sum.elim_inr]at h
 cases h
 exact A8 (.inr rfl) (D0 (C2 rfl) M3) (.refl _)
 refine B4 (I3 (C3 fun u8 hu8=>sv rfl (sv rfl (A1 (L6 ?_)))))
 cases hz2
 exact ⟨rfl,(),(sbr rfl rfl)⟩
 refine E3 rfl ?_
 cases hz2
 obtain rfl:=ez2 _ rfl
 refine ⟨nofun,D7 rfl (l_j ?_)⟩
 exact ⟨_,(),rfl,(sbr rfl rfl)⟩
 rintro _ ⟨y1,g1,rfl,q1⟩
 rw [Sum.elim_inl]at h
 refine A7 q1 (lr (fun u9 hu9=>sv rfl (A1 (C1 ?_))))
 cases h
 exact A8 (.inr rfl) (D0 (C2 rfl) M3) (.refl _)
noncomputable def A3b (p1:Map)(p2:Int):Option Bool:=
  ((cond ((decide (p2≥0))&& (decide (p2< (p1.Lanes.length:Int)))) (X3 p1) (some default))).bind fun v1=>some (((decide (p2≥0))&& (decide (p2< (p1.Lanes.length:Int))))&& (v1==0))
theorem A6e (p1:Map)(p2:Int)(r:Bool)(h:A3b p1 p2=some r):PCall Try.prog 40 [(.agg (A12 p1)),(i64 p2)] (bo r):=by
 refine E1 (fk Try.func40 Try.ntmps40 m0 (by with_unfolding_all rfl)) (nl rfl) ?_
 unfold A3b at h
 refine A7 (s0:=⟨T [(0,(.d _)),(1,(.d _))],G []⟩) (sbr rfl rfl) ?_
 refine lr (fun u1 hu1=>sn rfl rfl (sv rfl (A1 (lr (fun u2 hu2=>sv rfl (sv rfl (sv rfl (gt rfl (fun _=>rfl) (gp rfl (A38 rfl) (fun _=>rfl) (gt rfl (vl rfl G_hit rfl) (gt rfl (fun w4=>(I8 (A6 w4))) (gt rfl (fun w5=>(A5i (A6 w5) (A6 w5) rfl)) (sa rfl rfl rfl (sv rfl (gt rfl (fun w6=>(B9 rfl G_hit rfl rfl)) (bs h fun v1 hv1 h=> ?_))))))))))))))))
 refine V3 _ (i64 v1) (A38 rfl) (fun w7=>⟨_,[(.d (.agg (A12 p1)))],_,_,(by simp only [A6 w7];rfl),rfl,A3,A3a _ _ (G9 w7 hv1),(.inl rfl)⟩) ?_
 refine gt rfl (vb rfl rfl rfl) (sa rfl rfl rfl (sv rfl (A1 (C1 ?_))))
 cases h
 exact A8 (.inr rfl) (D0 (C2 rfl) M3) (.refl _)
noncomputable def J4 (p1:(List Int))(p2:Int)(x1:Int):Option (Stp Int (Sum Unit Int)):=
  cond (decide (x1< (p1.length:Int))) ((F1 p1 x1).bind fun v1=>cond (p2==v1) (some (.out (.inr x1))) (some (.go (w64 (x1+1))))) (some (.out (.inl ())))
noncomputable def Q4 (p1:(List Int))(p2:Int):Option Int:=
  thenS (loop (J4 p1 p2) 0) (fun _=>some (-1)) (fun r=>some r)
theorem A6f (p1:(List Int))(p2:Int)(r:Int)(h:Q4 p1 p2=some r):PCall Try.prog 119 [(.list (List.map A2 p1)),(i64 p2)] (i64 r):=by
 refine E1 (fk Try.func119 Try.ntmps119 m0 (by with_unfolding_all rfl)) (nl rfl) ?_
 unfold Q4 at h
 refine A7 (s0:=⟨T [(0,(.d _)),(1,(.d _))],G []⟩) (sbr rfl rfl) ?_
 refine lr (fun u1 hu1=>sv rfl (A1 (A5 (lr (fun u2 hu2=>sv rfl (sd rfl (I8 rfl) (sv rfl (A1 (js h fun z1 hz1 h=>F8 (fun s=> ∃(y1:Unit) (g1:Unit),z1= .inl y1∧Sb ⟨T [],G []⟩ s) ?_ ?_)))))))))
 refine A4 (G5 (J4 p1 p2) (fun (x1:Int) (g2:Unit)=>⟨T [(0,(dl A2 p1)),(1,(di p2)),(7,(di (p1.length:Int))),(8,(di x1))],G []⟩) 0 () _ hz1 (sbr rfl rfl) ?_)
 intro x1 g2 z2 hz2 ez2
 unfold J4 at hz2
 refine lr (fun u3 hu3=>sv rfl (A1 (A5 (cc rfl hz2 (fun c1 hz2=> ?_) (fun c1 hz2=> ?_)))))
 refine B4 (A5 (A4 (lr (fun u4 hu4=>sv rfl (sv rfl (A1 (lr (fun u5 hu5=>sv rfl (sv rfl (sv rfl (bs hz2 fun v1 hv1 hz2=>sd rfl (K6 rfl rfl hv1 rfl) (sd rfl (I4 rfl hv1 rfl) (sv rfl (A1 (cc rfl hz2 (fun c2 hz2=> ?_) (fun c2 hz2=> ?_))))))))))))))))
 refine lr (fun u6 hu6=>sv rfl (sv rfl (A1 (C1 ?_))))
 cases hz2
 obtain rfl:=ez2 _ rfl
 refine ⟨nofun,F2 ?_⟩
 rw [Sum.elim_inr]at h
 cases h
 exact A8 (.inr rfl) (D0 (C2 rfl) M3) (.refl _)
 refine B4 (I3 (C3 fun u7 hu7=>sv rfl (sv rfl (A1 (L6 ?_)))))
 cases hz2
 exact ⟨rfl,(),(sbr rfl rfl)⟩
 refine E3 rfl ?_
 cases hz2
 obtain rfl:=ez2 _ rfl
 refine ⟨nofun,D7 rfl (l_j ?_)⟩
 exact ⟨_,(),rfl,(sbr rfl rfl)⟩
 rintro _ ⟨y1,g1,rfl,q1⟩
 rw [Sum.elim_inl]at h
 refine A7 q1 (lr (fun u8 hu8=>sv rfl (A1 (C1 ?_))))
 cases h
 exact A8 (.inr rfl) (D0 (C2 rfl) M3) (.refl _)
noncomputable def D8 (p1:(List Int))(p2:Int):Option Bool:=
  (Q4 p1 p2).bind fun v1=>some (decide (v1≥0))
theorem N1 (p1:(List Int))(p2:Int)(r:Bool)(h:D8 p1 p2=some r):PCall Try.prog 87 [(.list (List.map A2 p1)),(i64 p2)] (bo r):=by
 refine E1 (fk Try.func87 Try.ntmps87 m0 (by with_unfolding_all rfl)) (nl rfl) ?_
 unfold D8 at h
 refine A7 (s0:=⟨T [(0,(.d _)),(1,(.d _))],G []⟩) (sbr rfl rfl) ?_
 refine lr (fun u1 hu1=>sv rfl (A1 (lr (fun u2 hu2=>sv rfl (sv rfl (bs h fun v1 hv1 h=>B7 rfl rfl A3 (A6f _ _ _ hv1) (.inl rfl) (sv rfl (sv rfl (A1 (C1 ?_))))))))))
 cases h
 exact A8 (.inr rfl) (D0 (C2 rfl) M3) (.refl _)
noncomputable def R3 (p1:Signal)(p2:Int)(x2:(Int×Int)):Option (Stp (Int×Int) (Sum Unit Bool)):=
  cond (decide (x2.2< (p1.Phases.length:Int))) ((F1 p1.Phases x2.2).bind fun v5=>cond (decide (x2.1≥v5.Ticks)) (some (.go ((w64 (x2.1 - v5.Ticks)),(w64 (x2.2+1))))) ((D8 v5.Green p2).bind fun v6=>some (.out (.inr v6)))) (some (.out (.inl ())))
noncomputable def U8 (p1:Signal)(x1:(Int×Int)):Option (Stp (Int×Int) Int):=
  cond (decide (x1.2< (p1.Phases.length:Int))) ((F1 p1.Phases x1.2).bind fun v1=>some (.go ((w64 (x1.1+v1.Ticks)),(w64 (x1.2+1))))) (some (.out x1.1))
noncomputable def A2x (p1:Signal)(p2:Int)(p3:Int):Option Bool:=
  (loop (U8 p1) (0,0)).bind fun y1=>(C26 p1.Offset y1).bind fun v2=>(C26 p3 y1).bind fun v3=>(C26 (w64 (v2+v3)) y1).bind fun v4=>thenS (loop (R3 p1 p2) (v4,0)) (fun _=>some false) (fun r=>some r)
theorem A8u (p1:Signal)(p2:Int)(p3:Int)(r:Bool)(h:A2x p1 p2 p3=some r):PCall Try.prog 71 [(.agg [(i64 p1.Offset),(.list (List.map A1c p1.Phases))]),(i64 p2),(i64 p3)] (bo r):=by
 refine E1 (fk Try.func71 Try.ntmps71 m0 (by with_unfolding_all rfl)) (nl rfl) ?_
 unfold A2x at h
 refine A7 (s0:=⟨T [(0,(.d _)),(1,(.d _)),(2,(.d _))],G []⟩) (sbr rfl rfl) ?_
 refine lr (fun u1 hu1=>sn rfl rfl (sv rfl (A1 (C6r (lr (fun u2 hu2=>sv rfl (A1 (A5 (lr (fun u3 hu3=>sp rfl rfl (sl rfl G_hit rfl (sd rfl (I8 rfl) (sv rfl (A1 (bs h fun y1 hy1 h=>F8 (fun s=> ∃g1:Unit,Sb ⟨T [(1,(di p2)),(2,(di p3)),(3,(.ptr (3,u1) 0)),(7,(di y1))],G [((3,u1),some (.box 75 [(di p1.Offset),(dl A1c p1.Phases)]))]⟩ s) ?_ ?_)))))))))))))))
 refine A4 (G5 (U8 p1) (fun (x1:(Int×Int)) (g2:Unit)=>⟨T [(1,(di p2)),(2,(di p3)),(3,(.ptr (3,u1) 0)),(7,(di x1.1)),(14,(dl A1c p1.Phases)),(15,(di (p1.Phases.length:Int))),(16,(di x1.2))],G [((3,u1),some (.box 75 [(di p1.Offset),(dl A1c p1.Phases)]))]⟩) (0,0) () _ hy1 (sbr rfl rfl) ?_)
 intro x1 g2 z1 hz1 ez1
 unfold U8 at hz1
 refine lr (fun u4 hu4=>sv rfl (A1 (A5 (cc rfl hz1 (fun c1 hz1=> ?_) (fun c1 hz1=> ?_)))))
 refine B4 (A5 (A4 (lr (fun u5 hu5=>bs hz1 fun v1 hv1 hz1=>sd rfl (K6 rfl rfl hv1 rfl) (sd rfl (G1 rfl hv1 rfl rfl) (sn rfl rfl (sst rfl G_hit [(di v1.Ticks),(dl A2 v1.Green)] rfl (A1 (C3 fun u6 hu6=>sv rfl (sp rfl rfl (sl rfl G_hit rfl (sv rfl (sv rfl (A1 (I3 (C3 fun u7 hu7=>sv rfl (sv rfl (A1 (L6 ?_)))))))))))))))))))
 cases hz1
 exact ⟨rfl,(),(sbr rfl rfl)⟩
 refine E3 rfl ?_
 cases hz1
 obtain rfl:=ez1 _ rfl
 refine ⟨nofun,D7 rfl (l_j ?_)⟩
 exact ⟨(),(sbr rfl rfl)⟩
 rintro _ ⟨g1,q1⟩
 refine A7 q1 (A5 (A21 rfl fun u8 hu8=>sp rfl rfl (sl rfl G_hit rfl (sv rfl (bs h fun v2 hv2 h=>sd rfl (C29 rfl rfl hv2) (sv rfl (sv rfl (bs h fun v3 hv3 h=>sd rfl (C29 rfl rfl hv3) (sv rfl (sv rfl (bs h fun v4 hv4 h=>sd rfl (C29 rfl rfl hv4) (sv rfl (A1 (A5 (B4 (A5 (lr (fun u9 hu9=>sp rfl rfl (sl rfl G_hit rfl (sd rfl (I8 rfl) (sv rfl (A1 (js h fun z2 hz2 h=>F8 (fun s=> ∃(y2:Unit) (g3:Unit),z2= .inl y2∧Sb ⟨T [],G []⟩ s) ?_ ?_)))))))))))))))))))))))
 refine A4 (G5 (R3 p1 p2) (fun (x2:(Int×Int)) (g4:Unit)=>⟨T [(1,(di p2)),(10,(di x2.1)),(36,(dl A1c p1.Phases)),(37,(di (p1.Phases.length:Int))),(38,(di x2.2))],G []⟩) (v4,0) () _ hz2 (sbr rfl rfl) ?_)
 intro x2 g4 z3 hz3 ez3
 unfold R3 at hz3
 refine lr (fun u10 hu10=>sv rfl (A1 (A5 (cc rfl hz3 (fun c2 hz3=> ?_) (fun c2 hz3=> ?_)))))
 refine B4 (A5 (A4 (lr (fun u11 hu11=>bs hz3 fun v5 hv5 hz3=>sd rfl (K6 rfl rfl hv5 rfl) (sd rfl (G1 rfl hv5 rfl rfl) (sn rfl rfl (sst rfl G_hit [(di v5.Ticks),(dl A2 v5.Green)] rfl (A1 (A5 (lr (fun u12 hu12=>sv rfl (sp rfl rfl (sl rfl G_hit rfl (sv rfl (A1 (cc rfl hz3 (fun c3 hz3=> ?_) (fun c3 hz3=> ?_)))))))))))))))))
 refine lr (fun u13 hu13=>sv rfl (sp rfl rfl (sl rfl G_hit rfl (sv rfl (sv rfl (A1 (C25 rfl (C3 fun u14 hu14=>sv rfl (sv rfl (A1 (L6 ?_)))))))))))
 cases hz3
 exact ⟨rfl,(),(sbr rfl rfl)⟩
 refine B4 (lr (fun u15 hu15=>sp rfl rfl (sl rfl G_hit rfl (sv rfl (bs hz3 fun v6 hv6 hz3=>B7 rfl rfl A3 (N1 _ _ _ hv6) (.inl rfl) (sv rfl (A1 (C1 ?_))))))))
 cases hz3
 obtain rfl:=ez3 _ rfl
 refine ⟨nofun,F2 ?_⟩
 rw [Sum.elim_inr]at h
 cases h
 exact A8 (.inr rfl) (D0 (C2 rfl) M3) (.refl _)
 refine E3 rfl ?_
 cases hz3
 obtain rfl:=ez3 _ rfl
 refine ⟨nofun,D7 rfl (l_j ?_)⟩
 exact ⟨_,(),rfl,(sbr rfl rfl)⟩
 rintro _ ⟨y2,g3,rfl,q2⟩
 rw [Sum.elim_inl]at h
 refine A7 q2 (lr (fun u16 hu16=>sv rfl (A1 (C1 ?_))))
 cases h
 exact A8 (.inr rfl) (D0 (C2 rfl) M3) (.refl _)
noncomputable def A2y (p1:Map)(p2:Int)(p3:Int)(p4:Int):Option Bool:=
  ((cond (((decide (p4≥0))&& (decide (p2≥0)))&& (decide (p2< (p1.Signals.length:Int)))) (A3b p1 p3) (some default))).bind fun v1=>((cond ((((decide (p4≥0))&& (decide (p2≥0)))&& (decide (p2< (p1.Signals.length:Int))))&&v1) (F1 p1.Signals p2) (some default))).bind fun v2=>((cond ((((decide (p4≥0))&& (decide (p2≥0)))&& (decide (p2< (p1.Signals.length:Int))))&&v1) (A2x v2 p3 p4) (some default))).bind fun v3=>some (((((decide (p4≥0))&& (decide (p2≥0)))&& (decide (p2< (p1.Signals.length:Int))))&&v1)&&v3)
theorem A8v (p1:Map)(p2:Int)(p3:Int)(p4:Int)(r:Bool)(h:A2y p1 p2 p3 p4=some r):PCall Try.prog 36 [(.agg (A12 p1)),(i64 p2),(i64 p3),(i64 p4)] (bo r):=by
 refine E1 (fk Try.func36 Try.ntmps36 m0 (by with_unfolding_all rfl)) (nl rfl) ?_
 unfold A2y at h
 refine A7 (s0:=⟨T [(0,(.d _)),(1,(.d _)),(2,(.d _)),(3,(.d _))],G []⟩) (sbr rfl rfl) ?_
 refine lr (fun u1 hu1=>sn rfl rfl (sv rfl (A1 (lr (fun u2 hu2=>sv rfl (sv rfl (sv rfl (gt rfl (fun _=>rfl) (gt rfl (vb rfl rfl rfl) (sa rfl rfl rfl (sv rfl (gt rfl (fun _=>rfl) (gp rfl (A38 rfl) (fun _=>rfl) (gt rfl (vl rfl G_hit rfl) (gt rfl (fun w6=>(I8 (A6 w6))) (gt rfl (fun w7=>(A5i (A6 w7) (A6 w7) rfl)) (sa rfl rfl rfl (sv rfl (gt rfl (fun w8=>(B9 rfl G_hit rfl rfl)) (gt rfl (fun _=>rfl) (bs h fun v1 hv1 h=> ?_)))))))))))))))))))))
 refine V3 _ (bo v1) (A38 rfl) (fun w10=>⟨_,[(.d (.agg (A12 p1))),(di p3)],_,_,(by simp only [A6 w10];rfl),rfl,A3,A6e _ _ _ (G9 w10 hv1),(.inl rfl)⟩) ?_
 refine sa rfl rfl rfl (sv rfl (gp rfl (A38 rfl) (fun _=>rfl) (gt rfl (vl rfl G_hit rfl) (gt rfl (fun _=>rfl) (bs h fun v2 hv2 h=>gt rfl (fun w14=>(K6 (A6 w14) (A6 w14) (G9 w14 hv2) rfl)) (gt rfl (fun w15=>(G1 (A6 w15) (G9 w15 hv2) rfl rfl)) (gt rfl (fun _=>rfl) (gt rfl (fun _=>rfl) (bs h fun v3 hv3 h=> ?_)))))))))
 refine V3 _ (bo v3) (A38 rfl) (fun w18=>⟨_,[(.d (.agg [(i64 v2.Offset),(.list (List.map A1c v2.Phases))])),(di p3),(di p4)],_,_,(by simp only [A6 w18];rfl),rfl,A3,A8u _ _ _ _ (G9 w18 hv3),(.inl rfl)⟩) ?_
 refine sa rfl rfl rfl (sv rfl (A1 (C1 ?_)))
 cases h
 exact A8 (.inr rfl) (D0 (C2 rfl) M3) (.refl _)
noncomputable def A4n (p1:Int):Option Int:=
  (cond (decide (p1≥4294967296)) (some ((p1.fdiv (2^ (min (32:Int).toNat (IntKind.bits .u64)))),32)) (some (p1,0))).bind fun y1=>(cond (decide (y1.1≥65536)) (some ((y1.1.fdiv (2^ (min (16:Int).toNat (IntKind.bits .u64)))),(w64 (y1.2+16)))) (some (y1.1,y1.2))).bind fun y2=>cond (decide (y2.1≥256)) ((C9b (ByteArray.mk #[0,1,2,2,3,3,3,3,4,4,4,4,4,4,4,4,5,5,5,5,5,5,5,5,5,5,5,5,5,5,5,5,6,6,6,6,6,6,6,6,6,6,6,6,6,6,6,6,6,6,6,6,6,6,6,6,6,6,6,6,6,6,6,6,7,7,7,7,7,7,7,7,7,7,7,7,7,7,7,7,7,7,7,7,7,7,7,7,7,7,7,7,7,7,7,7,7,7,7,7,7,7,7,7,7,7,7,7,7,7,7,7,7,7,7,7,7,7,7,7,7,7,7,7,7,7,7,7,8,8,8,8,8,8,8,8,8,8,8,8,8,8,8,8,8,8,8,8,8,8,8,8,8,8,8,8,8,8,8,8,8,8,8,8,8,8,8,8,8,8,8,8,8,8,8,8,8,8,8,8,8,8,8,8,8,8,8,8,8,8,8,8,8,8,8,8,8,8,8,8,8,8,8,8,8,8,8,8,8,8,8,8,8,8,8,8,8,8,8,8,8,8,8,8,8,8,8,8,8,8,8,8,8,8,8,8,8,8,8,8,8,8,8,8,8,8,8,8,8,8,8,8,8,8,8,8]) (IntKind.wrap .u8 (y2.1.fdiv (2^ (min (8:Int).toNat (IntKind.bits .u64)))))).bind fun v1=>some (w64 ((w64 (y2.2+8))+ (w64 v1)))) ((C9b (ByteArray.mk #[0,1,2,2,3,3,3,3,4,4,4,4,4,4,4,4,5,5,5,5,5,5,5,5,5,5,5,5,5,5,5,5,6,6,6,6,6,6,6,6,6,6,6,6,6,6,6,6,6,6,6,6,6,6,6,6,6,6,6,6,6,6,6,6,7,7,7,7,7,7,7,7,7,7,7,7,7,7,7,7,7,7,7,7,7,7,7,7,7,7,7,7,7,7,7,7,7,7,7,7,7,7,7,7,7,7,7,7,7,7,7,7,7,7,7,7,7,7,7,7,7,7,7,7,7,7,7,7,8,8,8,8,8,8,8,8,8,8,8,8,8,8,8,8,8,8,8,8,8,8,8,8,8,8,8,8,8,8,8,8,8,8,8,8,8,8,8,8,8,8,8,8,8,8,8,8,8,8,8,8,8,8,8,8,8,8,8,8,8,8,8,8,8,8,8,8,8,8,8,8,8,8,8,8,8,8,8,8,8,8,8,8,8,8,8,8,8,8,8,8,8,8,8,8,8,8,8,8,8,8,8,8,8,8,8,8,8,8,8,8,8,8,8,8,8,8,8,8,8,8,8,8,8,8,8,8]) (IntKind.wrap .u8 y2.1)).bind fun v2=>some (w64 (y2.2+ (w64 v2))))
theorem B02 (p1:Int)(r:Int)(h:A4n p1=some r):PCall Try.prog 144 [(.v (.int .u64 p1))] (i64 r):=by
 refine E1 (fk Try.func144 Try.ntmps144 m0 (by with_unfolding_all rfl)) (nl rfl) ?_
 unfold A4n at h
 refine A7 (s0:=⟨T [(0,(.d _))],G []⟩) (sbr rfl rfl) ?_
 refine lr (fun u1 hu1=>sv rfl (A1 (A5 (lr (fun u2 hu2=>sv rfl (sv rfl (A1 (bs h fun y1 hy1 h=>F8 (fun s=> ∃g1:Unit,Sb ⟨T [(0,(.d (.v (.int .u64 y1.1)))),(2,(di y1.2))],G []⟩ s) ?_ ?_))))))))
 refine cc rfl hy1 (fun c1 hy1=> ?_) (fun c1 hy1=> ?_)
 refine lr (fun u3 hu3=>sv rfl (sv rfl (sv rfl (A1 (C3 fun u4 hu4=>sv rfl (A1 ?_))))))
 cases hy1
 exact l_j ⟨(),(sbr rfl rfl)⟩
 refine B4 ?_
 cases hy1
 exact l_j ⟨(),(sbr rfl rfl)⟩
 rintro _ ⟨g1,q1⟩
 refine A7 q1 (A5 (lr (fun u5 hu5=>sv rfl (sv rfl (A1 (bs h fun y2 hy2 h=>F8 (fun s=> ∃g2:Unit,Sb ⟨T [(0,(.d (.v (.int .u64 y2.1)))),(2,(di y2.2))],G []⟩ s) ?_ ?_))))))
 refine cc rfl hy2 (fun c2 hy2=> ?_) (fun c2 hy2=> ?_)
 refine lr (fun u6 hu6=>sv rfl (sv rfl (sv rfl (A1 (C3 fun u7 hu7=>sv rfl (sv rfl (sv rfl (A1 ?_))))))))
 cases hy2
 exact l_j ⟨(),(sbr rfl rfl)⟩
 refine B4 ?_
 cases hy2
 exact l_j ⟨(),(sbr rfl rfl)⟩
 rintro _ ⟨g2,q2⟩
 refine A7 q2 (A5 (lr (fun u8 hu8=>sv rfl (sv rfl (A1 (cc rfl h (fun c3 h=> ?_) (fun c3 h=> ?_)))))))
 refine lr (fun u9 hu9=>sv rfl (sv rfl (sv rfl (A1 (C3 fun u10 hu10=>sv rfl (sv rfl (sv rfl (A1 (lr (fun u11 hu11=>sv rfl (sv rfl (sv rfl (bs h fun v1 hv1 h=>sd rfl (C5q rfl rfl hv1) (sv rfl (sv rfl (sv rfl (A1 (C1 ?_))))))))))))))))))
 cases h
 exact A8 (.inr rfl) (D0 (C2 rfl) M3) (.refl _)
 refine B4 (lr (fun u12 hu12=>sv rfl (sv rfl (sv rfl (bs h fun v2 hv2 h=>sd rfl (C5q rfl rfl hv2) (sv rfl (sv rfl (sv rfl (A1 (C1 ?_))))))))))
 cases h
 exact A8 (.inr rfl) (D0 (C2 rfl) M3) (.refl _)
noncomputable def A16 (p1:Int):Option Int:=
  (A4n p1).bind fun v1=>some v1
theorem A73 (p1:Int)(r:Int)(h:A16 p1=some r):PCall Try.prog 126 [(.v (.int .u64 p1))] (i64 r):=by
 refine E1 (fk Try.func126 Try.ntmps126 m0 (by with_unfolding_all rfl)) (nl rfl) ?_
 unfold A16 at h
 refine A7 (s0:=⟨T [(0,(.d _))],G []⟩) (sbr rfl rfl) ?_
 refine lr (fun u1 hu1=>sv rfl (A1 (A5 (C6s rfl (B4 (lr (fun u2 hu2=>sv rfl (bs h fun v1 hv1 h=>B7 rfl rfl A3 (B02 _ _ hv1) (.inl rfl) (sv rfl (A1 (C1 ?_)))))))))))
 cases h
 exact A8 (.inr rfl) (D0 (C2 rfl) M3) (.refl _)
noncomputable def Y2 (p1:Int):Option Bool:=
  some (p1 !=p1)
theorem A5c (p1:Int)(r:Bool)(h:Y2 p1=some r):PCall Try.prog 98 [(i64 p1)] (bo r):=by
 refine E1 (fk Try.func98 Try.ntmps98 m0 (by with_unfolding_all rfl)) (nl rfl) ?_
 unfold Y2 at h
 refine A7 (s0:=⟨T [(0,(.d _))],G []⟩) (sbr rfl rfl) ?_
 refine lr (fun u1 hu1=>sv rfl (A1 (lr (fun u2 hu2=>sv rfl (sv rfl (sv rfl (sv rfl (A1 (C1 ?_)))))))))
 cases h
 exact A8 (.inr rfl) (D0 (C2 rfl) M3) (.refl _)
noncomputable def A1j (p1:Int)(p2:Int):Option Bool:=
  (Y2 p1).bind fun v1=>((cond v1 (Y2 p2) (some default))).bind fun v2=>some ((v1&& (!v2))||(decide (p1<p2)))
theorem B0z (p1:Int)(p2:Int)(r:Bool)(h:A1j p1 p2=some r):PCall Try.prog 140 [(i64 p1),(i64 p2)] (bo r):=by
 refine E1 (fk Try.func140 Try.ntmps140 m0 (by with_unfolding_all rfl)) (nl rfl) ?_
 unfold A1j at h
 refine A7 (s0:=⟨T [(0,(.d _)),(1,(.d _))],G []⟩) (sbr rfl rfl) ?_
 refine lr (fun u1 hu1=>sv rfl (A1 (lr (fun u2 hu2=>sv rfl (bs h fun v1 hv1 h=>B7 rfl rfl A3 (A5c _ _ hv1) (.inl rfl) (sv rfl (gt rfl (fun _=>rfl) (bs h fun v2 hv2 h=> ?_))))))))
 refine V3 v1 (bo v2) (A38 rfl) (fun w2=>⟨_,[(di p2)],_,_,(by simp only [A6 w2];rfl),rfl,A3,A5c _ _ (G9 w2 hv2),(.inl rfl)⟩) ?_
 refine A1i _ (.d (bo (!v2))) rfl (A38 rfl) (fun w3=>(by simp only [A6 w3];rfl)) ?_
 refine sa rfl rfl rfl (sv rfl (gf rfl (fun _=>rfl) (gf rfl (fun _=>rfl) (gf rfl (fun w6=>(A5i (A6 w6) (A6 w6) rfl)) (sd rfl (A8s rfl rfl (fun hc=>A6 (A1h hc))) (sv rfl (A1 (C1 ?_))))))))
 cases h
 exact A8 (.inr rfl) (D0 (C2 rfl) M3) (.refl _)
noncomputable def B8 (p2:Int)(x2:(Int× (List Int))):Option (Stp (Int× (List Int)) (List Int)):=
  ((cond (decide (x2.1>p2)) (F1 x2.2 x2.1) (some default))).bind fun v1=>((cond (decide (x2.1>p2)) (F1 x2.2 (w64 (x2.1 - 1))) (some default))).bind fun v2=>((cond (decide (x2.1>p2)) (A1j v1 v2) (some default))).bind fun v3=>cond ((decide (x2.1>p2))&&v3) ((F1 x2.2 (w64 (x2.1 - 1))).bind fun v4=>(F1 x2.2 x2.1).bind fun v5=>(F1 x2.2 x2.1).bind fun v6=>(F1 (B5b x2.2 x2.1 v4) (w64 (x2.1 - 1))).bind fun v7=>some (.go ((w64 (x2.1 - 1)),(B5b (B5b x2.2 x2.1 v4) (w64 (x2.1 - 1)) v5)))) (some (.out x2.2))
noncomputable def C6 (p2:Int)(p3:Int)(x1:(Int× (List Int))):Option (Stp (Int× (List Int)) (List Int)):=
  cond (decide (x1.1<p3)) ((loop (B8 p2) (x1.1,x1.2)).bind fun y1=>some (.go ((w64 (x1.1+1)),y1))) (some (.out (x1.2)))
noncomputable def E4 (p1:(List Int))(p2:Int)(p3:Int):Option (List Int):=
  loop (C6 p2 p3) ((w64 (p2+1)),p1)
theorem A17 (p1:(List Int))(p2:Int)(p3:Int)(r:(List Int))(h:E4 p1 p2 p3=some r):MCall Try.prog 134 [(.sl (900000,0)),(di p2),(di p3)] [(.arr 2 1 (List.map A2 p1))] (.d (.tup [])) [some (.arr 2 1 (List.map A2 r))] []:=by
 refine A9a (fk Try.func134 Try.ntmps134 m0 (by with_unfolding_all rfl)) rfl (nl rfl) ?_
 unfold E4 at h
 refine A7 (s0:=⟨T [(0,(.sl _)),(1,(.d _)),(2,(.d _))],G [((900000,0),some _)]⟩) (sbr rfl rfl) ?_
 refine lr (fun u1 hu1=>sv rfl (sv rfl (sv rfl (A1 (A4 (G5 (C6 p2 p3) (fun (x1:(Int× (List Int))) (g1:Unit)=>⟨T [(0,(.sl (900000,0))),(1,(di p2)),(2,(di p3)),(6,(di x1.1))],G [((900000,0),some (.arr 2 1 (List.map A2 x1.2)))]⟩) ((w64 (p2+1)),p1) () _ h (sbr rfl rfl) ?_))))))
 intro x1 g1 z1 hz1 ez1
 unfold C6 at hz1
 refine A5 (lr (fun u2 hu2=>sv rfl (sv rfl (sv rfl (A1 (cc rfl hz1 (fun c1 hz1=> ?_) (fun c1 hz1=> ?_)))))))
 refine B4 (A5 (A4 (lr (fun u3 hu3=>sv rfl (sv rfl (A1 (bs hz1 fun y1 hy1 hz1=>F8 (fun s=> ∃g2:Unit,Sb ⟨T [(0,(.sl (900000,0))),(1,(di p2)),(2,(di p3)),(6,(di x1.1))],G [((900000,0),some (.arr 2 1 (List.map A2 y1)))]⟩ s) ?_ ?_)))))))
 refine A4 (G5 (B8 p2) (fun (x2:(Int× (List Int))) (g3:Unit)=>⟨T [(0,(.sl (900000,0))),(1,(di p2)),(2,(di p3)),(6,(di x1.1)),(7,(di x2.1))],G [((900000,0),some (.arr 2 1 (List.map A2 x2.2)))]⟩) (x1.1,x1.2) () _ hy1 (sbr rfl rfl) ?_)
 intro x2 g3 z2 hz2 ez2
 unfold B8 at hz2
 refine A5 (A5 (A21 rfl fun u4 hu4=>sv rfl (sv rfl (sv rfl (sv rfl (A1i _ (.sl _) rfl (A38 rfl) (fun _=>rfl) (gt rfl (fun _=>rfl) (bs hz2 fun v1 hv1 hz2=>A1i _ (.aptr _ _ _ _) rfl (A38 rfl) (fun w3=>(A9x (A6 w3) (A6 w3) G_hit (G9 w3 hv1))) (gt rfl (fun w4=>(B5d (A6 w4) G_hit (G9 w4 hv1) rfl)) (A1i _ (.sl _) rfl (A38 rfl) (fun _=>rfl) (gt rfl (fun _=>rfl) (gt rfl (vb rfl rfl rfl) (bs hz2 fun v2 hv2 hz2=>A1i _ (.aptr _ _ _ _) rfl (A38 rfl) (fun w8=>(A9x (A6 w8) (A6 w8) G_hit (G9 w8 hv2))) (gt rfl (fun w9=>(B5d (A6 w9) G_hit (G9 w9 hv2) rfl)) (bs hz2 fun v3 hv3 hz2=> ?_)))))))))))))))
 refine V3 _ (bo v3) (A38 rfl) (fun w10=>⟨_,[(di v1),(di v2)],_,_,(by simp only [A6 w10];rfl),rfl,A3,B0z _ _ _ (G9 w10 hv3),(.inl rfl)⟩) ?_
 refine sa rfl rfl rfl (A1 (cc rfl hz2 (fun c2 hz2=> ?_) (fun c2 hz2=> ?_)))
 refine B4 (A5 (A4 (A21 rfl fun u5 hu5=>ss rfl (sv rfl (ss rfl (sv rfl (sv rfl (ss rfl (sv rfl (sv rfl (bs hz2 fun v4 hv4 hz2=>D3 (.aptr _ _ _ _) rfl (A9x rfl rfl G_hit hv4) (sd rfl (B5d rfl G_hit hv4 rfl) (ss rfl (sv rfl (bs hz2 fun v5 hv5 hz2=>D3 (.aptr _ _ _ _) rfl (A9x rfl rfl G_hit hv5) (sd rfl (B5d rfl G_hit hv5 rfl) (bs hz2 fun v6 hv6 hz2=>D3 (.aptr _ _ _ _) rfl (A9x rfl rfl G_hit hv6) (B5c A2 _ _ _ (x2.1) _ v4 [(i64 v4)] rfl rfl rfl G_hit hv6 (nl rfl) rfl (bs hz2 fun v7 hv7 hz2=>D3 (.aptr _ _ _ _) rfl (A9x rfl rfl G_hit hv7) (B5c A2 _ _ _ ((w64 (x2.1 - 1))) _ v5 [(i64 v5)] rfl rfl rfl G_hit hv7 (nl rfl) rfl (A1 (I3 (A7 (s0:=⟨T [(0,(.sl _)),(1,(.d _)),(2,(.d _)),(6,(.d _)),(7,(.d _))],G [((900000,0),some _)]⟩) (sbr rfl rfl) ?_)))))))))))))))))))))))
 refine C3 fun u6 hu6=>sv rfl (sv rfl (sv rfl (A1 (L6 ?_))))
 cases hz2
 exact ⟨rfl,(),(sbr rfl rfl)⟩
 refine E3 rfl ?_
 cases hz2
 obtain rfl:=ez2 _ rfl
 refine ⟨nofun,D7 rfl (l_j ?_)⟩
 exact ⟨(),(sbr rfl rfl)⟩
 rintro _ ⟨g2,q1⟩
 refine I3 (A7 q1 (C3 fun u7 hu7=>sv rfl (sv rfl (sv rfl (A1 (L6 ?_))))))
 cases hz1
 exact ⟨rfl,(),(sbr rfl rfl)⟩
 refine E3 rfl ?_
 cases hz1
 obtain rfl:=ez1 _ rfl
 refine ⟨nofun,D7 rfl (L6 ?_)⟩
 exact B1h (.inl rfl) [] C2f (.refl _) ⟨⟨G_hit,O3⟩,trivial⟩
noncomputable def L7 (p1:(List Int))(x1:(Int×Int×Int×Bool×Bool)):Option (Stp (Int×Int×Int×Bool×Bool) (List Int)):=
  cond (decide ((w64 (x1.2.1 - x1.1))≤12)) ((E4 p1 x1.1 x1.2.1).bind fun v1=>some (.out (v1))) (cond (x1.2.2.1==0) (none) ((cond (!x1.2.2.2.1) (none) (some ())).bind fun _=>none))
noncomputable def O5 (p1:(List Int))(p2:Int)(p3:Int)(p4:Int):Option (List Int):=
  loop (L7 p1) (p2,p3,p4,true,true)
theorem A2s (p1:(List Int))(p2:Int)(p3:Int)(p4:Int)(r:(List Int))(h:O5 p1 p2 p3 p4=some r):MCall Try.prog 125 [(.sl (900000,0)),(di p2),(di p3),(di p4)] [(.arr 2 1 (List.map A2 p1))] (.d (.tup [])) [some (.arr 2 1 (List.map A2 r))] []:=by
 refine A9a (fk Try.func125 Try.ntmps125 (fun r=>if r==4 then [1004003]else []) (by with_unfolding_all rfl)) rfl (nl rfl) ?_
 unfold O5 at h
 refine A7 (s0:=⟨T [(0,(.sl _)),(1,(.d _)),(2,(.d _)),(3,(.d _))],G [((900000,0),some _)]⟩) (sbr rfl rfl) ?_
 refine lr (fun u1 hu1=>sv rfl (A1 (lr (fun u2 hu2=>sv rfl (A1 (A4 (G5 (L7 p1) (fun (x1:(Int×Int×Int×Bool×Bool)) (g1:Unit)=>⟨T [(0,(.sl (900000,0))),(1,(di x1.1)),(2,(di x1.2.1)),(3,(di x1.2.2.1)),(8,(.d (bo x1.2.2.2.1))),(9,(.d (bo x1.2.2.2.2)))],G [((900000,0),some (.arr 2 1 (List.map A2 p1)))]⟩) (p2,p3,p4,true,true) () _ h (sbr rfl rfl) ?_)))))))
 intro x1 g1 z1 hz1 ez1
 unfold L7 at hz1
 refine A4 (lr (fun u3 hu3=>sv rfl (sv rfl (sv rfl (sv rfl (A1 (A5 (lr (fun u4 hu4=>sv rfl (sv rfl (A1 (cc rfl hz1 (fun c1 hz1=> ?_) (fun c1 hz1=> ?_)))))))))))))
 refine lr (fun u5 hu5=>ss rfl (sv rfl (sv rfl (bs hz1 fun v1 hv1 hz1=>C3c (v:= .d (.tup [])) (us:= [(900000,0)]) (C5o (A17 _ _ _ _ hv1) [(900000,0)] [(900000,0)] _ (((900000,0),some (.arr 2 1 (List.map A2 v1)))::_) rfl A7h (U0 C4r (U0 C3b (U0 C3b A7g))) (A0d G_hit A5b) ⟨⟨_,G_hit, .of rfl⟩,trivial⟩ (fun _ h=>h) nd1 rfl rfl rfl) (A1 (C1 ?_))))))
 cases hz1
 obtain rfl:=ez1 _ rfl
 refine ⟨nofun,F2 ?_⟩
 exact B1h (.inr rfl) [] C2f (.refl _) ⟨⟨G_hit,O3⟩,trivial⟩
 refine B4 (A5 (lr (fun u6 hu6=>sv rfl (sv rfl (A1 (cc rfl hz1 (fun c2 hz1=> ?_) (fun c2 hz1=> ?_)))))))
 refine lr (fun u7 hu7=>ss rfl (sv rfl (sv rfl ?_)))
 cases hz1
 refine B4 (A5 (lr (fun u8 hu8=>sv rfl (D3 (.d (bo (!x1.2.2.2.1))) rfl rfl (A1 (bs hz1 fun y1 hy1 hz1=>F8 (fun s=> ∃g2:Unit,Sb ⟨T [(0,(.sl (900000,0))),(1,(di x1.1)),(2,(di x1.2.1)),(3,(di x1.2.2.1)),(8,(.d (bo x1.2.2.2.1))),(9,(.d (bo x1.2.2.2.2))),(10,(di (w64 (x1.2.1 - x1.1))))],G [((900000,0),some (.arr 2 1 (List.map A2 p1)))]⟩ s) ?_ ?_))))))
 refine cc rfl hy1 (fun c3 hy1=> ?_) (fun c3 hy1=> ?_)
 refine lr (fun u9 hu9=>ss rfl (sv rfl (sv rfl ?_)))
 cases hy1
 refine B4 ?_
 cases hy1
 exact l_j ⟨(),(sbr rfl rfl)⟩
 rintro _ ⟨g2,q1⟩
 refine A7 q1 (lr (fun u10 hu10=>ss rfl (sv rfl (sv rfl ?_))))
 cases hz1
noncomputable def O0 (p1:(List Int)):Option (List Int):=
  (A16 (IntKind.wrap .u64 (p1.length:Int))).bind fun v1=>(O5 p1 0 (p1.length:Int) v1).bind fun v2=>some v2
theorem A49 (p1:(List Int))(r:(List Int))(h:O0 p1=some r):MCall Try.prog 100 [(.sl (900000,0))] [(.arr 2 1 (List.map A2 p1))] (.d (.tup [])) [some (.arr 2 1 (List.map A2 r))] []:=by
 refine A9a (fk Try.func100 Try.ntmps100 (fun r=>if r==1 then [1001005]else []) (by with_unfolding_all rfl)) rfl (nl rfl) ?_
 unfold O0 at h
 refine A7 (s0:=⟨T [(0,(.sl _))],G [((900000,0),some _)]⟩) (sbr rfl rfl) ?_
 refine lr (fun u1 hu1=>ss rfl (sd rfl (C8d (f:=A2) rfl G_hit) (sv rfl (A1 (C3 fun u2 hu2=>ss rfl (sv rfl (sv rfl (sv rfl (bs h fun v1 hv1 h=>B7 rfl rfl A3 (A73 _ _ hv1) (.inl rfl) (bs h fun v2 hv2 h=>C3c (v:= .d (.tup [])) (us:= [(900000,0)]) (C5o (A2s _ _ _ _ _ hv2) [(900000,0)] [(900000,0)] _ (((900000,0),some (.arr 2 1 (List.map A2 v2)))::_) rfl A7h (U0 C4r (U0 C3b (U0 C3b (U0 C3b A7g)))) (A0d G_hit A5b) ⟨⟨_,G_hit, .of rfl⟩,trivial⟩ (fun _ h=>h) nd1 rfl rfl rfl) (A1 (L6 ?_))))))))))))
 cases h
 exact B1h (.inl rfl) [] C2f (.refl _) ⟨⟨G_hit,O3⟩,trivial⟩
section
open Go.RowKit Go.Lib
noncomputable def cmpR:Go.Shelf.Ren:=⟨fun n=>if n=43 then 101 else 0,fun t=>if t=22 then 59 else if t=23 then 2 else t,fun x=>x⟩
theorem cmp_lay:SlLaysE.n43 Try.prog cmpR where
  mixed:=by kernel_rfl
  f43:=⟨Try.f101.name,by decide,by kernel_rfl⟩
  t0:=Try.underlying0
  a0:=Try.isAgg0
  z0:=Try.sizeOf0
  v0:=Try.zeroValue0
  t3:=Try.underlying3
  a3:=Try.isAgg3
  z3:=Try.sizeOf3
  v3:=Try.zeroValue3
  t4:=Try.underlying4
  a4:=Try.isAgg4
  z4:=Try.sizeOf4
  v4:=Try.zeroValue4
  t22:=Try.underlying59
  a22:=Try.isAgg59
  z22:=Try.sizeOf59
  v22:=Try.zeroValue59
  a23:=Try.isAgg2
  z23:=Try.sizeOf2
theorem C2m (g cap:Nat)(d:Array Int)(w:World)(hH:Go.Sort.Holds (Value.int .i64) w g 0 d)(hsz:d.size≤9223372036854775807)(hcap:d.size≤cap):
    Calls Try.prog 101 #[.slice (some ⟨g,0,none⟩) d.size cap] w fun e w'=>e= .returned (.slice (some ⟨g,0,none⟩) (Go.Lib.compactUpTo d d.size).length cap)∧∃q,w'=Go.Sort.putRow (Value.int .i64) (Go.Sort.ahead w q) g 0 (Go.Lib.compactUpTo d d.size++List.replicate (d.size - (Go.Lib.compactUpTo d d.size).length) 0).toArray:=
  AnyE.slices_Compact cmp_lay (Value.int .i64) (fun _=>rfl) (.intD _ _ _) (.intD _ _ _) 0 Try.zeroValue2 g 0 cap d w hH hsz hcap
theorem C75 (d:Array Int):(Go.Lib.compactUpTo d d.size).length≤d.size:=by
  unfold Go.Lib.compactUpTo
  rw [List.length_map]
  refine Nat.le_trans (List.length_filter_le _ _) ?_
  rw [List.length_range];exact Nat.le_refl _
theorem B6v (xs:List Int): ∀m,m≤xs.length→Go.Lib.compactUpTo xs.toArray m=A1b (xs.take m)
  |0,_=>rfl
  |m+1,h=>by
   rw [Go.Lib.compactUpTo_succ,B6v xs m (by omega),List.take_add_one,List.getElem?_eq_getElem (by omega),Option.toList_some,B31]
   congr 1
   have hm:m<xs.length:=by omega
   have e1:xs.toArray[m]! =xs[m]:=by rw [getElem!_pos xs.toArray m (by simpa using hm)];simp
   rw [Go.Lib.keeps,e1]
   cases m with
   |zero=>simp
   |succ k=>
    have e2:xs.toArray[k]! =xs[k]:=by rw [getElem!_pos xs.toArray k (by rw [List.size_toArray];omega)];simp
    have e3:(xs.take (k+1)).getLast? =some xs[k]:=by rw [List.take_add_one,List.getElem?_eq_getElem (by omega),Option.toList_some,List.getLast?_append];simp
    rw [Nat.add_sub_cancel,e2,e3]
    by_cases e:xs[k+1]=xs[k]
    ·simp [e]
    ·rw [if_pos (by simp [e]),if_neg (fun q=>e (Option.some.inj q).symm)]
theorem C9u (xs r:List Int)(hr:B2b xs=some r):MCall Try.prog 101 [.sl (900000,0)] [.arr 2 1 (List.map A2 xs)] (.sl (800000,0)) [none] [some (.arr 2 1 (List.map A2 r))]:=by
  obtain ⟨hx,rfl⟩:=B6t hr
  clear hr
  refine ⟨rfl,fun vs w=> ?_,fun w I ρ vs H hlen hrep=> ?_⟩
  ·have hn': ¬Try.f101.name= "runtime.NumGoroutine" :=by decide
   have hb: ∃c,Try.f101.body=some c:=⟨_,rfl⟩
   obtain ⟨c,hb⟩:=hb
   simp [callFunc,Try.func101,hb,hn']
  have hnx:0<xs.length:=List.length_pos_iff.2 hx
  obtain ⟨a,rfl⟩: ∃a,vs= [a]:=by
    match vs,hlen with
    | [a],_=>exact ⟨a,rfl⟩
  have r0:=hrep 0 _ rfl
  simp only [List.getD_cons_zero]at r0
  have hb0:G (C0m 0 [Blk.arr 2 1 (List.map A2 xs)]) (A4h 0)=some (.arr 2 1 (List.map A2 xs)):=rfl
  obtain ⟨x0,cx,p1,p2,p3,p4⟩:=H.blk _ _ hb0
  have e0:a=x0:=by
    cases r0 with
    |sl _ _ h=>exact Option.some.inj (h.symm.trans p1)
  subst e0
  obtain ⟨hxl,hx'|⟨g,c,cur,rfl,_,hg,hnc,hcm,hcs,hxc⟩⟩:=p2
  ·rw [List.length_map]at hx';omega
  rw [List.length_map]at hxl hnc hxc
  have hval: ∀i (hi:i<xs.length),cur[i]? =some (.int .i64 xs[i]):=by
    intro i hi
    obtain ⟨_,g2⟩:=p4 i 0 (.v (.int .i64 xs[i])) (by simp [at2,hi,A2])
    have:cx.getD (i*1+0) undef= .int .i64 xs[i]:=by generalize cx.getD (i*1+0) undef=y at g2;cases g2;rfl
    rw [← hxc,List.getD,List.getElem?_take,if_pos (by omega),Nat.mul_one,Nat.add_zero,Array.getElem?_toList]at this
    rw [Array.getElem?_eq_getElem (by omega)]at this ⊢
    rw [Option.getD_some]at this
    rw [this]
  have hH:Go.Sort.Holds (Value.int .i64) w g 0 xs.toArray:=by
    intro j hj
    rw [List.size_toArray]at hj
    have h2:=hval j hj
    refine ⟨?_,by simp [World.frozen?,hg]⟩
    simp [World.cell?,hg,h2,hj]
  have locx:N2 ρ (A4h 0) (.arr 2 1 (List.map A2 xs))=some g:=by simp [N2,p1,Value.ownBlock]
  have hca:=C2m g c xs.toArray w hH (by rw [List.size_toArray];unfold maxLen at hcm;omega) (by rw [List.size_toArray];exact hnc)
  have hcl:=C75 xs.toArray
  rw [List.size_toArray]at hca hcl
  rw [List.length_map]
  refine hca.mono ?_
  rintro e w' ⟨rfl,q,hw'⟩
  have hheap: ∀k,w'.heap[k]? =if k=g then some (.cells (Go.Sort.putCells (Value.int .i64) 0 (Go.Lib.compactUpTo xs.toArray xs.length++List.replicate (xs.length - (Go.Lib.compactUpTo xs.toArray xs.length).length) 0).toArray cur) 2 (0,0))else w.heap[k]?:=by
    intro k
    rw [hw']
    show (w.heap.modify g _)[k]? =_
    rw [Array.getElem?_modify]
    by_cases e:g=k
    ·subst e;rw [if_pos rfl,if_pos rfl,hg];rfl
    ·rw [if_neg e,if_neg (Ne.symm e)]
  have hos:w'.os=w.os∧w'.tape=w.tape∧w'.output=w.output∧w'.heap.size=w.heap.size:=by rw [hw'];exact ⟨rfl,rfl,rfl,by simp⟩
  clear hw' hca hH
  generalize hC:Go.Lib.compactUpTo xs.toArray xs.length=C at hcl hheap ⊢
  have hCc:A1b xs=C:=by rw [← hC,B6v xs _ (Nat.le_refl _),List.take_length]
  rw [hCc]
  obtain ⟨Z,hZ⟩: ∃Z:Array Int,Z=(C++List.replicate (xs.length - C.length) 0).toArray:=⟨_,rfl⟩
  rw [← hZ]at hheap
  have hZs:Z.size=xs.length:=by rw [hZ];simp;omega
  have hZg: ∀i (hi:i<C.length),Z[i]! =C[i]:=by
    intro i hi
    have hlt:i<Z.size:=by omega
    rw [getElem!_pos Z i hlt]
    subst hZ
    rw [List.getElem_toArray,List.getElem_append_left hi]
  clear hZ hC hCc
  obtain ⟨u0,hu0⟩:=H.fresh
  have hk0:ρ (7,u0)=none:=hu0 7 u0 (Nat.le_refl _)
  have hgI: ¬I g:=H.notI _ _ g hb0 locx
  have hgo:own ρ (G (C0m 0 [Blk.arr 2 1 (List.map A2 xs)])) g:=⟨_,_,hb0,locx⟩
  have hother: ∀k,k≠g→w'.heap[k]? =w.heap[k]?:=fun k hk=>by rw [hheap,if_neg hk]
  have hI': ∀b,I b→w'.heap[b]? =w.heap[b]?:=fun b hb=>hother b (fun e=>hgI (e▸hb))
  have H0:HeapOK w' I ρ (fun _=>none):=⟨fun k b hb=>(by cases hb),fun k k' b b' g h1=>(by cases h1),fun k b g h1=>(by cases h1),fun k b g h1=>(by cases h1),fun b hb=>by rw [hos.2.2.2];exact H.ilt b hb,⟨u0,hu0⟩,H.rone⟩
  have hloc: ∀k,N2 (upd ρ (7,u0) (some (Value.slice (some ⟨g,0,none⟩) C.length c))) (7,u0) (.arr 2 1 (List.map A2 C))=some k→k=g:=by
    intro k hk
    have:some g=some k:=by simpa [N2,C0,Value.ownBlock] using hk
    exact (Option.some.inj this).symm
  have hown: ∀g,¬own ρ (fun _=>none) g:=fun g ⟨k,b,h,_⟩=>by cases h
  have hsz:(Go.Sort.putCells (Value.int .i64) 0 Z cur).size=c:=by unfold Go.Sort.putCells;rw [Array.size_mapIdx,hcs,Nat.mul_one]
  have Hn:=B8p H0 (7,u0) (Value.slice (some ⟨g,0,none⟩) C.length c) (.arr 2 1 (List.map A2 C)) hk0 rfl (fun k hk=>by
    rw [hloc k hk]
    exact ⟨hown g,hgI,by rw [hos.2.2.2];exact H.lt _ _ g hb0 locx⟩)
    ⟨_,C.map (Value.int .i64),C0 _ _ _,⟨by simp, .inr ⟨g,c,_,by rw [List.length_map],Nat.zero_le _,by rw [hheap,if_pos rfl],by rw [List.length_map];omega,hcm,by rw [hsz,Nat.mul_one],by
      rw [List.length_map,Nat.mul_one]
      apply List.ext_getElem
      ·have h3:(Go.Sort.putCells (Value.int .i64) 0 Z cur).toList.length=c:=hsz
       rw [List.length_take,h3,List.length_map];omega
      ·intro i h1 h2
       rw [List.length_map]at h2
       rw [List.getElem_take,Array.getElem_toList,List.getElem_map]
       unfold Go.Sort.putCells
       rw [Array.getElem_mapIdx,if_pos ⟨Nat.zero_le _,by omega⟩,Nat.sub_zero,hZg i h2]⟩⟩,by
      intro q hq
      obtain ⟨z,_,rfl⟩:=List.mem_map.1 hq
      rfl,by
      intro r j d' hd'
      unfold at2 at hd'
      rw [List.getElem?_map]at hd'
      cases hr:C[r]? with
      |none=>rw [hr]at hd';cases hd'
      |some z=>
       rw [hr]at hd'
       match j,hd' with
       |0,hd'=>
        cases hd'
        refine ⟨rfl,?_⟩
        rw [Nat.mul_one,Nat.add_zero,List.getD,List.getElem?_map,hr]
        exact .v _
       |j+1,hd'=>simp [A2]at hd'⟩
  refine ⟨_, .sl (7,u0),I,_,_,rfl, .sl _ _ (C0 _ _ _),Hn,⟨hos.1,hos.2.1,hos.2.2.1,by rw [hos.2.2.2];exact Nat.le_refl _,fun b hb hn'=>hother b (fun e=>hn' (e▸hgo)),fun _ hb=>hb,fun _ hb _=> .inl hb,?_,B8o hk0⟩,fun _=>(7,u0),rfl,?_,?_,?_,?_⟩
  ·rintro k ⟨k',b',h1,h2⟩ hl
   by_cases ek:k'=(7,u0)
   ·subst ek
    rw [C0]at h1
    cases h1
    rw [hloc k h2];exact hgo
   ·rw [G0 _ _ _ _ ek]at h1;cases h1
  ·intro j b hb
   match j,hb with
   |0,hb=>cases hb
   |j+1,hb=>simp at hb
  ·intro j b hb
   match j,hb with
   |0,hb=>cases hb;exact C0 _ _ _
   |j+1,hb=>simp at hb
  ·intro j _ i _ e;simp only [A4h,Prod.mk.injEq]at e;omega
  ·intro j j' h1 h2 _
   simp only [List.length_cons,List.length_nil]at h1 h2
   omega
theorem C4x (A:Option Addr)(w:World):Calls Try.prog 101 #[.slice A 0 0] w fun e w'=>e= .returned (.slice A 0 0)∧∃q,w'=w.drewN q:=by
  have mixed:=cmp_lay.mixed
  have v0:=Try.zeroValue2
  go_enter Try.func101,Try.ntmps101
  go_wp2
  go_ret
  exact ⟨rfl,0,rfl⟩
theorem C76:PCall Try.prog 101 [.nilS] .nilS:=by
  refine ⟨fun vs w=> ?_,fun w I vs hI hlen hrep=> ?_⟩
  ·have hn': ¬Try.f101.name= "runtime.NumGoroutine" :=by decide
   have hb: ∃c,Try.f101.body=some c:=⟨_,rfl⟩
   obtain ⟨c,hb⟩:=hb
   simp [callFunc,Try.func101,hb,hn']
  obtain ⟨a,rfl⟩: ∃a,vs= [a]:=by
    match vs,hlen with
    | [a],_=>exact ⟨a,rfl⟩
  have r0:=hrep 0 _ rfl
  simp only [List.getD_cons_zero]at r0
  cases r0 with
  |nilS A=>
   refine (C4x A w).mono ?_
   rintro e w' ⟨rfl,q,rfl⟩
   exact ⟨_,I,rfl, .nilS A,rfl,rfl,rfl,Nat.le_refl _,fun _ _=>rfl,fun _ hb=>hb,fun _ hb _=>hb,hI⟩
end
noncomputable def M7 (p1:Int)(x2:Int):Option (Stp Int Unit):=
  ((cond (decide (x2>p1)) ((none:Option Unit)) (some default))).bind fun v1=>cond ((decide (x2>p1))&&false) (none) (some (.out ()))
noncomputable def M8 (p1:Int)(p2:Int)(x1:Int):Option (Stp Int Unit):=
  cond (decide (x1<p2)) ((loop (M7 p1) x1).bind fun _=>some (.go (w64 (x1+1)))) (some (.out (())))
noncomputable def J5 (p1:Int)(p2:Int):Option Unit:=
  loop (M8 p1 p2) (w64 (p1+1))
theorem A18 (p1:Int)(p2:Int)(r:Unit)(h:J5 p1 p2=some r):PCall Try.prog 134 [.nilS,(i64 p1),(i64 p2)] (.tup []):=by
 refine E1 (fk Try.func134 Try.ntmps134 m0 (by with_unfolding_all rfl)) (nl rfl) ?_
 unfold J5 at h
 refine A7 (s0:=⟨T [(0,(.d _)),(1,(.d _)),(2,(.d _))],G []⟩) (sbr rfl rfl) ?_
 refine lr (fun u1 hu1=>sv rfl (sv rfl (sv rfl (A1 (A4 (G5 (M8 p1 p2) (fun (x1:Int) (g1:Unit)=>⟨T [(0,(.d .nilS)),(1,(di p1)),(2,(di p2)),(6,(di x1))],G []⟩) (w64 (p1+1)) () _ h (sbr rfl rfl) ?_))))))
 intro x1 g1 z1 hz1 ez1
 unfold M8 at hz1
 refine A5 (lr (fun u2 hu2=>sv rfl (sv rfl (sv rfl (A1 (cc rfl hz1 (fun c1 hz1=> ?_) (fun c1 hz1=> ?_)))))))
 refine B4 (A5 (A4 (lr (fun u3 hu3=>sv rfl (sv rfl (A1 (bs hz1 fun y1 hy1 hz1=>F8 (fun s=> ∃g2:Unit,Sb ⟨T [(0,(.d .nilS)),(1,(di p1)),(2,(di p2)),(6,(di x1))],G []⟩ s) ?_ ?_)))))))
 refine A4 (G5 (M7 p1) (fun (x2:Int) (g3:Unit)=>⟨T [(0,(.d .nilS)),(1,(di p1)),(2,(di p2)),(6,(di x1)),(7,(di x2))],G []⟩) x1 () _ hy1 (sbr rfl rfl) ?_)
 intro x2 g3 z2 hz2 ez2
 unfold M7 at hz2
 refine A5 (A5 (A21 rfl fun u4 hu4=>sv rfl (sv rfl (sv rfl (sv rfl (gt rfl (fun _=>rfl) (gt rfl (fun _=>rfl) (bs hz2 fun v1 hv1 hz2=>A1i _ (.d (.tup [])) rfl (A38 rfl) (fun w3=>nomatch G9 w3 hv1) (A1i _ (di 0) rfl (A38 rfl) (fun w4=>nomatch G9 w4 hv1) (A1i _ (.d (.tup [])) rfl (A38 rfl) (fun w5=>nomatch G9 w5 hv1) (A1i _ (di 0) rfl (A38 rfl) (fun w6=>nomatch G9 w6 hv1) (A1i _ (di 0) rfl (A38 rfl) (fun w7=>nomatch G9 w7 hv1) (A1i _ (.d (.tup [])) rfl (A38 rfl) (fun w8=>nomatch G9 w8 hv1) (A1i _ (di 0) rfl (A38 rfl) (fun w9=>nomatch G9 w9 hv1) (V3 _ (bo false) (A38 rfl) (fun w10=>nomatch G9 w10 hv1) (sa rfl rfl rfl (A1 (cc rfl hz2 (fun c2 hz2=> ?_) (fun c2 hz2=> ?_)))))))))))))))))))
 refine B4 (A5 (A4 (A21 rfl fun u5 hu5=>sv rfl (sv rfl (sv rfl (sv rfl (sv rfl (sv rfl (sv rfl (sv rfl ?_))))))))))
 cases hz2
 refine E3 rfl ?_
 cases hz2
 obtain rfl:=ez2 _ rfl
 refine ⟨nofun,D7 rfl (l_j ?_)⟩
 exact ⟨(),(sbr rfl rfl)⟩
 rintro _ ⟨g2,q1⟩
 refine I3 (A7 q1 (C3 fun u6 hu6=>sv rfl (sv rfl (sv rfl (A1 (L6 ?_))))))
 cases hz1
 exact ⟨rfl,(),(sbr rfl rfl)⟩
 refine E3 rfl ?_
 cases hz1
 obtain rfl:=ez1 _ rfl
 refine ⟨nofun,D7 rfl (L6 ?_)⟩
 exact A8 (.inl rfl) rfl (.refl _)
noncomputable def L8 (x1:(Int×Int×Int×Bool×Bool)):Option (Stp (Int×Int×Int×Bool×Bool) Unit):=
  cond (decide ((w64 (x1.2.1 - x1.1))≤12)) ((J5 x1.1 x1.2.1).bind fun v1=>some (.out (()))) (cond (x1.2.2.1==0) (none) ((cond (!x1.2.2.2.1) (none) (some ())).bind fun _=>none))
noncomputable def O6 (p1:Int)(p2:Int)(p3:Int):Option Unit:=
  loop (L8) (p1,p2,p3,true,true)
theorem A2t (p1:Int)(p2:Int)(p3:Int)(r:Unit)(h:O6 p1 p2 p3=some r):PCall Try.prog 125 [.nilS,(i64 p1),(i64 p2),(i64 p3)] (.tup []):=by
 refine E1 (fk Try.func125 Try.ntmps125 m0 (by with_unfolding_all rfl)) (nl rfl) ?_
 unfold O6 at h
 refine A7 (s0:=⟨T [(0,(.d _)),(1,(.d _)),(2,(.d _)),(3,(.d _))],G []⟩) (sbr rfl rfl) ?_
 refine lr (fun u1 hu1=>sv rfl (A1 (lr (fun u2 hu2=>sv rfl (A1 (A4 (G5 (L8) (fun (x1:(Int×Int×Int×Bool×Bool)) (g1:Unit)=>⟨T [(0,(.d .nilS)),(1,(di x1.1)),(2,(di x1.2.1)),(3,(di x1.2.2.1)),(8,(.d (bo x1.2.2.2.1))),(9,(.d (bo x1.2.2.2.2)))],G []⟩) (p1,p2,p3,true,true) () _ h (sbr rfl rfl) ?_)))))))
 intro x1 g1 z1 hz1 ez1
 unfold L8 at hz1
 refine A4 (lr (fun u3 hu3=>sv rfl (sv rfl (sv rfl (sv rfl (A1 (A5 (lr (fun u4 hu4=>sv rfl (sv rfl (A1 (cc rfl hz1 (fun c1 hz1=> ?_) (fun c1 hz1=> ?_)))))))))))))
 refine lr (fun u5 hu5=>sv rfl (sv rfl (sv rfl (bs hz1 fun v1 hv1 hz1=>B7 rfl rfl A3 (A18 _ _ _ hv1) (.inl rfl) (A1 (C1 ?_))))))
 cases hz1
 obtain rfl:=ez1 _ rfl
 refine ⟨nofun,F2 ?_⟩
 exact A8 (.inr rfl) rfl (.refl _)
 refine B4 (A5 (lr (fun u6 hu6=>sv rfl (sv rfl (A1 (cc rfl hz1 (fun c2 hz1=> ?_) (fun c2 hz1=> ?_)))))))
 refine lr (fun u7 hu7=>sv rfl (sv rfl (sv rfl ?_)))
 cases hz1
 refine B4 (A5 (lr (fun u8 hu8=>sv rfl (D3 (.d (bo (!x1.2.2.2.1))) rfl rfl (A1 (bs hz1 fun y1 hy1 hz1=>F8 (fun s=> ∃g2:Unit,Sb ⟨T [(0,(.d .nilS)),(1,(di x1.1)),(2,(di x1.2.1)),(3,(di x1.2.2.1)),(8,(.d (bo x1.2.2.2.1))),(9,(.d (bo x1.2.2.2.2))),(10,(di (w64 (x1.2.1 - x1.1))))],G []⟩ s) ?_ ?_))))))
 refine cc rfl hy1 (fun c3 hy1=> ?_) (fun c3 hy1=> ?_)
 refine lr (fun u9 hu9=>sv rfl (sv rfl (sv rfl ?_)))
 cases hy1
 refine B4 ?_
 cases hy1
 exact l_j ⟨(),(sbr rfl rfl)⟩
 rintro _ ⟨g2,q1⟩
 refine A7 q1 (lr (fun u10 hu10=>sv rfl (sv rfl (sv rfl ?_))))
 cases hz1
noncomputable def O1:Option Unit:=
  (A16 (IntKind.wrap .u64 0)).bind fun v1=>(O6 0 0 v1).bind fun v2=>some ()
theorem A4a (r:Unit)(h:O1=some r):PCall Try.prog 100 [.nilS] (.tup []):=by
 refine E1 (fk Try.func100 Try.ntmps100 m0 (by with_unfolding_all rfl)) (nl rfl) ?_
 unfold O1 at h
 refine A7 (s0:=⟨T [(0,(.d _))],G []⟩) (sbr rfl rfl) ?_
 refine lr (fun u1 hu1=>sv rfl (sv rfl (sv rfl (A1 (C3 fun u2 hu2=>sv rfl (sv rfl (sv rfl (sv rfl (bs h fun v1 hv1 h=>B7 rfl rfl A3 (A73 _ _ hv1) (.inl rfl) (bs h fun v2 hv2 h=>B7 rfl rfl A3 (A2t _ _ _ _ hv2) (.inl rfl) (A1 (L6 ?_))))))))))))
 cases h
 exact A8 (.inl rfl) rfl (.refl _)
end Go.Abs.Roads
