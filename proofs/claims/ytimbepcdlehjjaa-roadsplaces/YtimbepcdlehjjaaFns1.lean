/-
  The Go functions that RoadsPlaces reaches, as plain Lean functions, and the proofs that the program computes them.
-/
import Derived.Test.YtimbepcdlehjjaaCoreD
import Derived.Test.YtimbepcdlehjjaaProg
import Derived.KernelRfl
import Derived.IntWalk
set_option maxRecDepth 20000
set_option maxHeartbeats 4000000
set_option linter.unusedVariables false
namespace Go.Abs.Roads
open Go Go.Abs Go.Proofs
attribute [local irreducible] X5 B6m AWL
structure Spot where
  X:Int
  Y:Int
  deriving Inhabited
structure CurveVector where
  x:Int
  y:Int
  deriving Inhabited
structure CurvePiece where
  p:Spot
  v:CurveVector
  l:Int
  start:Int
  deriving Inhabited
abbrev A5g:Spot→List D:=fun x=> [(i64 x.X),(i64 x.Y)]
structure Curve where
  Pts:(List Spot)
  deriving Inhabited
abbrev eCurve:Curve→List D:=fun x=> [(.list (List.map A5g x.Pts))]
abbrev A5:Int→List D:=fun x=> [.v (.int .i64 x)]
structure Lane where
  Kind:Int
  Curve_:Curve
  Half:Int
  Limit:Int
  Next:(List Int)
  deriving Inhabited
structure Part where
  Lane_:Int
  From:Int
  To:Int
  Rank:Int
  deriving Inhabited
structure Zone where
  Parts:(List Part)
  Signal_:Int
  deriving Inhabited
structure Phase where
  Ticks:Int
  Green:(List Int)
  deriving Inhabited
structure Signal where
  Offset:Int
  Phases:(List Phase)
  deriving Inhabited
structure Work where
  Lane_:Int
  From:Int
  To:Int
  Begin:Int
  End:Int
  Limit:Int
  deriving Inhabited
structure Map where
  Version:Int
  Lanes:(List Lane)
  Zones:(List Zone)
  Signals:(List Signal)
  Works:(List Work)
  deriving Inhabited
abbrev A4k:Lane→List D:=fun x=> [(i64 x.Kind),(.list (List.map A5g x.Curve_.Pts)),(i64 x.Half),(i64 x.Limit),(.list (List.map A5 x.Next))]
abbrev R6:Part→List D:=fun x=> [(i64 x.Lane_),(i64 x.From),(i64 x.To),(i64 x.Rank)]
abbrev U8:Zone→List D:=fun x=> [(.list (List.map R6 x.Parts)),(i64 x.Signal_)]
abbrev A66:Phase→List D:=fun x=> [(i64 x.Ticks),(.list (List.map A5 x.Green))]
abbrev A79:Signal→List D:=fun x=> [(i64 x.Offset),(.list (List.map A66 x.Phases))]
abbrev B3g:Work→List D:=fun x=> [(i64 x.Lane_),(i64 x.From),(i64 x.To),(i64 x.Begin),(i64 x.End),(i64 x.Limit)]
structure RoadsWay where
  Map_:Map
  lanes:(List Int)
  starts:(List Int)
  length:Int
  deriving Inhabited
abbrev eFn:Nat→List D:=fun x=> [.fn (.func x) [] []]
structure RoadsCheck where
  Map_:Map
  deriving Inhabited
abbrev D2j:(Int×Int×Int)→List D:=fun x=> [(i64 x.1),(i64 x.2.1),(i64 x.2.2)]
structure Pass where
  Zone_:Int
  Part_:Int
  From:Int
  To:Int
  deriving Inhabited
abbrev L0:Pass→List D:=fun x=> [(i64 x.Zone_),(i64 x.Part_),(i64 x.From),(i64 x.To)]
structure Clash where
  Kind:Int
  Zone_:Int
  A:Int
  B:Int
  deriving Inhabited
abbrev L9:Clash→List D:=fun x=> [(i64 x.Kind),(i64 x.Zone_),(i64 x.A),(i64 x.B)]
structure Anon7 where
  x:Int
  y:Int
  signed:Bool
  code:Int
  deriving Inhabited
structure RuntimeBoundsError where
  x:Int
  y:Int
  signed:Bool
  code:Int
  deriving Inhabited
structure Anon13 where
  msg:ByteArray
  addr:Int
  deriving Inhabited
structure RuntimeErrorAddressString where
  msg:ByteArray
  addr:Int
  deriving Inhabited
structure Anon27 where
  Version:Int
  Lanes:(List Lane)
  Zones:(List Zone)
  Signals:(List Signal)
  Works:(List Work)
  deriving Inhabited
structure Anon32 where
  Lane_:Int
  From:Int
  To:Int
  Begin:Int
  End:Int
  Limit:Int
  deriving Inhabited
structure Anon36 where
  Pts:(List Spot)
  deriving Inhabited
structure Anon39 where
  Kind:Int
  Curve_:Curve
  Half:Int
  Limit:Int
  Next:(List Int)
  deriving Inhabited
structure Anon65 where
  Zone_:Int
  Part_:Int
  From:Int
  To:Int
  deriving Inhabited
structure Anon68 where
  Parts:(List Part)
  Signal_:Int
  deriving Inhabited
structure Anon70 where
  Lane_:Int
  From:Int
  To:Int
  Rank:Int
  deriving Inhabited
structure Anon74 where
  Offset:Int
  Phases:(List Phase)
  deriving Inhabited
structure Anon76 where
  Ticks:Int
  Green:(List Int)
  deriving Inhabited
structure Anon87 where
  Map_:Map
  deriving Inhabited
structure Anon91 where
  Map_:Map
  lanes:(List Int)
  starts:(List Int)
  length:Int
  deriving Inhabited
structure Anon110 where
  X:Int
  Y:Int
  deriving Inhabited
structure Anon134 where
  x:Int
  y:Int
  deriving Inhabited
structure Anon144 where
  Kind:Int
  Zone_:Int
  A:Int
  B:Int
  deriving Inhabited
structure Anon157 where
  p:Spot
  v:CurveVector
  l:Int
  start:Int
  deriving Inhabited
abbrev C57:RoadsWay→List D:=fun x=> [(i64 x.Map_.Version),(.list (List.map A4k x.Map_.Lanes)),(.list (List.map U8 x.Map_.Zones)),(.list (List.map A79 x.Map_.Signals)),(.list (List.map B3g x.Map_.Works)),(.list (List.map A5 x.lanes)),(.list (List.map A5 x.starts)),(i64 x.length)]
abbrev V6:RoadsWay→List AV:=fun x=> [(.d (i64 x.Map_.Version)),(.d (.list (List.map A4k x.Map_.Lanes))),(.d (.list (List.map U8 x.Map_.Zones))),(.d (.list (List.map A79 x.Map_.Signals))),(.d (.list (List.map B3g x.Map_.Works))),(.d (.list (List.map A5 x.lanes))),(.d (.list (List.map A5 x.starts))),(.d (i64 x.length))]
abbrev D1k:Work→List AV:=fun x=> [(.d (i64 x.Lane_)),(.d (i64 x.From)),(.d (i64 x.To)),(.d (i64 x.Begin)),(.d (i64 x.End)),(.d (i64 x.Limit))]
abbrev C0f:CurvePiece→List D:=fun x=> [(i64 x.p.X),(i64 x.p.Y),(i64 x.v.x),(i64 x.v.y),(i64 x.l),(i64 x.start)]
abbrev C0g:CurvePiece→List AV:=fun x=> [(.d (i64 x.p.X)),(.d (i64 x.p.Y)),(.d (i64 x.v.x)),(.d (i64 x.v.y)),(.d (i64 x.l)),(.d (i64 x.start))]
abbrev A27:Map→List D:=fun x=> [(i64 x.Version),(.list (List.map A4k x.Lanes)),(.list (List.map U8 x.Zones)),(.list (List.map A79 x.Signals)),(.list (List.map B3g x.Works))]
abbrev A1v:Map→List AV:=fun x=> [(.d (i64 x.Version)),(.d (.list (List.map A4k x.Lanes))),(.d (.list (List.map U8 x.Zones))),(.d (.list (List.map A79 x.Signals))),(.d (.list (List.map B3g x.Works)))]
abbrev B3h:Lane→List AV:=fun x=> [(.d (i64 x.Kind)),(.d (.list (List.map A5g x.Curve_.Pts))),(.d (i64 x.Half)),(.d (i64 x.Limit)),(.d (.list (List.map A5 x.Next)))]
abbrev B2r:Part→List AV:=fun x=> [(.d (i64 x.Lane_)),(.d (i64 x.From)),(.d (i64 x.To)),(.d (i64 x.Rank))]
noncomputable def B2s (p1:Int)(p2:Int):Option Int:=
  (C4q p1 p2).bind fun v1=>cond (decide (v1<0)) (some (w64 (v1+p2))) (some v1)
theorem B6s (p1:Int)(p2:Int)(r:Int)(h:B2s p1 p2=some r):PCall Try.prog 19 [(i64 p1),(i64 p2)] (i64 r):=by
 refine G2 (fk Try.func19 Try.ntmps19 m0 (by with_unfolding_all rfl)) (nl rfl) ?_
 unfold B2s at h
 refine A9 (s0:=⟨T [(0,(.d _)),(1,(.d _))],G []⟩) (sbr rfl rfl) ?_
 refine lr (fun u1 hu1=>sv rfl (A3 (lr (fun u2 hu2=>sv rfl (sv rfl (bs h fun v1 hv1 h=>sd rfl (C79 rfl rfl hv1) (sv rfl (A3 (A8 (lr (fun u3 hu3=>sv rfl (sv rfl (A3 (cc rfl h (fun c1 h=> ?_) (fun c1 h=> ?_)))))))))))))))
 refine D1 fun u4 hu4=>sv rfl (sv rfl (sv rfl (sv rfl (A3 (lr (fun u5 hu5=>sv rfl (sv rfl (A3 (D5 ?_)))))))))
 cases h
 exact B0 (.inr rfl) (E4 (E1 rfl) N9) (.refl _)
 refine B3 (lr (fun u6 hu6=>sv rfl (sv rfl (A3 (D5 ?_)))))
 cases h
 exact B0 (.inr rfl) (E4 (E1 rfl) N9) (.refl _)
noncomputable def A67 (p4:(List Int))(x1:(Int×Lane)):Option (Stp (Int×Lane) Lane):=
  cond (decide ((w64 (x1.1+1))< (p4.length:Int))) ((F3 p4 x1.1).bind fun v1=>(F3 p4 (w64 (x1.1+1))).bind fun v2=>(B0m x1.2.Curve_.Pts [(Spot.mk v1 v2)]).bind fun v3=>some (.go ((w64 (x1.1+2)),(Lane.mk x1.2.Kind (Curve.mk v3) x1.2.Half x1.2.Limit x1.2.Next)))) (some (.out x1.2))
noncomputable def T4 (p1:Int)(p2:Int)(p3:(List Int))(p4:(List Int)):Option Lane:=
  (loop (A67 p4) (0,(Lane.mk p1 (Curve.mk []) 1500 p2 p3))).bind fun y1=>cond (p1==3) (some (Lane.mk y1.Kind y1.Curve_ 500 y1.Limit y1.Next)) (some y1)
theorem O6 (p1:Int)(p2:Int)(p3:(List Int))(p4:(List Int))(r:Lane)(h:T4 p1 p2 p3 p4=some r):PCall Try.prog 38 [(i64 p1),(i64 p2),(.list (List.map A5 p3)),(.list (List.map A5 p4))] (.agg (A4k r)):=by
 refine G2 (fk Try.func38 Try.ntmps38 (fun r=>if r==5 then [1013]else []) (by with_unfolding_all rfl)) (nl rfl) ?_
 unfold T4 at h
 refine A9 (s0:=⟨T [(0,(.d _)),(1,(.d _)),(2,(.d _)),(3,(.d _))],G []⟩) (sbr rfl rfl) ?_
 refine lr (fun u1 hu1=>sn rfl rfl (A3 (lr (fun u2 hu2=>sv rfl (sv rfl (sv rfl (sv rfl (sn rfl rfl (sst rfl G_hit [(di p1),(.d .nilS),(di 1500),(di p2),(dl A5 p3)] rfl (A3 (A8 (lr (fun u3 hu3=>sv rfl (A3 (bs h fun y1 hy1 h=>H8 (fun s=> ∃g1:Nat,Sb ⟨T [(0,(di p1)),(8,(.ptr (8,u1) 0)),(9,(.ptr (9,u2) 0))],G [((8,u1),some (.box 40 (((zs 4).set 1 (.d .nilS))++ [(.d .nilS)]))),((9,u2),some (.box 40 ((B3h y1).set 1 (oS y1.Curve_.Pts (36,g1))))),((36,g1),oB 111 2 A5g y1.Curve_.Pts)]⟩ s) ?_ ?_)))))))))))))))
 refine A7 (I0 (A67 p4) (fun (x1:(Int×Lane)) (g2:Nat)=>⟨T [(0,(di p1)),(3,(dl A5 p4)),(8,(.ptr (8,u1) 0)),(9,(.ptr (9,u2) 0)),(10,(di x1.1))],G [((8,u1),some (.box 40 (((zs 4).set 1 (.d .nilS))++ [(.d .nilS)]))),((9,u2),some (.box 40 ((B3h x1.2).set 1 (oS x1.2.Curve_.Pts (36,g2))))),((36,g2),oB 111 2 A5g x1.2.Curve_.Pts)]⟩) (0,(Lane.mk p1 (Curve.mk []) 1500 p2 p3)) 0 _ hy1 (H9 ⟨.of rfl, .of rfl, .of rfl, .of rfl, .of rfl,trivial⟩ (sg rfl (B5 G_hit (.of rfl) (X6 trivial)))) ?_)
 intro x1 g2 z1 hz1 ez1
 unfold A67 at hz1
 refine A8 (lr (fun u4 hu4=>sv rfl (sv rfl (sv rfl (sd rfl (K5 rfl) (sv rfl (A3 (cc rfl hz1 (fun c1 hz1=> ?_) (fun c1 hz1=> ?_)))))))))
 refine B3 (A8 (A7 (Z6 rfl fun u5 hu5=>sp rfl rfl (sp rfl rfl (E2 (oS x1.2.Curve_.Pts (36,g2)) rfl (B1n rfl (gq rfl) rfl) (sv rfl (sv rfl (bs hz1 fun v1 hv1 hz1=>sd rfl (J8 rfl rfl hv1 rfl) (sd rfl (F4 rfl hv1 rfl) (sv rfl (sv rfl (sv rfl (bs hz1 fun v2 hv2 hz1=>sd rfl (J8 rfl rfl hv2 rfl) (sd rfl (F4 rfl hv2 rfl) (sv rfl (E2 (dl A5g [(Spot.mk v1 v2)]) rfl rfl (bs hz1 fun v3 hv3 hz1=>A02 A5g (36,g2) x1.2.Curve_.Pts (Spot.mk v1 v2) [] _ (U7 (fun _=>rfl)) rfl (gq rfl) hv3 (sp rfl rfl (sp rfl rfl (sst rfl (gq rfl) ((B3h x1.2).set 1 (.sl (36,u5))) rfl (A3 (I5 (A9 (s0:=⟨T [(0,(.d _)),(3,(.d _)),(8,(.ptr _ _)),(9,(.ptr _ _)),(10,(.d _))],G [((8,u1),some (.box 40 _)),((9,u2),some (.box 40 _)),((36,u5),some _)]⟩) (sbr rfl rfl) ?_)))))))))))))))))))))))
 refine D1 fun u6 hu6=>sv rfl (sv rfl (sv rfl (A3 (J2 ?_))))
 cases hz1
 exact ⟨rfl,u5,(H9 ⟨.of rfl, .of rfl, .of rfl, .of rfl, .of rfl,trivial⟩ (B5 G_hit (.of rfl) (B5 (gq rfl) (.box (cv (.cons (.of (A34 (A3l hv3)).symm) cw))) (R5 (gq rfl) trivial))))⟩
 refine E5 rfl ?_
 cases hz1
 obtain rfl:=ez1 _ rfl
 refine ⟨nofun,E3 rfl (l_j ?_)⟩
 exact ⟨g2,(H9 ⟨.of rfl, .of rfl, .of rfl,trivial⟩ (B5 G_hit (.of rfl) (sg rfl (I9 (gq rfl) trivial))))⟩
 rintro _ ⟨g1,q1⟩
 refine A9 q1 (A8 (lr (fun u7 hu7=>sv rfl (sv rfl (A3 (cc rfl h (fun c2 h=> ?_) (fun c2 h=> ?_)))))))
 refine D1 fun u8 hu8=>sp rfl rfl (sst rfl (gq rfl) (((B3h y1).set 1 (oS y1.Curve_.Pts (36,g1))).set 2 (di 500)) rfl (A3 (lr (fun u9 hu9=>E2 (A4w (((B3h y1).set 1 (oS y1.Curve_.Pts (36,g1))).set 2 (di 500))) rfl (E0 rfl G_hit rfl rfl) (B10 _ _ _ _ _ (A4z _) rfl rfl (gq rfl) (nl rfl) (((B3h y1).set 1 (oS y1.Curve_.Pts (36,g1))).set 2 (di 500)) rfl (A3 (D5 ?_)))))))
 cases h
 exact B0 (.inr rfl) (E4 (A1q rfl G_hit (nl rfl) rfl) (B1m (rD (Q3 (A77 (gq rfl)) (rD (rD (rD Q0))))))) (.agg (ca rfl (.cons ⟨A76,rfl⟩ (cz rfl))))
 refine B3 (lr (fun u10 hu10=>E2 (A4w ((B3h y1).set 1 (oS y1.Curve_.Pts (36,g1)))) rfl (E0 rfl (gq rfl) rfl rfl) (B10 _ _ _ _ _ (A4z _) rfl rfl G_hit (nl rfl) ((B3h y1).set 1 (oS y1.Curve_.Pts (36,g1))) rfl (A3 (D5 ?_)))))
 cases h
 exact B0 (.inr rfl) (E4 (A1q rfl G_hit (nl rfl) rfl) (B1m (rD (Q3 (A77 (gq rfl)) (rD (rD (rD Q0))))))) (.agg (ca rfl (.cons ⟨A76,rfl⟩ (cz rfl))))
noncomputable def A7r (p1:Int)(p2:Int)(p3:Int):Option Signal:=
  some (Signal.mk p1 [(Phase.mk 12 [p2]),(Phase.mk 5 []),(Phase.mk 9 [p3]),(Phase.mk 4 [])])
theorem A85 (p1:Int)(p2:Int)(p3:Int)(r:Signal)(h:A7r p1 p2 p3=some r):PCall Try.prog 39 [(i64 p1),(i64 p2),(i64 p3)] (.agg [(i64 r.Offset),(.list (List.map A66 r.Phases))]):=by
 refine G2 (fk Try.func39 Try.ntmps39 (fun r=>if r==1 then [1002,1006,1009]else []) (by with_unfolding_all rfl)) (nl rfl) ?_
 unfold A7r at h
 refine A9 (s0:=⟨T [(0,(.d _)),(1,(.d _)),(2,(.d _))],G []⟩) (sbr rfl rfl) ?_
 refine lr (fun u1 hu1=>sn rfl rfl (A3 (lr (fun u2 hu2=>sv rfl (sv rfl (E2 (dl A5 [p2]) rfl rfl (sv rfl (sv rfl (sv rfl (E2 (dl A5 [p3]) rfl rfl (sv rfl (sv rfl (E2 (dl A66 [(Phase.mk 12 [p2]),(Phase.mk 5 []),(Phase.mk 9 [p3]),(Phase.mk 4 [])]) rfl rfl (sv rfl (sst rfl G_hit [(di p1),(dl A66 [(Phase.mk 12 [p2]),(Phase.mk 5 []),(Phase.mk 9 [p3]),(Phase.mk 4 [])])] rfl (A3 (D5 ?_)))))))))))))))))
 cases h
 exact B0 (.inr rfl) (E4 (A1q rfl G_hit (nl rfl) rfl) N9) (.refl _)
noncomputable def B4x (p1:Int):Option Map:=
  (B2s p1 16777216).bind fun v1=>(F3 [1500,600,1000,300] ((w64 (v1.tdiv 7)).tmod 4)).bind fun v2=>(cond ((v1.tmod 7)==0) ((T4 1 v2 [] [0,0,60000,0]).bind fun v3=>some (Map.mk 0 [v3] [] [] [])) ((cond ((v1.tmod 7)==1) (some ((v1.tmod 7)==1)) (some ((v1.tmod 7)==2))).bind fun y2=>cond y2 ((T4 1 v2 [] [0,0,50000,0]).bind fun v4=>(T4 1 1500 [] [30000,(-20000),30000,20000]).bind fun v5=>cond ((v1.tmod 7)==2) ((F3 [(Zone.mk [(Part.mk 0 28000 32000 ((w64 (v1.tdiv 28)).tmod 2)),(Part.mk 1 18000 22000 (w64 (2 - (w64 (2* ((w64 (v1.tdiv 28)).tmod 2))))))] 0)] 0).bind fun v6=>(A7r ((w64 (v1.tdiv 28)).tmod 31) 0 1).bind fun v7=>some (Map.mk 0 [v4,v5] (B01 [(Zone.mk [(Part.mk 0 28000 32000 ((w64 (v1.tdiv 28)).tmod 2)),(Part.mk 1 18000 22000 (w64 (2 - (w64 (2* ((w64 (v1.tdiv 28)).tmod 2))))))] 0)] 0 (Zone.mk v6.Parts 1)) [v7] [])) (some (Map.mk 0 [v4,v5] [(Zone.mk [(Part.mk 0 28000 32000 ((w64 (v1.tdiv 28)).tmod 2)),(Part.mk 1 18000 22000 (w64 (2 - (w64 (2* ((w64 (v1.tdiv 28)).tmod 2))))))] 0)] [] []))) (cond ((v1.tmod 7)==3) ((T4 1 v2 [1,2] [0,0,30000,0]).bind fun v8=>(T4 1 1500 [] [30000,0,60000,0]).bind fun v9=>(T4 1 800 [] [30000,0,54000,10000]).bind fun v10=>some (Map.mk 0 [v8,v9,v10] [] [] [])) (cond ((v1.tmod 7)==4) ((T4 1 v2 [2] [0,0,30000,0]).bind fun v11=>(T4 1 1500 [2] [6000,(-10000),30000,0]).bind fun v12=>(T4 1 1500 [] [30000,0,60000,0]).bind fun v13=>some (Map.mk 0 [v11,v12,v13] [(Zone.mk [(Part.mk 0 25000 30000 1),(Part.mk 1 20000 26000 0),(Part.mk 2 0 5000 0)] 0)] [] [])) (cond ((v1.tmod 7)==5) ((T4 1 v2 [1] [0,0,20000,0]).bind fun v14=>(T4 1 v2 [] [20000,0,50000,0]).bind fun v15=>(T4 3 200 [] [35000,(-8000),35000,8000]).bind fun v16=>some (Map.mk 0 [v14,v15,v16] [(Zone.mk [(Part.mk 1 14000 16000 0),(Part.mk 2 6000 10000 3)] 0)] [] [])) (cond ((v1.tmod 7)==6) ((T4 1 v2 [1,2] [0,0,20000,0]).bind fun v17=>(T4 1 1500 [] [20000,0,50000,0]).bind fun v18=>(T4 1 1000 [] [20000,0,44000,10000]).bind fun v19=>(T4 2 700 [] [36000,(-12000),36000,18000]).bind fun v20=>cond (((w64 (v1.tdiv 28)).tmod 2)==1) ((F3 [(Zone.mk [(Part.mk 1 14000 18000 1),(Part.mk 3 10000 14000 0)] 0),(Zone.mk [(Part.mk 2 14000 21000 1),(Part.mk 3 14500 23000 0)] 0)] 0).bind fun v21=>(F3 (B01 [(Zone.mk [(Part.mk 1 14000 18000 1),(Part.mk 3 10000 14000 0)] 0),(Zone.mk [(Part.mk 2 14000 21000 1),(Part.mk 3 14500 23000 0)] 0)] 0 (Zone.mk v21.Parts 1)) 1).bind fun v22=>(A7r ((w64 (v1.tdiv 56)).tmod 31) 1 3).bind fun v23=>(A7r ((w64 (v1.tdiv 56)).tmod 17) 2 3).bind fun v24=>some (Map.mk 0 [v17,v18,v19,v20] (B01 (B01 [(Zone.mk [(Part.mk 1 14000 18000 1),(Part.mk 3 10000 14000 0)] 0),(Zone.mk [(Part.mk 2 14000 21000 1),(Part.mk 3 14500 23000 0)] 0)] 0 (Zone.mk v21.Parts 1)) 1 (Zone.mk v22.Parts 2)) [v23,v24] [])) (some (Map.mk 0 [v17,v18,v19,v20] [(Zone.mk [(Part.mk 1 14000 18000 1),(Part.mk 3 10000 14000 0)] 0),(Zone.mk [(Part.mk 2 14000 21000 1),(Part.mk 3 14500 23000 0)] 0)] [] []))) (some (Map.mk 0 [] [] [] [])))))))).bind fun y1=>cond (((w64 (v1.tdiv 1736)).tmod 3)==1) (some (Map.mk ((w64 (v1.tdiv 28)).tmod 5) y1.Lanes y1.Zones y1.Signals [(Work.mk 0 10000 15000 ((w64 (v1.tdiv 5208)).tmod 40) (w64 (((w64 (v1.tdiv 5208)).tmod 40)+20)) (w64 (((w64 (v1.tdiv 208320)).tmod 3)*200)))])) (some (Map.mk ((w64 (v1.tdiv 28)).tmod 5) y1.Lanes y1.Zones y1.Signals []))
theorem C2z (p1:Int)(r:Map)(h:B4x p1=some r):PCall Try.prog 9 [(i64 p1)] (.agg (A27 r)):=by
 refine G2 (fk Try.func9 Try.ntmps9 (fun r=>if r==2 then [1000]else if r==6 then [1001]else if r==9 then [1001,1003]else if r==10 then [1010]else if r==15 then [1001,1002,1004,1006]else if r==17 then [1001,1002,1004,1005,1007]else if r==18 then [1003]else if r==20 then [1001,1002,1005,1007]else if r==21 then [1002]else if r==23 then [1001,1002,1004,1006,1008]else if r==24 then [1002,1006]else if r==30 then [1012]else []) (by with_unfolding_all rfl)) (nl rfl) ?_
 unfold B4x at h
 refine A9 (s0:=⟨T [(0,(.d _))],G []⟩) (sbr rfl rfl) ?_
 refine lr (fun u1 hu1=>sn rfl rfl (A3 (lr (fun u2 hu2=>sv rfl (bs h fun v1 hv1 h=>C9 rfl rfl A4 (B6s _ _ _ hv1) (.inl rfl) (sv rfl (A3 (lr (fun u3 hu3=>E2 (dl A5 [1500,600,1000,300]) rfl rfl (sv rfl (sv rfl (sv rfl (bs h fun v2 hv2 h=>sd rfl (J8 rfl rfl hv2 rfl) (sd rfl (F4 rfl hv2 rfl) (sv rfl (A3 (lr (fun u4 hu4=>sn rfl rfl (A3 (A8 (lr (fun u5 hu5=>sv rfl (sv rfl (A3 (bs h fun y1 hy1 h=>H8 (fun s=> ∃g1:(({d:Nat // d∈ [20,30,69,82,102,122]}×Nat)× ({d:Nat // d∈ [44,89,108,132]}×Nat)× ({d:Nat // d∈ [57,154]}×Nat)),Sb ⟨T [(0,(di v1)),(2,(.ptr (2,u1) 0)),(4,(.ptr (4,u4) 0))],G [((2,u1),some (.box 28 [(di 0),(.d .nilS),(.d .nilS),(.d .nilS),(.d .nilS)])),((4,u4),some (.box 28 [(di y1.Version),(oS y1.Lanes (g1.1.1.val,g1.1.2)),(oS y1.Zones (g1.2.1.1.val,g1.2.1.2)),(oS y1.Signals (g1.2.2.1.val,g1.2.2.2)),(.d .nilS)])),((g1.1.1.val,g1.1.2),oB 40 5 A4k y1.Lanes),((g1.2.1.1.val,g1.2.1.2),oB 69 2 U8 y1.Zones),((g1.2.2.1.val,g1.2.2.2),oB 75 2 A79 y1.Signals)]⟩ s) ?_ ?_)))))))))))))))))))))))))
 refine A7 (lr (fun u6 hu6=>sv rfl (sv rfl (A3 (cc rfl hy1 (fun c1 hy1=> ?_) (fun c1 hy1=> ?_))))))
 refine D1 fun u7 hu7=>sv rfl (E2 (dl A5 [0,0,60000,0]) rfl rfl (bs hy1 fun v3 hv3 hy1=>C9 rfl rfl (.cons (.refl _) (.cons (.refl _) (.cons DLe.nil A4))) (O6 _ _ _ _ _ hv3) (.inl rfl) (B1k (.sl _) (.arr 40 5 (List.map A4k ([v3]:List Lane))) rfl rfl (sp rfl rfl (sst rfl (gq rfl) [(di 0),(.sl (20,u7)),(.d .nilS),(.d .nilS),(.d .nilS)] rfl (A3 (I5 ?_)))))))
 cases hy1
 exact l_j ⟨((⟨20, .head _⟩,u7),(⟨44, .head _⟩,0),(⟨57, .head _⟩,0)),(H9 ⟨.of rfl, .of rfl, .of rfl,trivial⟩ (sg rfl (B5 G_hit (.box (cv (.cons (.of (A34 (List.cons_ne_nil _ _)).symm) cw))) (R5 (gq rfl) (X6 (X6 trivial))))))⟩
 refine A8 (lr (fun u8 hu8=>sv rfl (sv rfl (A3 (bs hy1 fun y2 hy2 hy1=>H8 (fun s=> ∃g2:Unit,Sb ⟨T [(0,(di v1)),(2,(.ptr (2,u1) 0)),(3,(di v2)),(4,(.ptr (4,u4) 0)),(14,(di (v1.tmod 7))),(22,(.d (bo y2)))],G [((2,u1),some (.box 28 [(di 0),(.d .nilS),(.d .nilS),(.d .nilS),(.d .nilS)])),((4,u4),some (.box 28 [(di 0),(.d .nilS),(.d .nilS),(.d .nilS),(.d .nilS)]))]⟩ s) ?_ ?_)))))
 refine cc rfl hy2 (fun c2 hy2=> ?_) (fun c2 hy2=> ?_)
 refine B3 ?_
 cases hy2
 exact l_j ⟨(),(sbr rfl rfl)⟩
 refine D1 fun u9 hu9=>sv rfl (sv rfl (A3 ?_))
 cases hy2
 exact l_j ⟨(),(sbr rfl rfl)⟩
 rintro _ ⟨g2,q1⟩
 refine A9 q1 (cc rfl hy1 (fun c3 hy1=> ?_) (fun c3 hy1=> ?_))
 refine lr (fun u10 hu10=>sv rfl (E2 (dl A5 [0,0,50000,0]) rfl rfl (bs hy1 fun v4 hv4 hy1=>C9 rfl rfl (.cons (.refl _) (.cons (.refl _) (.cons DLe.nil A4))) (O6 _ _ _ _ _ hv4) (.inl rfl) (E2 (dl A5 [30000,(-20000),30000,20000]) rfl rfl (bs hy1 fun v5 hv5 hy1=>C9 rfl rfl (.cons (.refl _) (.cons (.refl _) (.cons DLe.nil A4))) (O6 _ _ _ _ _ hv5) (.inl rfl) (B1k (.sl _) (.arr 40 5 (List.map A4k ([v4,v5]:List Lane))) rfl (A51 A4k _ (fun _=>rfl) rfl rfl ⟨rfl,rfl,rfl,rfl,rfl,rfl,trivial⟩) (sp rfl rfl (sst rfl (gq rfl) [(di 0),(.sl (30,u10)),(.d .nilS),(.d .nilS),(.d .nilS)] rfl (A3 (lr (fun u11 hu11=>sv rfl (sv rfl (sv rfl (sv rfl (sv rfl (sv rfl (sv rfl (sv rfl (sv rfl (sv rfl (E2 (dl R6 [(Part.mk 0 28000 32000 ((w64 (v1.tdiv 28)).tmod 2)),(Part.mk 1 18000 22000 (w64 (2 - (w64 (2* ((w64 (v1.tdiv 28)).tmod 2))))))]) rfl rfl (sv rfl (B1k (.sl _) (.arr 69 2 (List.map U8 ([(Zone.mk [(Part.mk 0 28000 32000 ((w64 (v1.tdiv 28)).tmod 2)),(Part.mk 1 18000 22000 (w64 (2 - (w64 (2* ((w64 (v1.tdiv 28)).tmod 2))))))] 0)]:List Zone))) rfl rfl (sp rfl rfl (sst rfl (gq rfl) [(di 0),(.sl (30,u10)),(.sl (44,u11)),(.d .nilS),(.d .nilS)] rfl (A3 (A8 (A9 (s0:=⟨T [(0,(.d _)),(2,(.ptr _ _)),(4,(.ptr _ _))],G [((2,u1),some (.box 28 _)),((4,u4),some (.box 28 _)),((30,u10),some _),((44,u11),some _)]⟩) (sbr rfl rfl) ?_))))))))))))))))))))))))))))
 refine D1 fun u12 hu12=>sv rfl (sv rfl (sv rfl (A3 (cc rfl hy1 (fun c4 hy1=> ?_) (fun c4 hy1=> ?_)))))
 refine lr (fun u13 hu13=>sp rfl rfl (E2 (.sl _) rfl (B1n rfl (gq rfl) rfl) (bs hy1 fun v6 hv6 hy1=>E2 (.aptr _ _ _ _) rfl (A13 rfl rfl (gq rfl) hv6) (E2 (.aptr _ _ _ _) rfl rfl (A5u U8 _ _ _ (0) _ (Zone.mk v6.Parts 1) [(i64 1)] rfl rfl rfl (gq rfl) hv6 (nl rfl) rfl (A3 (D1 fun u14 hu14=>sv rfl (sv rfl (sv rfl (bs hy1 fun v7 hv7 hy1=>C9 rfl rfl A4 (A85 _ _ _ _ hv7) (.inl rfl) (B1k (.sl _) (.arr 75 2 (List.map A79 ([v7]:List Signal))) rfl rfl (sp rfl rfl (sst rfl (gq rfl) [(di 0),(.sl (30,u10)),(.sl (44,u11)),(.sl (57,u14)),(.d .nilS)] rfl (A3 (I5 ?_)))))))))))))))
 cases hy1
 exact l_j ⟨((⟨30, .tail _ (.head _)⟩,u10),(⟨44, .head _⟩,u11),(⟨57, .head _⟩,u14)),(H9 ⟨.of rfl, .of rfl, .of rfl,trivial⟩ (sg rfl (B5 G_hit (.box (cv (.cons (.of (A34 (List.cons_ne_nil _ _)).symm) (.cons (.of (A34 (C0d (List.cons_ne_nil _ _))).symm) (.cons (.of (A34 (List.cons_ne_nil _ _)).symm) cw))))) (R5 (gq rfl) (R5 (gq rfl) (R5 (gq rfl) trivial))))))⟩
 refine B3 (I5 ?_)
 cases hy1
 exact l_j ⟨((⟨30, .tail _ (.head _)⟩,u10),(⟨44, .head _⟩,u11),(⟨57, .head _⟩,0)),(H9 ⟨.of rfl, .of rfl, .of rfl,trivial⟩ (B5 G_hit (.of rfl) (B5 (gq rfl) (.box (cv (.cons (.of (A34 (List.cons_ne_nil _ _)).symm) (.cons (.of (A34 (List.cons_ne_nil _ _)).symm) cw)))) (R5 (gq rfl) (R5 (gq rfl) (X6 trivial))))))⟩
 refine lr (fun u15 hu15=>sv rfl (sv rfl (A3 (cc rfl hy1 (fun c5 hy1=> ?_) (fun c5 hy1=> ?_)))))
 refine D1 fun u16 hu16=>sv rfl (E2 (dl A5 [1,2]) rfl rfl (E2 (dl A5 [0,0,30000,0]) rfl rfl (bs hy1 fun v8 hv8 hy1=>C9 rfl rfl A4 (O6 _ _ _ _ _ hv8) (.inl rfl) (E2 (dl A5 [30000,0,60000,0]) rfl rfl (bs hy1 fun v9 hv9 hy1=>C9 rfl rfl (.cons (.refl _) (.cons (.refl _) (.cons DLe.nil A4))) (O6 _ _ _ _ _ hv9) (.inl rfl) (E2 (dl A5 [30000,0,54000,10000]) rfl rfl (bs hy1 fun v10 hv10 hy1=>C9 rfl rfl (.cons (.refl _) (.cons (.refl _) (.cons DLe.nil A4))) (O6 _ _ _ _ _ hv10) (.inl rfl) (B1k (.sl _) (.arr 40 5 (List.map A4k ([v8,v9,v10]:List Lane))) rfl (A51 A4k _ (fun _=>rfl) rfl rfl ⟨rfl,rfl,rfl,rfl,rfl,rfl,rfl,rfl,rfl,trivial⟩) (sp rfl rfl (sst rfl (gq rfl) [(di 0),(.sl (69,u16)),(.d .nilS),(.d .nilS),(.d .nilS)] rfl (A3 (I5 ?_))))))))))))
 cases hy1
 exact l_j ⟨((⟨69, .tail _ (.tail _ (.head _))⟩,u16),(⟨44, .head _⟩,0),(⟨57, .head _⟩,0)),(H9 ⟨.of rfl, .of rfl, .of rfl,trivial⟩ (sg rfl (B5 G_hit (.box (cv (.cons (.of (A34 (List.cons_ne_nil _ _)).symm) cw))) (R5 (gq rfl) (X6 (X6 trivial))))))⟩
 refine lr (fun u17 hu17=>sv rfl (sv rfl (A3 (cc rfl hy1 (fun c6 hy1=> ?_) (fun c6 hy1=> ?_)))))
 refine lr (fun u18 hu18=>sv rfl (E2 (dl A5 [2]) rfl rfl (E2 (dl A5 [0,0,30000,0]) rfl rfl (bs hy1 fun v11 hv11 hy1=>C9 rfl rfl A4 (O6 _ _ _ _ _ hv11) (.inl rfl) (E2 (dl A5 [2]) rfl rfl (E2 (dl A5 [6000,(-10000),30000,0]) rfl rfl (bs hy1 fun v12 hv12 hy1=>C9 rfl rfl A4 (O6 _ _ _ _ _ hv12) (.inl rfl) (E2 (dl A5 [30000,0,60000,0]) rfl rfl (bs hy1 fun v13 hv13 hy1=>C9 rfl rfl (.cons (.refl _) (.cons (.refl _) (.cons DLe.nil A4))) (O6 _ _ _ _ _ hv13) (.inl rfl) (B1k (.sl _) (.arr 40 5 (List.map A4k ([v11,v12,v13]:List Lane))) rfl (A51 A4k _ (fun _=>rfl) rfl rfl ⟨rfl,rfl,rfl,rfl,rfl,rfl,rfl,rfl,rfl,trivial⟩) (sp rfl rfl (sst rfl (gq rfl) [(di 0),(.sl (82,u18)),(.d .nilS),(.d .nilS),(.d .nilS)] rfl (A3 (A9 (s0:=⟨T [(0,(.d _)),(2,(.ptr _ _)),(4,(.ptr _ _))],G [((2,u1),some (.box 28 _)),((4,u4),some (.box 28 _)),((82,u18),some _)]⟩) (sbr rfl rfl) ?_))))))))))))))
 refine D1 fun u19 hu19=>sv rfl (sv rfl (sv rfl (E2 (dl R6 [(Part.mk 0 25000 30000 1),(Part.mk 1 20000 26000 0),(Part.mk 2 0 5000 0)]) rfl (B90 R6 ([(Part.mk 0 25000 30000 1),(Part.mk 1 20000 26000 0),(Part.mk 2 0 5000 0)]:List Part) (fun _=>rfl) rfl rfl ⟨rfl,rfl,rfl,rfl,rfl,rfl,rfl,rfl,rfl,trivial⟩ (fun _=>rfl)) (sv rfl (B1k (.sl _) (.arr 69 2 (List.map U8 ([(Zone.mk [(Part.mk 0 25000 30000 1),(Part.mk 1 20000 26000 0),(Part.mk 2 0 5000 0)] 0)]:List Zone))) rfl rfl (sp rfl rfl (sst rfl (gq rfl) [(di 0),(.sl (82,u18)),(.sl (89,u19)),(.d .nilS),(.d .nilS)] rfl (A3 (I5 ?_)))))))))
 cases hy1
 exact l_j ⟨((⟨82, .tail _ (.tail _ (.tail _ (.head _)))⟩,u18),(⟨89, .tail _ (.head _)⟩,u19),(⟨57, .head _⟩,0)),(H9 ⟨.of rfl, .of rfl, .of rfl,trivial⟩ (sg rfl (B5 G_hit (.box (cv (.cons (.of (A34 (List.cons_ne_nil _ _)).symm) (.cons (.of (A34 (List.cons_ne_nil _ _)).symm) cw)))) (R5 (gq rfl) (R5 (gq rfl) (X6 trivial))))))⟩
 refine lr (fun u20 hu20=>sv rfl (sv rfl (A3 (cc rfl hy1 (fun c7 hy1=> ?_) (fun c7 hy1=> ?_)))))
 refine lr (fun u21 hu21=>sv rfl (E2 (dl A5 [1]) rfl rfl (E2 (dl A5 [0,0,20000,0]) rfl rfl (bs hy1 fun v14 hv14 hy1=>C9 rfl rfl A4 (O6 _ _ _ _ _ hv14) (.inl rfl) (sv rfl (E2 (dl A5 [20000,0,50000,0]) rfl rfl (bs hy1 fun v15 hv15 hy1=>C9 rfl rfl (.cons (.refl _) (.cons (.refl _) (.cons DLe.nil A4))) (O6 _ _ _ _ _ hv15) (.inl rfl) (E2 (dl A5 [35000,(-8000),35000,8000]) rfl rfl (bs hy1 fun v16 hv16 hy1=>C9 rfl rfl (.cons (.refl _) (.cons (.refl _) (.cons DLe.nil A4))) (O6 _ _ _ _ _ hv16) (.inl rfl) (B1k (.sl _) (.arr 40 5 (List.map A4k ([v14,v15,v16]:List Lane))) rfl (A51 A4k _ (fun _=>rfl) rfl rfl ⟨rfl,rfl,rfl,rfl,rfl,rfl,rfl,rfl,rfl,trivial⟩) (sp rfl rfl (sst rfl (gq rfl) [(di 0),(.sl (102,u21)),(.d .nilS),(.d .nilS),(.d .nilS)] rfl (A3 (A9 (s0:=⟨T [(0,(.d _)),(2,(.ptr _ _)),(4,(.ptr _ _))],G [((2,u1),some (.box 28 _)),((4,u4),some (.box 28 _)),((102,u21),some _)]⟩) (sbr rfl rfl) ?_))))))))))))))
 refine D1 fun u22 hu22=>sv rfl (sv rfl (E2 (dl R6 [(Part.mk 1 14000 16000 0),(Part.mk 2 6000 10000 3)]) rfl rfl (sv rfl (B1k (.sl _) (.arr 69 2 (List.map U8 ([(Zone.mk [(Part.mk 1 14000 16000 0),(Part.mk 2 6000 10000 3)] 0)]:List Zone))) rfl rfl (sp rfl rfl (sst rfl (gq rfl) [(di 0),(.sl (102,u21)),(.sl (108,u22)),(.d .nilS),(.d .nilS)] rfl (A3 (I5 ?_))))))))
 cases hy1
 exact l_j ⟨((⟨102, .tail _ (.tail _ (.tail _ (.tail _ (.head _))))⟩,u21),(⟨108, .tail _ (.tail _ (.head _))⟩,u22),(⟨57, .head _⟩,0)),(H9 ⟨.of rfl, .of rfl, .of rfl,trivial⟩ (sg rfl (B5 G_hit (.box (cv (.cons (.of (A34 (List.cons_ne_nil _ _)).symm) (.cons (.of (A34 (List.cons_ne_nil _ _)).symm) cw)))) (R5 (gq rfl) (R5 (gq rfl) (X6 trivial))))))⟩
 refine lr (fun u23 hu23=>sv rfl (sv rfl (A3 (cc rfl hy1 (fun c8 hy1=> ?_) (fun c8 hy1=> ?_)))))
 refine lr (fun u24 hu24=>sv rfl (E2 (dl A5 [1,2]) rfl rfl (E2 (dl A5 [0,0,20000,0]) rfl rfl (bs hy1 fun v17 hv17 hy1=>C9 rfl rfl A4 (O6 _ _ _ _ _ hv17) (.inl rfl) (E2 (dl A5 [20000,0,50000,0]) rfl rfl (bs hy1 fun v18 hv18 hy1=>C9 rfl rfl (.cons (.refl _) (.cons (.refl _) (.cons DLe.nil A4))) (O6 _ _ _ _ _ hv18) (.inl rfl) (E2 (dl A5 [20000,0,44000,10000]) rfl rfl (bs hy1 fun v19 hv19 hy1=>C9 rfl rfl (.cons (.refl _) (.cons (.refl _) (.cons DLe.nil A4))) (O6 _ _ _ _ _ hv19) (.inl rfl) (E2 (dl A5 [36000,(-12000),36000,18000]) rfl rfl (bs hy1 fun v20 hv20 hy1=>C9 rfl rfl (.cons (.refl _) (.cons (.refl _) (.cons DLe.nil A4))) (O6 _ _ _ _ _ hv20) (.inl rfl) (B1k (.sl _) (.arr 40 5 (List.map A4k ([v17,v18,v19,v20]:List Lane))) rfl (A51 A4k _ (fun _=>rfl) rfl rfl ⟨rfl,rfl,rfl,rfl,rfl,rfl,rfl,rfl,rfl,rfl,rfl,rfl,trivial⟩) (sp rfl rfl (sst rfl (gq rfl) [(di 0),(.sl (122,u24)),(.d .nilS),(.d .nilS),(.d .nilS)] rfl (A3 (A8 (A9 (s0:=⟨T [(0,(.d _)),(2,(.ptr _ _)),(4,(.ptr _ _))],G [((2,u1),some (.box 28 _)),((4,u4),some (.box 28 _)),((122,u24),some _)]⟩) (sbr rfl rfl) ?_))))))))))))))))
 refine D1 fun u25 hu25=>sv rfl (sv rfl (E2 (dl R6 [(Part.mk 1 14000 18000 1),(Part.mk 3 10000 14000 0)]) rfl rfl (sv rfl (sv rfl (sv rfl (E2 (dl R6 [(Part.mk 2 14000 21000 1),(Part.mk 3 14500 23000 0)]) rfl rfl (sv rfl (B1k (.sl _) (.arr 69 2 (List.map U8 ([(Zone.mk [(Part.mk 1 14000 18000 1),(Part.mk 3 10000 14000 0)] 0),(Zone.mk [(Part.mk 2 14000 21000 1),(Part.mk 3 14500 23000 0)] 0)]:List Zone))) rfl rfl (sp rfl rfl (sst rfl (gq rfl) [(di 0),(.sl (122,u24)),(.sl (132,u25)),(.d .nilS),(.d .nilS)] rfl (A3 (lr (fun u26 hu26=>sv rfl (sv rfl (sv rfl (sv rfl (A3 (cc rfl hy1 (fun c9 hy1=> ?_) (fun c9 hy1=> ?_)))))))))))))))))))
 refine A8 (C9j fun u27 hu27=>B8r (.ptr _ _) rfl rfl (B8r (.sl _) rfl (B1n rfl G_hit rfl) (B8r (.ptr _ _) rfl rfl (B8r (.sl _) rfl (B1n rfl G_hit rfl) (bs hy1 fun v21 hv21 hy1=>B8r (.aptr _ _ _ _) rfl (A13 rfl rfl (gq rfl) hv21) (B8r (.aptr _ _ _ _) rfl rfl (C1t U8 _ _ _ (0) _ (Zone.mk v21.Parts 1) [(i64 1)] rfl rfl rfl (gq rfl) hv21 (nl rfl) rfl (bs hy1 fun v22 hv22 hy1=>B8r (.aptr _ _ _ _) rfl (A13 rfl rfl G_hit hv22) (B8r (.aptr _ _ _ _) rfl rfl (C1t U8 _ _ _ (1) _ (Zone.mk v22.Parts 2) [(i64 2)] rfl rfl rfl G_hit hv22 (nl rfl) rfl (D2a ⟨rfl,?_⟩)))))))))))
 refine A9 (s0:=⟨T [(0,(.d _)),(2,(.ptr _ _)),(4,(.ptr _ _))],G [((2,u1),some (.box 28 _)),((4,u4),some (.box 28 _)),((122,u24),some _),((132,u25),some _)]⟩) (sbr rfl rfl) ?_
 refine D1 fun u28 hu28=>sv rfl (sv rfl (sv rfl (bs hy1 fun v23 hv23 hy1=>C9 rfl rfl A4 (A85 _ _ _ _ hv23) (.inl rfl) (sv rfl (sv rfl (sv rfl (bs hy1 fun v24 hv24 hy1=>C9 rfl rfl A4 (A85 _ _ _ _ hv24) (.inl rfl) (B1k (.sl _) (.arr 75 2 (List.map A79 ([v23,v24]:List Signal))) rfl rfl (sp rfl rfl (sst rfl (gq rfl) [(di 0),(.sl (122,u24)),(.sl (132,u25)),(.sl (154,u28)),(.d .nilS)] rfl (A3 (I5 ?_))))))))))))
 cases hy1
 exact l_j ⟨((⟨122, .tail _ (.tail _ (.tail _ (.tail _ (.tail _ (.head _)))))⟩,u24),(⟨132, .tail _ (.tail _ (.tail _ (.head _)))⟩,u25),(⟨154, .tail _ (.head _)⟩,u28)),(H9 ⟨.of rfl, .of rfl, .of rfl,trivial⟩ (sg rfl (B5 G_hit (.box (cv (.cons (.of (A34 (List.cons_ne_nil _ _)).symm) (.cons (.of (A34 (C0d (C0d (List.cons_ne_nil _ _)))).symm) (.cons (.of (A34 (List.cons_ne_nil _ _)).symm) cw))))) (R5 (gq rfl) (R5 (gq rfl) (R5 (gq rfl) trivial))))))⟩
 refine B3 (I5 ?_)
 cases hy1
 exact l_j ⟨((⟨122, .tail _ (.tail _ (.tail _ (.tail _ (.tail _ (.head _)))))⟩,u24),(⟨132, .tail _ (.tail _ (.tail _ (.head _)))⟩,u25),(⟨57, .head _⟩,0)),(H9 ⟨.of rfl, .of rfl, .of rfl,trivial⟩ (sg rfl (B5 G_hit (.box (cv (.cons (.of (A34 (List.cons_ne_nil _ _)).symm) (.cons (.of (A34 (List.cons_ne_nil _ _)).symm) cw)))) (R5 (gq rfl) (R5 (gq rfl) (X6 trivial))))))⟩
 refine B3 (I5 ?_)
 cases hy1
 exact l_j ⟨((⟨20, .head _⟩,0),(⟨44, .head _⟩,0),(⟨57, .head _⟩,0)),(H9 ⟨.of rfl, .of rfl, .of rfl,trivial⟩ (B5 G_hit (.of rfl) (sg rfl (X6 (X6 (X6 trivial))))))⟩
 rintro _ ⟨g1,q2⟩
 refine A9 q2 (lr (fun u29 hu29=>sv rfl (sv rfl (sv rfl (sp rfl rfl (sst rfl (gq rfl) [(di ((w64 (v1.tdiv 28)).tmod 5)),(oS y1.Lanes (g1.1.1.val,g1.1.2)),(oS y1.Zones (g1.2.1.1.val,g1.2.1.2)),(oS y1.Signals (g1.2.2.1.val,g1.2.2.2)),(.d .nilS)] rfl (A3 (A8 (lr (fun u30 hu30=>sv rfl (sv rfl (sv rfl (sv rfl (A3 (cc rfl h (fun c10 h=> ?_) (fun c10 h=> ?_))))))))))))))))
 refine D1 fun u31 hu31=>sv rfl (sv rfl (sv rfl (sv rfl (sv rfl (sv rfl (sv rfl (sv rfl (sv rfl (sv rfl (sv rfl (sv rfl (E2 (dl B3g [(Work.mk 0 10000 15000 ((w64 (v1.tdiv 5208)).tmod 40) (w64 (((w64 (v1.tdiv 5208)).tmod 40)+20)) (w64 (((w64 (v1.tdiv 208320)).tmod 3)*200)))]) rfl rfl (sp rfl rfl (sst rfl G_hit [(di ((w64 (v1.tdiv 28)).tmod 5)),(oS y1.Lanes (g1.1.1.val,g1.1.2)),(oS y1.Zones (g1.2.1.1.val,g1.2.1.2)),(oS y1.Signals (g1.2.2.1.val,g1.2.2.2)),(dl B3g [(Work.mk 0 10000 15000 ((w64 (v1.tdiv 5208)).tmod 40) (w64 (((w64 (v1.tdiv 5208)).tmod 40)+20)) (w64 (((w64 (v1.tdiv 208320)).tmod 3)*200)))])] rfl (A3 (A8 (A9 (s0:=⟨T [(2,(.ptr (2,u1) 0)),(4,(.ptr (4,u4) 0))],G [((2,u1),some (.box 28 [(di 0),(.d .nilS),(.d .nilS),(.d .nilS),(.d .nilS)])),((4,u4),some (.box 28 [(di ((w64 (v1.tdiv 28)).tmod 5)),(oS y1.Lanes (g1.1.1.val,g1.1.2)),(oS y1.Zones (g1.2.1.1.val,g1.2.1.2)),(oS y1.Signals (g1.2.2.1.val,g1.2.2.2)),(dl B3g [(Work.mk 0 10000 15000 ((w64 (v1.tdiv 5208)).tmod 40) (w64 (((w64 (v1.tdiv 5208)).tmod 40)+20)) (w64 (((w64 (v1.tdiv 208320)).tmod 3)*200)))])])),((g1.1.1.val,g1.1.2),oB 40 5 A4k y1.Lanes),((g1.2.1.1.val,g1.2.1.2),oB 69 2 U8 y1.Zones),((g1.2.2.1.val,g1.2.2.2),oB 75 2 A79 y1.Signals)]⟩) (H9 ⟨.of rfl, .of rfl,trivial⟩ (sg rfl (B5 G_hit (.of rfl) (I9 (K4 (neL g1.1.1.property rfl) (K4 (neL g1.1.1.property rfl) (K4 (neL g1.1.1.property rfl) (K4 (neL g1.1.1.property rfl) G_hit)))) (I9 (K4 (neL g1.2.1.1.property rfl) (K4 (neL g1.2.1.1.property rfl) (K4 (neL g1.2.1.1.property rfl) (K4 (neL g1.2.1.1.property rfl) (K4 (C7g g1.2.1.1.property g1.1.1.property rfl) G_hit))))) (I9 (K4 (neL g1.2.2.1.property rfl) (K4 (neL g1.2.2.1.property rfl) (K4 (neL g1.2.2.1.property rfl) (K4 (neL g1.2.2.1.property rfl) (K4 (C7g g1.2.2.1.property g1.1.1.property rfl) (K4 (C7g g1.2.2.1.property g1.2.1.1.property rfl) G_hit)))))) trivial)))))) ?_)))))))))))))))))
 refine D1 fun u32 hu32=>E2 (A4w [(di ((w64 (v1.tdiv 28)).tmod 5)),(oS y1.Lanes (g1.1.1.val,g1.1.2)),(oS y1.Zones (g1.2.1.1.val,g1.2.1.2)),(oS y1.Signals (g1.2.2.1.val,g1.2.2.2)),(dl B3g [(Work.mk 0 10000 15000 ((w64 (v1.tdiv 5208)).tmod 40) (w64 (((w64 (v1.tdiv 5208)).tmod 40)+20)) (w64 (((w64 (v1.tdiv 208320)).tmod 3)*200)))])]) rfl (E0 rfl (gq rfl) rfl rfl) (B10 _ _ _ _ _ (A4z _) rfl rfl G_hit (nl rfl) [(di ((w64 (v1.tdiv 28)).tmod 5)),(oS y1.Lanes (g1.1.1.val,g1.1.2)),(oS y1.Zones (g1.2.1.1.val,g1.2.1.2)),(oS y1.Signals (g1.2.2.1.val,g1.2.2.2)),(dl B3g [(Work.mk 0 10000 15000 ((w64 (v1.tdiv 5208)).tmod 40) (w64 (((w64 (v1.tdiv 5208)).tmod 40)+20)) (w64 (((w64 (v1.tdiv 208320)).tmod 3)*200)))])] rfl (A3 (D5 ?_)))
 cases h
 exact B0 (.inr rfl) (E4 (A1q rfl G_hit (nl rfl) rfl) (B1m (rD (Q3 (A77 (K4 (neL g1.1.1.property rfl) (K4 (neL g1.1.1.property rfl) (K4 (neL g1.1.1.property rfl) G_hit)))) (Q3 (A77 (K4 (neL g1.2.1.1.property rfl) (K4 (neL g1.2.1.1.property rfl) (K4 (neL g1.2.1.1.property rfl) (K4 (C7g g1.2.1.1.property g1.1.1.property rfl) G_hit))))) (Q3 (A77 (K4 (neL g1.2.2.1.property rfl) (K4 (neL g1.2.2.1.property rfl) (K4 (neL g1.2.2.1.property rfl) (K4 (C7g g1.2.2.1.property g1.1.1.property rfl) (K4 (C7g g1.2.2.1.property g1.2.1.1.property rfl) G_hit)))))) (rD Q0))))))) (.agg (ca rfl (.cons ⟨A76,rfl⟩ (.cons ⟨A76,rfl⟩ (.cons ⟨A76,rfl⟩ (cz rfl))))))
 refine B3 (lr (fun u33 hu33=>E2 (A4w [(di ((w64 (v1.tdiv 28)).tmod 5)),(oS y1.Lanes (g1.1.1.val,g1.1.2)),(oS y1.Zones (g1.2.1.1.val,g1.2.1.2)),(oS y1.Signals (g1.2.2.1.val,g1.2.2.2)),(.d .nilS)]) rfl (E0 rfl G_hit rfl rfl) (B10 _ _ _ _ _ (A4z _) rfl rfl (gq rfl) (nl rfl) [(di ((w64 (v1.tdiv 28)).tmod 5)),(oS y1.Lanes (g1.1.1.val,g1.1.2)),(oS y1.Zones (g1.2.1.1.val,g1.2.1.2)),(oS y1.Signals (g1.2.2.1.val,g1.2.2.2)),(.d .nilS)] rfl (A3 (D5 ?_)))))
 cases h
 exact B0 (.inr rfl) (E4 (A1q rfl G_hit (nl rfl) rfl) (B1m (rD (Q3 (A77 (K4 (neL g1.1.1.property rfl) (K4 (neL g1.1.1.property rfl) (K4 (neL g1.1.1.property rfl) (K4 (neL g1.1.1.property rfl) G_hit))))) (Q3 (A77 (K4 (neL g1.2.1.1.property rfl) (K4 (neL g1.2.1.1.property rfl) (K4 (neL g1.2.1.1.property rfl) (K4 (neL g1.2.1.1.property rfl) (K4 (C7g g1.2.1.1.property g1.1.1.property rfl) G_hit)))))) (Q3 (A77 (K4 (neL g1.2.2.1.property rfl) (K4 (neL g1.2.2.1.property rfl) (K4 (neL g1.2.2.1.property rfl) (K4 (neL g1.2.2.1.property rfl) (K4 (C7g g1.2.2.1.property g1.1.1.property rfl) (K4 (C7g g1.2.2.1.property g1.2.1.1.property rfl) G_hit))))))) (rD Q0))))))) (.agg (ca rfl (.cons ⟨A76,rfl⟩ (.cons ⟨A76,rfl⟩ (.cons ⟨A76,rfl⟩ (.cons ⟨DLe.nil,rfl⟩ .nil))))))
noncomputable def A53 (p1:(List Int))(p2:Int)(x1:Int):Option (Stp Int (Sum Unit Bool)):=
  cond (decide (x1< (p1.length:Int))) ((F3 p1 x1).bind fun v1=>cond (v1==p2) (some (.out (.inr true))) (some (.go (w64 (x1+1))))) (some (.out (.inl ())))
noncomputable def A96 (p1:(List Int))(p2:Int):Option Bool:=
  thenS (loop (A53 p1 p2) 0) (fun _=>some false) (fun r=>some r)
theorem B92 (p1:(List Int))(p2:Int)(r:Bool)(h:A96 p1 p2=some r):PCall Try.prog 89 [(.list (List.map A5 p1)),(i64 p2)] (bo r):=by
 refine G2 (fk Try.func89 Try.ntmps89 m0 (by with_unfolding_all rfl)) (nl rfl) ?_
 unfold A96 at h
 refine A9 (s0:=⟨T [(0,(.d _)),(1,(.d _))],G []⟩) (sbr rfl rfl) ?_
 refine lr (fun u1 hu1=>sv rfl (A3 (A8 (lr (fun u2 hu2=>sv rfl (A3 (js h fun z1 hz1 h=>H8 (fun s=> ∃(y1:Unit) (g1:Unit),z1= .inl y1∧Sb ⟨T [],G []⟩ s) ?_ ?_)))))))
 refine A7 (I0 (A53 p1 p2) (fun (x1:Int) (g2:Unit)=>⟨T [(0,(dl A5 p1)),(1,(di p2)),(5,(di x1))],G []⟩) 0 () _ hz1 (sbr rfl rfl) ?_)
 intro x1 g2 z2 hz2 ez2
 unfold A53 at hz2
 refine A8 (lr (fun u3 hu3=>sv rfl (sv rfl (sd rfl (K5 rfl) (sv rfl (A3 (cc rfl hz2 (fun c1 hz2=> ?_) (fun c1 hz2=> ?_))))))))
 refine B3 (A8 (A7 (lr (fun u4 hu4=>sv rfl (sv rfl (bs hz2 fun v1 hv1 hz2=>sd rfl (J8 rfl rfl hv1 rfl) (sd rfl (F4 rfl hv1 rfl) (sv rfl (sv rfl (A3 (cc rfl hz2 (fun c2 hz2=> ?_) (fun c2 hz2=> ?_))))))))))))
 refine lr (fun u5 hu5=>sv rfl (A3 (D5 ?_)))
 cases hz2
 obtain rfl:=ez2 _ rfl
 refine ⟨nofun,J9 ?_⟩
 rw [Sum.elim_inr]at h
 cases h
 exact B0 (.inr rfl) (E4 (E1 rfl) N9) (.refl _)
 refine B3 (I5 (D1 fun u6 hu6=>sv rfl (sv rfl (sv rfl (A3 (J2 ?_))))))
 cases hz2
 exact ⟨rfl,(),(sbr rfl rfl)⟩
 refine E5 rfl ?_
 cases hz2
 obtain rfl:=ez2 _ rfl
 refine ⟨nofun,E3 rfl (l_j ?_)⟩
 exact ⟨_,(),rfl,(sbr rfl rfl)⟩
 rintro _ ⟨y1,g1,rfl,q1⟩
 rw [Sum.elim_inl]at h
 refine A9 q1 (lr (fun u7 hu7=>sv rfl (A3 (D5 ?_))))
 cases h
 exact B0 (.inr rfl) (E4 (E1 rfl) N9) (.refl _)
noncomputable def A2a (p1:Map)(p2:Int)(x1:((List Int)×Int)):Option (Stp ((List Int)×Int) (List Int)):=
  cond (decide (x1.2< (p1.Lanes.length:Int))) ((F3 p1.Lanes x1.2).bind fun v1=>(A96 v1.Next p2).bind fun v2=>cond v2 ((B0m x1.1 [x1.2]).bind fun v3=>some (.go (v3,(w64 (x1.2+1))))) (some (.go (x1.1,(w64 (x1.2+1)))))) (some (.out x1.1))
noncomputable def A54 (p1:Map)(p2:Int):Option (List Int):=
  (loop (A2a p1 p2) ([],0)).bind fun y1=>some y1
theorem B4y (p1:Map)(p2:Int)(r:(List Int))(h:A54 p1 p2=some r):PCall Try.prog 62 [(.agg (A27 p1)),(i64 p2)] (.list (List.map A5 r)):=by
 refine G2 (fk Try.func62 Try.ntmps62 (fun r=>if r==6 then [1002]else []) (by with_unfolding_all rfl)) (nl rfl) ?_
 unfold A54 at h
 refine A9 (s0:=⟨T [(0,(.d _)),(1,(.d _))],G []⟩) (sbr rfl rfl) ?_
 refine lr (fun u1 hu1=>sn rfl rfl (sv rfl (A3 (lr (fun u2 hu2=>sv rfl (A3 (A8 (lr (fun u3 hu3=>sv rfl (A3 (bs h fun y1 hy1 h=>H8 (fun s=> ∃g1:Nat,Sb ⟨T [(5,(oS y1 (25,g1)))],G [((25,g1),oB 3 1 A5 y1)]⟩ s) ?_ ?_)))))))))))
 refine A7 (I0 (A2a p1 p2) (fun (x1:((List Int)×Int)) (g2:Nat)=>⟨T [(1,(di p2)),(2,(.ptr (2,u1) 0)),(5,(oS x1.1 (25,g2))),(6,(di x1.2))],G [((2,u1),some (.box 28 (A1v p1))),((25,g2),oB 3 1 A5 x1.1)]⟩) ([],0) 0 _ hy1 (H9 ⟨.of rfl, .of rfl, .of rfl, .of rfl,trivial⟩ (B5 G_hit (.of rfl) (X6 trivial))) ?_)
 intro x1 g2 z1 hz1 ez1
 unfold A2a at hz1
 refine A8 (lr (fun u4 hu4=>sv rfl (sp rfl rfl (sl rfl G_hit rfl (sd rfl (K5 rfl) (sv rfl (A3 (cc rfl hz1 (fun c1 hz1=> ?_) (fun c1 hz1=> ?_)))))))))
 refine B3 (A8 (A7 (lr (fun u5 hu5=>sp rfl rfl (sl rfl G_hit rfl (sv rfl (bs hz1 fun v1 hv1 hz1=>sd rfl (J8 rfl rfl hv1 rfl) (sv rfl (sd rfl (F4 rfl hv1 rfl) (sv rfl (bs hz1 fun v2 hv2 hz1=>C9 rfl rfl A4 (B92 _ _ _ hv2) (.inl rfl) (A3 (cc rfl hz1 (fun c2 hz1=> ?_) (fun c2 hz1=> ?_))))))))))))))
 refine D1 fun u6 hu6=>E2 (oS x1.1 (25,g2)) rfl rfl (sv rfl (E2 (dl A5 [x1.2]) rfl rfl (bs hz1 fun v3 hv3 hz1=>A02 A5 (25,g2) x1.1 x1.2 [] _ (U7 (fun _=>rfl)) rfl (gq rfl) hv3 (ss rfl (A3 (I5 (A9 (s0:=⟨T [(1,(.d _)),(2,(.ptr _ _)),(5,(.sl _)),(6,(.d _))],G [((2,u1),some (.box 28 _)),((25,u6),some _)]⟩) (sbr rfl rfl) ?_)))))))
 refine D1 fun u7 hu7=>sv rfl (sv rfl (sv rfl (A3 (J2 ?_))))
 cases hz1
 exact ⟨rfl,u6,(H9 ⟨.of rfl, .of rfl,(.of (A34 (A3l hv3)).symm), .of rfl,trivial⟩ (B5 G_hit (.of rfl) (R5 (gq rfl) trivial)))⟩
 refine B3 (I5 (D1 fun u8 hu8=>sv rfl (sv rfl (sv rfl (A3 (J2 ?_))))))
 cases hz1
 exact ⟨rfl,g2,(H9 ⟨.of rfl, .of rfl, .of rfl, .of rfl,trivial⟩ (B5 G_hit (.of rfl) (I9 (gq rfl) trivial)))⟩
 refine E5 rfl ?_
 cases hz1
 obtain rfl:=ez1 _ rfl
 refine ⟨nofun,E3 rfl (l_j ?_)⟩
 exact ⟨g2,(H9 ⟨.of rfl,trivial⟩ (I9 (gq rfl) trivial))⟩
 rintro _ ⟨g1,q1⟩
 refine A9 q1 (lr (fun u9 hu9=>E2 (oS y1 (25,g1)) rfl rfl (E2 (oS y1 (25,g1)) rfl rfl (A3 (D5 ?_)))))
 cases h
 exact B0 (.inr rfl) (E4 (E1 rfl) (A77 G_hit)) A76
noncomputable def A1r (p1:Map)(x1:((List Int)×Int)):Option (Stp ((List Int)×Int) (List Int)):=
  cond (decide (x1.2< (p1.Lanes.length:Int))) ((A54 p1 x1.2).bind fun v1=>cond ((v1.length:Int)==0) ((B0m x1.1 [x1.2]).bind fun v2=>some (.go (v2,(w64 (x1.2+1))))) (some (.go (x1.1,(w64 (x1.2+1)))))) (some (.out x1.1))
noncomputable def A42 (p1:Map):Option (List Int):=
  (loop (A1r p1) ([],0)).bind fun y1=>some y1
theorem B3i (p1:Map)(r:(List Int))(h:A42 p1=some r):PCall Try.prog 51 [(.agg (A27 p1))] (.list (List.map A5 r)):=by
 refine G2 (fk Try.func51 Try.ntmps51 (fun r=>if r==6 then [1002]else []) (by with_unfolding_all rfl)) (nl rfl) ?_
 unfold A42 at h
 refine A9 (s0:=⟨T [(0,(.d _))],G []⟩) (sbr rfl rfl) ?_
 refine lr (fun u1 hu1=>sn rfl rfl (sv rfl (A3 (lr (fun u2 hu2=>sv rfl (A3 (A8 (lr (fun u3 hu3=>sv rfl (A3 (bs h fun y1 hy1 h=>H8 (fun s=> ∃g1:Nat,Sb ⟨T [(3,(oS y1 (20,g1)))],G [((20,g1),oB 3 1 A5 y1)]⟩ s) ?_ ?_)))))))))))
 refine A7 (I0 (A1r p1) (fun (x1:((List Int)×Int)) (g2:Nat)=>⟨T [(1,(.ptr (1,u1) 0)),(3,(oS x1.1 (20,g2))),(4,(di x1.2))],G [((1,u1),some (.box 28 (A1v p1))),((20,g2),oB 3 1 A5 x1.1)]⟩) ([],0) 0 _ hy1 (H9 ⟨.of rfl, .of rfl, .of rfl,trivial⟩ (B5 G_hit (.of rfl) (X6 trivial))) ?_)
 intro x1 g2 z1 hz1 ez1
 unfold A1r at hz1
 refine A8 (lr (fun u4 hu4=>sv rfl (sp rfl rfl (sl rfl G_hit rfl (sd rfl (K5 rfl) (sv rfl (A3 (cc rfl hz1 (fun c1 hz1=> ?_) (fun c1 hz1=> ?_)))))))))
 refine B3 (A8 (A7 (lr (fun u5 hu5=>sd rfl (E0 rfl G_hit rfl rfl) (sv rfl (bs hz1 fun v1 hv1 hz1=>C9 rfl rfl A4 (B4y _ _ _ hv1) (.inl rfl) (sd rfl (K5 rfl) (sv rfl (A3 (cc rfl hz1 (fun c2 hz1=> ?_) (fun c2 hz1=> ?_)))))))))))
 refine D1 fun u6 hu6=>E2 (oS x1.1 (20,g2)) rfl rfl (sv rfl (E2 (dl A5 [x1.2]) rfl rfl (bs hz1 fun v2 hv2 hz1=>A02 A5 (20,g2) x1.1 x1.2 [] _ (U7 (fun _=>rfl)) rfl (gq rfl) hv2 (ss rfl (A3 (I5 (D1 fun u7 hu7=>sv rfl (sv rfl (sv rfl (A3 (J2 ?_)))))))))))
 cases hz1
 exact ⟨rfl,u6,(H9 ⟨.of rfl,(.of (A34 (A3l hv2)).symm), .of rfl,trivial⟩ (sg rfl (R5 G_hit trivial)))⟩
 refine B3 (I5 (D1 fun u8 hu8=>sv rfl (sv rfl (sv rfl (A3 (J2 ?_))))))
 cases hz1
 exact ⟨rfl,g2,(H9 ⟨.of rfl, .of rfl, .of rfl,trivial⟩ (B5 G_hit (.of rfl) (I9 (gq rfl) trivial)))⟩
 refine E5 rfl ?_
 cases hz1
 obtain rfl:=ez1 _ rfl
 refine ⟨nofun,E3 rfl (l_j ?_)⟩
 exact ⟨g2,(H9 ⟨.of rfl,trivial⟩ (I9 (gq rfl) trivial))⟩
 rintro _ ⟨g1,q1⟩
 refine A9 q1 (lr (fun u9 hu9=>E2 (oS y1 (20,g1)) rfl rfl (E2 (oS y1 (20,g1)) rfl rfl (A3 (D5 ?_)))))
 cases h
 exact B0 (.inr rfl) (E4 (E1 rfl) (A77 G_hit)) A76
noncomputable def A3t (p1:Map)(x1:(Int×Int× (List Int))):Option (Stp (Int×Int× (List Int)) (List Int)):=
  (F3 p1.Lanes x1.2.1).bind fun v6=>cond ((decide ((v6.Next.length:Int)>0))&& (decide ((x1.2.2.length:Int)<8))) ((F3 p1.Lanes x1.2.1).bind fun v7=>(F3 p1.Lanes x1.2.1).bind fun v8=>(C4q x1.1 (v7.Next.length:Int)).bind fun v9=>(F3 v8.Next v9).bind fun v10=>(C9h .i64 x1.1 (v7.Next.length:Int)).bind fun v11=>(B0m x1.2.2 [v10]).bind fun v12=>some (.go (v11,v10,v12))) (some (.out x1.2.2))
noncomputable def A97 (p1:Map)(p2:Int):Option (List Int):=
  (A42 p1).bind fun v1=>cond ((v1.length:Int)==0) (some []) ((B2s p2 1048576).bind fun v2=>(C4q v2 (v1.length:Int)).bind fun v3=>(F3 v1 v3).bind fun v4=>(C9h .i64 v2 (v1.length:Int)).bind fun v5=>(loop (A3t p1) (v5,v4,[v4])).bind fun y1=>some y1)
theorem B93 (p1:Map)(p2:Int)(r:(List Int))(h:A97 p1 p2=some r):PCall Try.prog 15 [(.agg (A27 p1)),(i64 p2)] (.list (List.map A5 r)):=by
 refine G2 (fk Try.func15 Try.ntmps15 (fun r=>if r==12 then [1002]else []) (by with_unfolding_all rfl)) (nl rfl) ?_
 unfold A97 at h
 refine A9 (s0:=⟨T [(0,(.d _)),(1,(.d _))],G []⟩) (sbr rfl rfl) ?_
 refine lr (fun u1 hu1=>sn rfl rfl (sv rfl (A3 (lr (fun u2 hu2=>sd rfl (E0 rfl G_hit rfl rfl) (bs h fun v1 hv1 h=>C9 rfl rfl A4 (B3i _ _ hv1) (.inl rfl) (sv rfl (A3 (A8 (lr (fun u3 hu3=>sv rfl (sd rfl (K5 rfl) (sv rfl (A3 (cc rfl h (fun c1 h=> ?_) (fun c1 h=> ?_))))))))))))))))
 refine lr (fun u4 hu4=>sv rfl (A3 (D5 ?_)))
 cases h
 exact B0 (.inr rfl) (E4 (E1 rfl) N9) DLe.nil
 refine B3 (lr (fun u5 hu5=>sv rfl (bs h fun v2 hv2 h=>C9 rfl rfl A4 (B6s _ _ _ hv2) (.inl rfl) (sv rfl (A3 (lr (fun u6 hu6=>sv rfl (sv rfl (sv rfl (sd rfl (K5 rfl) (bs h fun v3 hv3 h=>sd rfl (C79 rfl rfl hv3) (bs h fun v4 hv4 h=>sd rfl (J8 rfl rfl hv4 rfl) (sd rfl (F4 rfl hv4 rfl) (sv rfl (A3 (lr (fun u7 hu7=>sv rfl (B1k (.sl _) (.arr 3 1 (List.map A5 ([v4]:List Int))) rfl rfl (ss rfl (A3 (A8 (A9 (s0:=⟨T [(1,(.d _)),(2,(.ptr _ _)),(5,(.d _)),(6,(.d _)),(7,(.sl _))],G [((2,u1),some (.box 28 _)),((24,u7),some _)]⟩) (sbr rfl rfl) ?_))))))))))))))))))))))
 refine D1 fun u8 hu8=>sv rfl (sv rfl (sd rfl (K5 rfl) (bs h fun v5 hv5 h=>sd rfl (D15 rfl rfl hv5) (sv rfl (A3 (A8 (bs h fun y1 hy1 h=>H8 (fun s=> ∃g1:({d:Nat // d∈ [24,66]}×Nat),Sb ⟨T [(7,(oS y1 (g1.1.val,g1.2)))],G [((g1.1.val,g1.2),oB 3 1 A5 y1)]⟩ s) ?_ ?_)))))))
 refine A7 (I0 (A3t p1) (fun (x1:(Int×Int× (List Int))) (g2:({d:Nat // d∈ [24,66]}×Nat))=>⟨T [(1,(di x1.1)),(2,(.ptr (2,u1) 0)),(6,(di x1.2.1)),(7,(oS x1.2.2 (g2.1.val,g2.2)))],G [((2,u1),some (.box 28 (A1v p1))),((g2.1.val,g2.2),oB 3 1 A5 x1.2.2)]⟩) (v5,v4,[v4]) (⟨24, .head _⟩,u7) _ hy1 (H9 ⟨.of rfl, .of rfl, .of rfl,(.of (A34 (List.cons_ne_nil _ _)).symm),trivial⟩ (B5 G_hit (.of rfl) (R5 (gq rfl) trivial))) ?_)
 intro x1 g2 z1 hz1 ez1
 unfold A3t at hz1
 refine A8 (lr (fun u9 hu9=>sp rfl rfl (sl rfl G_hit rfl (sv rfl (bs hz1 fun v6 hv6 hz1=>sd rfl (J8 rfl rfl hv6 rfl) (sv rfl (sd rfl (F4 rfl hv6 rfl) (sd rfl (K5 rfl) (sv rfl (sv rfl (A3b _ (oS x1.2.2 (g2.1.val,g2.2)) rfl (A62 rfl) (fun _=>rfl) (gt rfl (fun w2=>(D16 (f:=A5) (A6 w2) (K4 (neL g2.1.property rfl) G_hit))) (gt rfl (vb rfl rfl rfl) (sa rfl rfl rfl (A3 (cc rfl hz1 (fun c2 hz1=> ?_) (fun c2 hz1=> ?_)))))))))))))))))
 refine B3 (A7 (lr (fun u10 hu10=>sp rfl rfl (sl rfl G_hit rfl (sv rfl (bs hz1 fun v7 hv7 hz1=>sd rfl (J8 rfl rfl hv7 rfl) (sv rfl (sd rfl (F4 rfl hv7 rfl) (sd rfl (K5 rfl) (sv rfl (A3 (A8 (A9 (s0:=⟨T [(1,(di x1.1)),(2,(.ptr (2,u1) 0)),(6,(di x1.2.1)),(7,(oS x1.2.2 (g2.1.val,g2.2))),(8,(di (v7.Next.length:Int)))],G [((2,u1),some (.box 28 (A1v p1))),((g2.1.val,g2.2),oB 3 1 A5 x1.2.2)]⟩) (H9 ⟨.of rfl, .of rfl, .of rfl, .of rfl, .of rfl,trivial⟩ (B5 G_hit (.of rfl) (I9 (K4 (neL g2.1.property rfl) G_hit) trivial))) ?_)))))))))))))
 refine Z6 rfl fun u11 hu11=>sp rfl rfl (sl rfl G_hit rfl (sv rfl (bs hz1 fun v8 hv8 hz1=>sd rfl (J8 rfl rfl hv8 rfl) (sv rfl (sd rfl (F4 rfl hv8 rfl) (sv rfl (sv rfl (bs hz1 fun v9 hv9 hz1=>sd rfl (C79 rfl rfl hv9) (bs hz1 fun v10 hv10 hz1=>sd rfl (J8 rfl rfl hv10 rfl) (sd rfl (F4 rfl hv10 rfl) (sv rfl (A3 (lr (fun u12 hu12=>sv rfl (sv rfl (bs hz1 fun v11 hv11 hz1=>sd rfl (D15 rfl rfl hv11) (sv rfl (A3 (D1 fun u13 hu13=>E2 (oS x1.2.2 (g2.1.val,g2.2)) rfl rfl (sv rfl (E2 (dl A5 [v10]) rfl rfl (bs hz1 fun v12 hv12 hz1=>A02 A5 (g2.1.val,g2.2) x1.2.2 v10 [] _ (U7 (fun _=>rfl)) rfl (K4 (neL g2.1.property rfl) G_hit) hv12 (ss rfl (A3 (I5 (J2 ?_))))))))))))))))))))))))))
 cases hz1
 exact ⟨rfl,(⟨66, .tail _ (.head _)⟩,u13),(H9 ⟨.of rfl, .of rfl, .of rfl,(.of (A34 (A3l hv12)).symm),trivial⟩ (B5 (K4 rfl (K4 (neR g2.1.property rfl) G_hit)) (.of rfl) (R5 G_hit trivial)))⟩
 refine E5 rfl ?_
 cases hz1
 obtain rfl:=ez1 _ rfl
 refine ⟨nofun,E3 rfl (l_j ?_)⟩
 exact ⟨(g2.1,g2.2),(H9 ⟨.of rfl,trivial⟩ (I9 (K4 (neL g2.1.property rfl) G_hit) trivial))⟩
 rintro _ ⟨g1,q1⟩
 refine A9 q1 (lr (fun u14 hu14=>E2 (oS y1 (g1.1.val,g1.2)) rfl rfl (E2 (oS y1 (g1.1.val,g1.2)) rfl rfl (A3 (D5 ?_)))))
 cases h
 exact B0 (.inr rfl) (E4 (E1 rfl) (A77 G_hit)) A76
noncomputable def P5 (p1:Int)(p2:Int)(p3:Int):Option Bool:=
  some ((decide (p2≤p1))&& (decide (p1≤p3)))
theorem R7 (p1:Int)(p2:Int)(p3:Int)(r:Bool)(h:P5 p1 p2 p3=some r):PCall Try.prog 42 [(i64 p1),(i64 p2),(i64 p3)] (bo r):=by
 refine G2 (fk Try.func42 Try.ntmps42 m0 (by with_unfolding_all rfl)) (nl rfl) ?_
 unfold P5 at h
 refine A9 (s0:=⟨T [(0,(.d _)),(1,(.d _)),(2,(.d _))],G []⟩) (sbr rfl rfl) ?_
 refine lr (fun u1 hu1=>sv rfl (A3 (lr (fun u2 hu2=>sv rfl (sv rfl (sv rfl (sv rfl (gt rfl (fun _=>rfl) (gt rfl (fun _=>rfl) (gt rfl (fun w3=>(A1w (A6 w3) (A6 w3) rfl)) (sa rfl rfl rfl (sv rfl (A3 (D5 ?_))))))))))))))
 cases h
 exact B0 (.inr rfl) (E4 (E1 rfl) N9) (.refl _)
noncomputable def P6 (p1:RoadsCheck):Option Int:=
  (P5 p1.Map_.Version 0 1099511627776).bind fun v1=>cond (!v1) (some 2) (cond ((p1.Map_.Lanes.length:Int)==0) (some 6) (cond ((((decide ((p1.Map_.Lanes.length:Int)>12))||(decide ((p1.Map_.Zones.length:Int)>12)))||(decide ((p1.Map_.Signals.length:Int)>4)))||(decide ((p1.Map_.Works.length:Int)>8))) (some 8) (some 0)))
theorem A8x (p1:RoadsCheck)(r:Int)(h:P6 p1=some r):PCall Try.prog 43 [(.agg (A27 p1.Map_))] (i64 r):=by
 refine G2 (fk Try.func43 Try.ntmps43 m0 (by with_unfolding_all rfl)) (nl rfl) ?_
 unfold P6 at h
 refine A9 (s0:=⟨T [(0,(.d _))],G []⟩) (sbr rfl rfl) ?_
 refine lr (fun u1 hu1=>sn rfl rfl (sv rfl (A3 (A8 (A7 (lr (fun u2 hu2=>sp rfl rfl (sp rfl rfl (sl rfl G_hit rfl (bs h fun v1 hv1 h=>C9 rfl rfl A4 (R7 _ _ _ _ hv1) (.inl rfl) (E2 (.d (bo (!v1))) rfl rfl (sv rfl (A3 (cc rfl h (fun c1 h=> ?_) (fun c1 h=> ?_)))))))))))))))
 refine lr (fun u3 hu3=>sv rfl (A3 (D5 ?_)))
 cases h
 exact B0 (.inr rfl) (E4 (E1 rfl) N9) (.refl _)
 refine lr (fun u4 hu4=>sp rfl rfl (sp rfl rfl (sl rfl G_hit rfl (sd rfl (K5 rfl) (sv rfl (sv rfl (A3 (cc rfl h (fun c2 h=> ?_) (fun c2 h=> ?_)))))))))
 refine lr (fun u5 hu5=>sv rfl (A3 (D5 ?_)))
 cases h
 exact B0 (.inr rfl) (E4 (E1 rfl) N9) (.refl _)
 refine lr (fun u6 hu6=>sp rfl rfl (sp rfl rfl (sl rfl G_hit rfl (sd rfl (K5 rfl) (sv rfl (sv rfl (gp rfl (A4i rfl) (fun _=>rfl) ?_)))))))
 refine A3b _ (.ptr _ _) rfl (A4i rfl) (fun w2=>(by simp only [A6 w2];rfl)) ?_
 refine gf rfl (vl rfl G_hit rfl) (gf rfl (fun w4=>(K5 (A6 w4))) (gf rfl (vb rfl rfl rfl) (sd rfl (A7y rfl rfl (fun hc=>A6 (A1g hc))) (sv rfl (gp rfl (A4i rfl) (fun _=>rfl) ?_)))))
 refine A3b _ (.ptr _ _) rfl (A4i rfl) (fun w7=>(by simp only [A6 w7];rfl)) ?_
 refine gf rfl (vl rfl G_hit rfl) (gf rfl (fun w9=>(K5 (A6 w9))) (gf rfl (vb rfl rfl rfl) (sd rfl (A7y rfl rfl (fun hc=>A6 (A1g hc))) (sv rfl (gp rfl (A4i rfl) (fun _=>rfl) ?_)))))
 refine A3b _ (.ptr _ _) rfl (A4i rfl) (fun w12=>(by simp only [A6 w12];rfl)) ?_
 refine gf rfl (vl rfl G_hit rfl) (gf rfl (fun w14=>(K5 (A6 w14))) (gf rfl (vb rfl rfl rfl) (sd rfl (A7y rfl rfl (fun hc=>A6 (A1g hc))) (sv rfl (A3 (cc rfl h (fun c3 h=> ?_) (fun c3 h=> ?_)))))))
 refine A8 (A9 (s0:=⟨T [],G []⟩) (sbr rfl rfl) ?_)
 refine D1 fun u7 hu7=>sv rfl (A3 (D5 ?_))
 cases h
 exact B0 (.inr rfl) (E4 (E1 rfl) N9) (.refl _)
 refine B3 (I5 (A8 (A9 (s0:=⟨T [],G []⟩) (sbr rfl rfl) ?_)))
 refine D1 fun u8 hu8=>sv rfl (A3 (D5 ?_))
 cases h
 exact B0 (.inr rfl) (E4 (E1 rfl) N9) (.refl _)
noncomputable def A1h (p1:Int):Option (Int×Int×Int):=
  cond ((decide (p1<0))||(decide (p1≥4))) (some (0,0,0)) ((F3 ([(0,0,0),(2000,30,90),(1000,20,60),(300,100,300)]:List (Int×Int×Int)) p1).bind fun v1=>some (v1.1,v1.2.1,v1.2.2))
theorem A98 (p1:Int)(r:(Int×Int×Int))(h:A1h p1=some r):PCall Try.prog 24 [(i64 p1)] (.tup [(i64 r.1),(i64 r.2.1),(i64 r.2.2)]):=by
 refine G2 (fk Try.func24 Try.ntmps24 m0 (by with_unfolding_all rfl)) (nl rfl) ?_
 unfold A1h at h
 refine A9 (s0:=⟨T [(0,(.d _))],G []⟩) (sbr rfl rfl) ?_
 refine lr (fun u1 hu1=>sv rfl (sv rfl (sv rfl (A3 (lr (fun u2 hu2=>sv rfl (sv rfl (sv rfl (sv rfl (sn rfl rfl (sst rfl G_hit [(di 0),(di 0),(di 0),(di 2000),(di 30),(di 90),(di 1000),(di 20),(di 60),(di 300),(di 100),(di 300)] rfl (A3 (A8 (lr (fun u3 hu3=>sv rfl (sv rfl (sv rfl (gf rfl (fun _=>rfl) (gf rfl (vb rfl rfl rfl) (sd rfl (A7y rfl rfl (fun hc=>A6 (A1g hc))) (A3 (cc rfl h (fun c1 h=> ?_) (fun c1 h=> ?_)))))))))))))))))))))))
 refine lr (fun u4 hu4=>sv rfl (sv rfl (sv rfl (A3 (D5 ?_)))))
 cases h
 exact B0 (.inr rfl) (C75 (E1 rfl) (E1 rfl) (E1 rfl) N9 N9 N9) (.refl _)
 refine B3 (lr (fun u5 hu5=>sv rfl (bs h fun v1 hv1 h=>sp rfl (B4w rfl rfl hv1 rfl) (sd rfl (C7i (f:=D2j) rfl G_hit hv1 (fun _=>rfl) rfl rfl) (sn rfl rfl (sst rfl G_hit [(di v1.1),(di v1.2.1),(di v1.2.2)] rfl (A3 (A8 (A9 (s0:=⟨T [(6,(.ptr _ _))],G [((6,u5),some (.box 103 _))]⟩) (sbr rfl rfl) ?_)))))))))
 refine Z6 rfl fun u6 hu6=>sp rfl rfl (sl rfl G_hit rfl (sp rfl rfl (sl rfl G_hit rfl (sp rfl rfl (sl rfl G_hit rfl (sv rfl (sv rfl (sv rfl (A3 (D5 ?_))))))))))
 cases h
 exact B0 (.inr rfl) (C75 (E1 rfl) (E1 rfl) (E1 rfl) N9 N9 N9) (.refl _)
noncomputable def Y9 (p1:(List Spot))(x1:Int):Option (Stp Int (Sum Unit Bool)):=
  cond (decide (x1< (p1.length:Int))) ((F3 p1 x1).bind fun v1=>cond ((decide ((mm2 false v1.X v1.Y)< (-16777216)))||(decide ((mm2 true v1.X v1.Y)>16777216))) (some (.out (.inr false))) (some (.go (w64 (x1+1))))) (some (.out (.inl ())))
noncomputable def A4l (p1:(List Spot)):Option Bool:=
  thenS (loop (Y9 p1) 0) (fun _=>some true) (fun r=>some r)
theorem B7l (p1:(List Spot))(r:Bool)(h:A4l p1=some r):PCall Try.prog 103 [(.list (List.map A5g p1))] (bo r):=by
 refine G2 (fk Try.func103 Try.ntmps103 m0 (by with_unfolding_all rfl)) (nl rfl) ?_
 unfold A4l at h
 refine A9 (s0:=⟨T [(0,(.d _))],G []⟩) (sbr rfl rfl) ?_
 refine lr (fun u1 hu1=>sv rfl (A3 (A8 (lr (fun u2 hu2=>sv rfl (sd rfl (K5 rfl) (sv rfl (A3 (js h fun z1 hz1 h=>H8 (fun s=> ∃(y1:Unit) (g1:Unit),z1= .inl y1∧Sb ⟨T [],G []⟩ s) ?_ ?_)))))))))
 refine A7 (I0 (Y9 p1) (fun (x1:Int) (g2:Unit)=>⟨T [(5,(dl A5g p1)),(6,(di (p1.length:Int))),(7,(di x1))],G []⟩) 0 () _ hz1 (sbr rfl rfl) ?_)
 intro x1 g2 z2 hz2 ez2
 unfold Y9 at hz2
 refine lr (fun u3 hu3=>sv rfl (A3 (A8 (cc rfl hz2 (fun c1 hz2=> ?_) (fun c1 hz2=> ?_)))))
 refine B3 (A8 (A7 (lr (fun u4 hu4=>bs hz2 fun v1 hv1 hz2=>sd rfl (J8 rfl rfl hv1 rfl) (sd rfl (N3 rfl hv1 rfl rfl) (sn rfl rfl (sst rfl G_hit [(di v1.X),(di v1.Y)] rfl (A3 (lr (fun u5 hu5=>sp rfl rfl (sl rfl G_hit rfl (sp rfl rfl (sl rfl G_hit rfl (sv rfl (sv rfl (sv rfl (gp rfl (A4i rfl) (fun _=>rfl) (gf rfl (vl rfl G_hit rfl) (gp rfl (A4i rfl) (fun _=>rfl) (gf rfl (vl rfl G_hit rfl) ?_))))))))))))))))))))
 refine gf rfl (fun w5=>(by simp only [A6 w5];rfl)) ?_
 refine gf rfl (vb rfl rfl rfl) (sd rfl (A7y rfl rfl (fun hc=>A6 (A1g hc))) (A3 (cc rfl hz2 (fun c2 hz2=> ?_) (fun c2 hz2=> ?_))))
 refine A8 (A9 (s0:=⟨T [],G []⟩) (sbr rfl rfl) ?_)
 refine D1 fun u6 hu6=>sv rfl (A3 (D5 ?_))
 cases hz2
 obtain rfl:=ez2 _ rfl
 refine ⟨nofun,J9 ?_⟩
 rw [Sum.elim_inr]at h
 cases h
 exact B0 (.inr rfl) (E4 (E1 rfl) N9) (.refl _)
 refine B3 (I5 (A9 (s0:=⟨T [(5,(.d _)),(6,(.d _)),(7,(.d _))],G []⟩) (sbr rfl rfl) ?_))
 refine D1 fun u7 hu7=>sv rfl (sv rfl (A3 (J2 ?_)))
 cases hz2
 exact ⟨rfl,(),(sbr rfl rfl)⟩
 refine E5 rfl ?_
 cases hz2
 obtain rfl:=ez2 _ rfl
 refine ⟨nofun,E3 rfl (l_j ?_)⟩
 exact ⟨_,(),rfl,(sbr rfl rfl)⟩
 rintro _ ⟨y1,g1,rfl,q1⟩
 rw [Sum.elim_inl]at h
 refine A9 q1 (lr (fun u8 hu8=>sv rfl (A3 (D5 ?_))))
 cases h
 exact B0 (.inr rfl) (E4 (E1 rfl) N9) (.refl _)
noncomputable def A3u (p1:Spot)(p2:Spot):Option CurveVector:=
  some (CurveVector.mk (w64 (p2.X - p1.X)) (w64 (p2.Y - p1.Y)))
theorem B1r (p1:Spot)(p2:Spot)(r:CurveVector)(h:A3u p1 p2=some r):PCall Try.prog 104 [(.agg [(i64 p1.X),(i64 p1.Y)]),(.agg [(i64 p2.X),(i64 p2.Y)])] (.agg [(i64 r.x),(i64 r.y)]):=by
 refine G2 (fk Try.func104 Try.ntmps104 m0 (by with_unfolding_all rfl)) (nl rfl) ?_
 unfold A3u at h
 refine A9 (s0:=⟨T [(0,(.d _)),(1,(.d _))],G []⟩) (sbr rfl rfl) ?_
 refine lr (fun u1 hu1=>sn rfl rfl (sn rfl rfl (sn rfl rfl (A3 (lr (fun u2 hu2=>sp rfl rfl (sl rfl (gq rfl) rfl (sp rfl rfl (sl rfl (gq rfl) rfl (sv rfl (sp rfl rfl (sl rfl (gq rfl) rfl (sp rfl rfl (sl rfl (gq rfl) rfl (sv rfl (sv rfl (sst rfl G_hit [(di (w64 (p2.X - p1.X))),(di (w64 (p2.Y - p1.Y)))] rfl (A3 (D5 ?_)))))))))))))))))))
 cases h
 exact B0 (.inr rfl) (E4 (A1q rfl G_hit (nl rfl) rfl) N9) (.refl _)
noncomputable def S4 (p1:CurveVector)(p2:CurveVector):Option Int:=
  some (w64 ((w64 (p1.x*p2.x))+ (w64 (p1.y*p2.y))))
theorem A3m (p1:CurveVector)(p2:CurveVector)(r:Int)(h:S4 p1 p2=some r):PCall Try.prog 106 [(.agg [(i64 p1.x),(i64 p1.y)]),(.agg [(i64 p2.x),(i64 p2.y)])] (i64 r):=by
 refine G2 (fk Try.func106 Try.ntmps106 m0 (by with_unfolding_all rfl)) (nl rfl) ?_
 unfold S4 at h
 refine A9 (s0:=⟨T [(0,(.d _)),(1,(.d _))],G []⟩) (sbr rfl rfl) ?_
 refine lr (fun u1 hu1=>sn rfl rfl (sn rfl rfl (sv rfl (A3 (lr (fun u2 hu2=>sp rfl rfl (sl rfl (gq rfl) rfl (sp rfl rfl (sl rfl G_hit rfl (sv rfl (sp rfl rfl (sl rfl (gq rfl) rfl (sp rfl rfl (sl rfl G_hit rfl (sv rfl (sv rfl (sv rfl (A3 (D5 ?_)))))))))))))))))))
 cases h
 exact B0 (.inr rfl) (E4 (E1 rfl) N9) (.refl _)
noncomputable def A1j (p1:Int)(x1:(Int×Int)):Option (Stp (Int×Int) Int):=
  cond (decide (x1.1<x1.2)) (cond (decide ((w64 ((w64 ((w64 (x1.1+x1.2)).tdiv 2))* (w64 ((w64 (x1.1+x1.2)).tdiv 2))))<p1)) (some (.go ((w64 ((w64 ((w64 (x1.1+x1.2)).tdiv 2))+1)),x1.2))) (some (.go (x1.1,(w64 ((w64 (x1.1+x1.2)).tdiv 2)))))) (some (.out x1.1))
noncomputable def A2x (p1:Int):Option (Int×Bool):=
  (loop (A1j p1) (0,67108864)).bind fun y1=>some (y1,((w64 (y1*y1))==p1))
theorem B1s (p1:Int)(r:(Int×Bool))(h:A2x p1=some r):PCall Try.prog 105 [(i64 p1)] (.tup [(i64 r.1),(bo r.2)]):=by
 refine G2 (fk Try.func105 Try.ntmps105 m0 (by with_unfolding_all rfl)) (nl rfl) ?_
 unfold A2x at h
 refine A9 (s0:=⟨T [(0,(.d _))],G []⟩) (sbr rfl rfl) ?_
 refine lr (fun u1 hu1=>sv rfl (sv rfl (A3 (lr (fun u2 hu2=>sv rfl (sv rfl (A3 (A8 (bs h fun y1 hy1 h=>H8 (fun s=> ∃g1:Unit,Sb ⟨T [(0,(di p1)),(4,(di y1))],G []⟩ s) ?_ ?_)))))))))
 refine A7 (I0 (A1j p1) (fun (x1:(Int×Int)) (g2:Unit)=>⟨T [(0,(di p1)),(4,(di x1.1)),(5,(di x1.2))],G []⟩) (0,67108864) () _ hy1 (sbr rfl rfl) ?_)
 intro x1 g2 z1 hz1 ez1
 unfold A1j at hz1
 refine A8 (lr (fun u3 hu3=>sv rfl (sv rfl (sv rfl (A3 (cc rfl hz1 (fun c1 hz1=> ?_) (fun c1 hz1=> ?_)))))))
 refine B3 (A7 (lr (fun u4 hu4=>sv rfl (sv rfl (sv rfl (sv rfl (sv rfl (A3 (lr (fun u5 hu5=>sv rfl (sv rfl (sv rfl (sv rfl (sv rfl (A3 (cc rfl hz1 (fun c2 hz1=> ?_) (fun c2 hz1=> ?_)))))))))))))))))
 refine D1 fun u6 hu6=>sv rfl (sv rfl (sv rfl (A3 (I5 (J2 ?_)))))
 cases hz1
 exact ⟨rfl,(),(sbr rfl rfl)⟩
 refine D1 fun u7 hu7=>sv rfl (sv rfl (A3 (I5 (J2 ?_))))
 cases hz1
 exact ⟨rfl,(),(sbr rfl rfl)⟩
 refine E5 rfl ?_
 cases hz1
 obtain rfl:=ez1 _ rfl
 refine ⟨nofun,E3 rfl (l_j ?_)⟩
 exact ⟨(),(sbr rfl rfl)⟩
 rintro _ ⟨g1,q1⟩
 refine A9 q1 (lr (fun u8 hu8=>sv rfl (sv rfl (sv rfl (sv rfl (sv rfl (sv rfl (sv rfl (sv rfl (A3 (D5 ?_)))))))))))
 cases h
 exact B0 (.inr rfl) (C9f (E1 rfl) (E1 rfl) N9 N9) (.refl _)
noncomputable def V3 (p1:Curve)(x1:(Int×CurveVector)):Option (Stp (Int×CurveVector) (Sum Unit Int)):=
  cond (decide (x1.1< (w64 ((p1.Pts.length:Int) - 1)))) ((F3 p1.Pts x1.1).bind fun v2=>(F3 p1.Pts (w64 (x1.1+1))).bind fun v3=>(A3u v2 v3).bind fun v4=>(S4 v4 v4).bind fun v5=>(A2x v5).bind fun v6=>cond (!v6.2) (some (.out (.inr 3))) (cond ((decide (v6.1<1000))||(decide (v6.1>1048576))) (some (.out (.inr 2))) (((cond (decide (x1.1>0)) (S4 x1.2 v4) (some default))).bind fun v7=>cond ((decide (x1.1>0))&& (decide (v7≤0))) (some (.out (.inr 12))) (some (.go ((w64 (x1.1+1)),v4)))))) (some (.out (.inl ())))
noncomputable def A2b (p1:Curve):Option Int:=
  cond (decide ((p1.Pts.length:Int)<2)) (some 6) (cond (decide ((p1.Pts.length:Int)>16)) (some 5) ((A4l p1.Pts).bind fun v1=>cond (!v1) (some 2) (thenS (loop (V3 p1) (0,(CurveVector.mk 0 0))) (fun _=>some 0) (fun r=>some r))))
theorem B0n (p1:Curve)(r:Int)(h:A2b p1=some r):PCall Try.prog 74 [(.agg [(.list (List.map A5g p1.Pts))])] (i64 r):=by
 refine G2 (fk Try.func74 Try.ntmps74 m0 (by with_unfolding_all rfl)) (nl rfl) ?_
 unfold A2b at h
 refine A9 (s0:=⟨T [(0,(.d _))],G []⟩) (sbr rfl rfl) ?_
 refine lr (fun u1 hu1=>sn rfl rfl (sv rfl (A3 (A8 (A7 (lr (fun u2 hu2=>sp rfl rfl (sl rfl G_hit rfl (sd rfl (K5 rfl) (sv rfl (sv rfl (A3 (cc rfl h (fun c1 h=> ?_) (fun c1 h=> ?_))))))))))))))
 refine lr (fun u3 hu3=>sv rfl (A3 (D5 ?_)))
 cases h
 exact B0 (.inr rfl) (E4 (E1 rfl) N9) (.refl _)
 refine lr (fun u4 hu4=>sp rfl rfl (sl rfl G_hit rfl (sd rfl (K5 rfl) (sv rfl (sv rfl (A3 (cc rfl h (fun c2 h=> ?_) (fun c2 h=> ?_))))))))
 refine lr (fun u5 hu5=>sv rfl (A3 (D5 ?_)))
 cases h
 exact B0 (.inr rfl) (E4 (E1 rfl) N9) (.refl _)
 refine lr (fun u6 hu6=>sp rfl rfl (sl rfl G_hit rfl (bs h fun v1 hv1 h=>C9 rfl rfl A4 (B7l _ _ hv1) (.inl rfl) (E2 (.d (bo (!v1))) rfl rfl (sv rfl (A3 (cc rfl h (fun c3 h=> ?_) (fun c3 h=> ?_))))))))
 refine lr (fun u7 hu7=>sv rfl (A3 (D5 ?_)))
 cases h
 exact B0 (.inr rfl) (E4 (E1 rfl) N9) (.refl _)
 refine B3 (I5 (lr (fun u8 hu8=>sn rfl rfl (A3 (A8 (lr (fun u9 hu9=>sp rfl rfl (sl rfl (gq rfl) rfl (sd rfl (K5 rfl) (sv rfl (sv rfl (A3 (js h fun z1 hz1 h=>H8 (fun s=> ∃(y1:Unit) (g1:Unit),z1= .inl y1∧Sb ⟨T [],G []⟩ s) ?_ ?_)))))))))))))
 refine A7 (I0 (V3 p1) (fun (x1:(Int×CurveVector)) (g2:Unit)=>⟨T [(1,(.ptr (1,u1) 0)),(3,(.ptr (3,u8) 0)),(26,(di (w64 ((p1.Pts.length:Int) - 1)))),(27,(di x1.1))],G [((1,u1),some (.box 37 [(dl A5g p1.Pts)])),((3,u8),some (.box 135 [(di x1.2.x),(di x1.2.y)]))]⟩) (0,(CurveVector.mk 0 0)) () _ hz1 (sbr rfl rfl) ?_)
 intro x1 g2 z2 hz2 ez2
 unfold V3 at hz2
 refine lr (fun u10 hu10=>sv rfl (A3 (A8 (cc rfl hz2 (fun c4 hz2=> ?_) (fun c4 hz2=> ?_)))))
 refine B3 (A8 (A7 (lr (fun u11 hu11=>sv rfl (sv rfl (A3 (A8 (Z6 rfl fun u12 hu12=>sp rfl rfl (sl rfl G_hit rfl (sv rfl (bs hz2 fun v2 hv2 hz2=>sd rfl (J8 rfl rfl hv2 rfl) (sd rfl (N3 rfl hv2 rfl rfl) (sp rfl rfl (sl rfl G_hit rfl (sv rfl (sv rfl (bs hz2 fun v3 hv3 hz2=>sd rfl (J8 rfl rfl hv3 rfl) (sd rfl (N3 rfl hv3 rfl rfl) (bs hz2 fun v4 hv4 hz2=>C9 rfl rfl A4 (B1r _ _ _ hv4) (.inl rfl) (sn rfl rfl (sst rfl G_hit [(di v4.x),(di v4.y)] rfl (A3 (A8 (A9 (s0:=⟨T [(1,(.ptr _ _)),(3,(.ptr _ _)),(4,(.d _)),(5,(.ptr _ _)),(26,(.d _)),(27,(.d _))],G [((1,u1),some (.box 37 _)),((3,u8),some (.box 135 _)),((5,u12),some (.box 135 _))]⟩) (sbr rfl rfl) ?_))))))))))))))))))))))))
 refine D1 fun u13 hu13=>sd rfl (E0 rfl (gq rfl) rfl rfl) (sd rfl (E0 rfl (gq rfl) rfl rfl) (bs hz2 fun v5 hv5 hz2=>C9 rfl rfl A4 (A3m _ _ _ hv5) (.inl rfl) (bs hz2 fun v6 hv6 hz2=>C9 rfl rfl A4 (B1s _ _ hv6) (.inl rfl) (sv rfl (sv rfl (sv rfl (sv rfl (sv rfl (A3 (A8 (A7 (lr (fun u14 hu14=>sv rfl (E2 (.d (bo (!v6.2))) rfl rfl (sv rfl (A3 (cc rfl hz2 (fun c5 hz2=> ?_) (fun c5 hz2=> ?_))))))))))))))))))
 refine lr (fun u15 hu15=>sv rfl (A3 (D5 ?_)))
 cases hz2
 obtain rfl:=ez2 _ rfl
 refine ⟨nofun,J9 ?_⟩
 rw [Sum.elim_inr]at h
 cases h
 exact B0 (.inr rfl) (E4 (E1 rfl) N9) (.refl _)
 refine lr (fun u16 hu16=>sv rfl (sv rfl (sv rfl (gf rfl (fun _=>rfl) (gf rfl (vb rfl rfl rfl) (sd rfl (A7y rfl rfl (fun hc=>A6 (A1g hc))) (sv rfl (A3 (cc rfl hz2 (fun c6 hz2=> ?_) (fun c6 hz2=> ?_))))))))))
 refine A8 (A9 (s0:=⟨T [],G []⟩) (sbr rfl rfl) ?_)
 refine D1 fun u17 hu17=>sv rfl (A3 (D5 ?_))
 cases hz2
 obtain rfl:=ez2 _ rfl
 refine ⟨nofun,J9 ?_⟩
 rw [Sum.elim_inr]at h
 cases h
 exact B0 (.inr rfl) (E4 (E1 rfl) N9) (.refl _)
 refine A8 (A9 (s0:=⟨T [(1,(.ptr _ _)),(3,(.ptr _ _)),(4,(.d _)),(5,(.ptr _ _)),(26,(.d _)),(27,(.d _))],G [((1,u1),some (.box 37 _)),((3,u8),some (.box 135 _)),((5,u12),some (.box 135 _))]⟩) (sbr rfl rfl) ?_)
 refine D1 fun u18 hu18=>sv rfl (sv rfl (sv rfl (gt rfl (fun w3=>(E0 rfl (gq rfl) rfl rfl)) (gt rfl (fun w4=>(E0 rfl (gq rfl) rfl rfl)) (bs hz2 fun v7 hv7 hz2=> ?_)))))
 refine A0v _ (i64 v7) (A62 rfl) (fun w5=>⟨_,[(.d (.agg [(i64 x1.2.x),(i64 x1.2.y)])),(.d (.agg [(i64 v4.x),(i64 v4.y)]))],_,_,(by simp only [A6 w5];rfl),rfl,A4,A3m _ _ _ (G6 w5 hv7),(.inl rfl)⟩) ?_
 refine gt rfl (vb rfl rfl rfl) (sa rfl rfl rfl (sv rfl (A3 (cc rfl hz2 (fun c7 hz2=> ?_) (fun c7 hz2=> ?_)))))
 refine lr (fun u19 hu19=>sv rfl (A3 (D5 ?_)))
 cases hz2
 obtain rfl:=ez2 _ rfl
 refine ⟨nofun,J9 ?_⟩
 rw [Sum.elim_inr]at h
 cases h
 exact B0 (.inr rfl) (E4 (E1 rfl) N9) (.refl _)
 refine B3 (I5 (D1 fun u20 hu20=>sd rfl (E0 rfl (gq rfl) rfl rfl) (sst rfl (gq rfl) [(di v4.x),(di v4.y)] rfl (A3 (I5 (D1 fun u21 hu21=>sv rfl (sv rfl (A3 (J2 ?_)))))))))
 cases hz2
 exact ⟨rfl,(),(sbr rfl rfl)⟩
 refine E5 rfl ?_
 cases hz2
 obtain rfl:=ez2 _ rfl
 refine ⟨nofun,E3 rfl (l_j ?_)⟩
 exact ⟨_,(),rfl,(sbr rfl rfl)⟩
 rintro _ ⟨y1,g1,rfl,q1⟩
 rw [Sum.elim_inl]at h
 refine A9 q1 (lr (fun u22 hu22=>sv rfl (A3 (D5 ?_))))
 cases h
 exact B0 (.inr rfl) (E4 (E1 rfl) N9) (.refl _)
noncomputable def T9 (p1:(List Int))(p3:Int)(x1:(Int×Int)):Option (Stp (Int×Int) (Sum Unit Bool)):=
  cond (decide (x1.2< (p1.length:Int))) ((F3 p1 x1.2).bind fun v1=>cond ((decide (v1<x1.1))||(decide (v1≥p3))) (some (.out (.inr false))) (some (.go ((w64 (v1+1)),(w64 (x1.2+1)))))) (some (.out (.inl ())))
noncomputable def A0m (p1:(List Int))(p2:Int)(p3:Int):Option Bool:=
  thenS (loop (T9 p1 p3) (p2,0)) (fun _=>some true) (fun r=>some r)
theorem A68 (p1:(List Int))(p2:Int)(p3:Int)(r:Bool)(h:A0m p1 p2 p3=some r):PCall Try.prog 75 [(.list (List.map A5 p1)),(i64 p2),(i64 p3)] (bo r):=by
 refine G2 (fk Try.func75 Try.ntmps75 m0 (by with_unfolding_all rfl)) (nl rfl) ?_
 unfold A0m at h
 refine A9 (s0:=⟨T [(0,(.d _)),(1,(.d _)),(2,(.d _))],G []⟩) (sbr rfl rfl) ?_
 refine lr (fun u1 hu1=>sv rfl (A3 (A8 (lr (fun u2 hu2=>sv rfl (sd rfl (K5 rfl) (sv rfl (A3 (js h fun z1 hz1 h=>H8 (fun s=> ∃(y1:Unit) (g1:Unit),z1= .inl y1∧Sb ⟨T [],G []⟩ s) ?_ ?_)))))))))
 refine A7 (I0 (T9 p1 p3) (fun (x1:(Int×Int)) (g2:Unit)=>⟨T [(1,(di x1.1)),(2,(di p3)),(9,(dl A5 p1)),(10,(di (p1.length:Int))),(11,(di x1.2))],G []⟩) (p2,0) () _ hz1 (sbr rfl rfl) ?_)
 intro x1 g2 z2 hz2 ez2
 unfold T9 at hz2
 refine lr (fun u3 hu3=>sv rfl (A3 (A8 (cc rfl hz2 (fun c1 hz2=> ?_) (fun c1 hz2=> ?_)))))
 refine B3 (A8 (A7 (lr (fun u4 hu4=>bs hz2 fun v1 hv1 hz2=>sd rfl (J8 rfl rfl hv1 rfl) (sd rfl (F4 rfl hv1 rfl) (sv rfl (A3 (A8 (lr (fun u5 hu5=>sv rfl (sv rfl (sv rfl (sv rfl (gf rfl (fun _=>rfl) (gf rfl (fun _=>rfl) (gf rfl (fun w3=>(A1w (A6 w3) (A6 w3) rfl)) (sd rfl (A7y rfl rfl (fun hc=>A6 (A1g hc))) (A3 (cc rfl hz2 (fun c2 hz2=> ?_) (fun c2 hz2=> ?_))))))))))))))))))))
 refine lr (fun u6 hu6=>sv rfl (A3 (D5 ?_)))
 cases hz2
 obtain rfl:=ez2 _ rfl
 refine ⟨nofun,J9 ?_⟩
 rw [Sum.elim_inr]at h
 cases h
 exact B0 (.inr rfl) (E4 (E1 rfl) N9) (.refl _)
 refine B3 (D1 fun u7 hu7=>sv rfl (sv rfl (sv rfl (A3 (I5 (D1 fun u8 hu8=>sv rfl (sv rfl (A3 (J2 ?_)))))))))
 cases hz2
 exact ⟨rfl,(),(sbr rfl rfl)⟩
 refine E5 rfl ?_
 cases hz2
 obtain rfl:=ez2 _ rfl
 refine ⟨nofun,E3 rfl (l_j ?_)⟩
 exact ⟨_,(),rfl,(sbr rfl rfl)⟩
 rintro _ ⟨y1,g1,rfl,q1⟩
 rw [Sum.elim_inl]at h
 refine A9 q1 (lr (fun u9 hu9=>sv rfl (A3 (D5 ?_))))
 cases h
 exact B0 (.inr rfl) (E4 (E1 rfl) N9) (.refl _)
noncomputable def O1 (p1:RoadsCheck)(x1:Int):Option (Stp Int (Sum Unit Int)):=
  cond (decide (x1< (p1.Map_.Lanes.length:Int))) ((F3 p1.Map_.Lanes x1).bind fun v1=>(A1h v1.Kind).bind fun v2=>cond (v2.1==0) (some (.out (.inr 4))) ((A2b v1.Curve_).bind fun v3=>cond (v3 !=0) (some (.out (.inr v3))) ((P5 v1.Half 200 4000).bind fun v4=>((cond (!(!v4)) (P5 v1.Limit 1 v2.1) (some default))).bind fun v5=>cond ((!v4)||(!v5)) (some (.out (.inr 2))) (cond (decide ((v1.Next.length:Int)>3)) (some (.out (.inr 8))) ((A0m v1.Next (w64 (x1+1)) (p1.Map_.Lanes.length:Int)).bind fun v6=>cond (!v6) (some (.out (.inr 11))) (some (.go (w64 (x1+1))))))))) (some (.out (.inl ())))
noncomputable def S9 (p1:RoadsCheck):Option Int:=
  thenS (loop (O1 p1) 0) (fun _=>some 0) (fun r=>some r)
theorem B04 (p1:RoadsCheck)(r:Int)(h:S9 p1=some r):PCall Try.prog 44 [(.agg (A27 p1.Map_))] (i64 r):=by
 refine G2 (fk Try.func44 Try.ntmps44 m0 (by with_unfolding_all rfl)) (nl rfl) ?_
 unfold S9 at h
 refine A9 (s0:=⟨T [(0,(.d _))],G []⟩) (sbr rfl rfl) ?_
 refine lr (fun u1 hu1=>sn rfl rfl (sv rfl (A3 (A8 (lr (fun u2 hu2=>sp rfl rfl (sp rfl rfl (sl rfl G_hit rfl (sd rfl (K5 rfl) (sv rfl (A3 (js h fun z1 hz1 h=>H8 (fun s=> ∃(y1:Unit) (g1:Unit),z1= .inl y1∧Sb ⟨T [],G []⟩ s) ?_ ?_))))))))))))
 refine A7 (I0 (O1 p1) (fun (x1:Int) (g2:Unit)=>⟨T [(1,(.ptr (1,u1) 0)),(11,(dl A4k p1.Map_.Lanes)),(12,(di (p1.Map_.Lanes.length:Int))),(13,(di x1))],G [((1,u1),some (.box 88 (A1v p1.Map_)))]⟩) 0 () _ hz1 (sbr rfl rfl) ?_)
 intro x1 g2 z2 hz2 ez2
 unfold O1 at hz2
 refine lr (fun u3 hu3=>sv rfl (A3 (A8 (cc rfl hz2 (fun c1 hz2=> ?_) (fun c1 hz2=> ?_)))))
 refine B3 (A8 (A7 (lr (fun u4 hu4=>sv rfl (bs hz2 fun v1 hv1 hz2=>sd rfl (J8 rfl rfl hv1 rfl) (sd rfl (N3 rfl hv1 rfl rfl) (sn rfl rfl (sv rfl (sst rfl G_hit (B3h v1) rfl (A3 (lr (fun u5 hu5=>sp rfl rfl (sl rfl G_hit rfl (bs hz2 fun v2 hv2 hz2=>C9 rfl rfl A4 (A98 _ _ hv2) (.inl rfl) (sv rfl (sv rfl (sv rfl (sv rfl (sv rfl (sv rfl (sv rfl (A3 (A8 (A8 (A9 (s0:=⟨T [(1,(.ptr _ _)),(3,(.d _)),(4,(.ptr _ _)),(5,(.d _)),(11,(.d _)),(12,(.d _)),(13,(.d _))],G [((1,u1),some (.box 88 _)),((4,u4),some (.box 40 _))]⟩) (sbr rfl rfl) ?_)))))))))))))))))))))))))
 refine D1 fun u6 hu6=>sv rfl (sv rfl (A3 (cc rfl hz2 (fun c2 hz2=> ?_) (fun c2 hz2=> ?_))))
 refine lr (fun u7 hu7=>sv rfl (A3 (D5 ?_)))
 cases hz2
 obtain rfl:=ez2 _ rfl
 refine ⟨nofun,J9 ?_⟩
 rw [Sum.elim_inr]at h
 cases h
 exact B0 (.inr rfl) (E4 (E1 rfl) N9) (.refl _)
 refine B3 (A8 (lr (fun u8 hu8=>sp rfl rfl (sd rfl (E0 rfl (gq rfl) rfl rfl) (bs hz2 fun v3 hv3 hz2=>C9 rfl rfl A4 (B0n _ _ hv3) (.inl rfl) (sv rfl (A3 (lr (fun u9 hu9=>sv rfl (sv rfl (A3 (cc rfl hz2 (fun c3 hz2=> ?_) (fun c3 hz2=> ?_)))))))))))))
 refine lr (fun u10 hu10=>sv rfl (sv rfl (A3 (D5 ?_))))
 cases hz2
 obtain rfl:=ez2 _ rfl
 refine ⟨nofun,J9 ?_⟩
 rw [Sum.elim_inr]at h
 cases h
 exact B0 (.inr rfl) (E4 (E1 rfl) N9) (.refl _)
 refine B3 (A7 (lr (fun u11 hu11=>sp rfl rfl (sl rfl (gq rfl) rfl (bs hz2 fun v4 hv4 hz2=>C9 rfl rfl A4 (R7 _ _ _ _ hv4) (.inl rfl) (E2 (.d (bo (!v4))) rfl rfl (sv rfl (gp rfl (A4i rfl) (fun _=>rfl) (gf rfl (vl rfl (gq rfl) rfl) (gf rfl (fun _=>rfl) (bs hz2 fun v5 hv5 hz2=> ?_)))))))))))
 refine A0v _ (bo v5) (A4i rfl) (fun w4=>⟨_,[(di v1.Limit),(di 1),(di v2.1)],_,_,(by simp only [A6 w4];rfl),rfl,A4,R7 _ _ _ _ (G6 w4 hv5),(.inl rfl)⟩) ?_
 refine A3b _ (.d (bo (!v5))) rfl (A4i rfl) (fun w5=>(by simp only [A6 w5];rfl)) ?_
 refine sd rfl (A7y rfl rfl (fun hc=>A6 (A1g hc))) (sv rfl (A3 (cc rfl hz2 (fun c4 hz2=> ?_) (fun c4 hz2=> ?_))))
 refine A8 (A9 (s0:=⟨T [],G []⟩) (sbr rfl rfl) ?_)
 refine D1 fun u12 hu12=>sv rfl (A3 (D5 ?_))
 cases hz2
 obtain rfl:=ez2 _ rfl
 refine ⟨nofun,J9 ?_⟩
 rw [Sum.elim_inr]at h
 cases h
 exact B0 (.inr rfl) (E4 (E1 rfl) N9) (.refl _)
 refine A8 (A9 (s0:=⟨T [(1,(.ptr _ _)),(3,(.d _)),(4,(.ptr _ _)),(11,(.d _)),(12,(.d _)),(13,(.d _))],G [((1,u1),some (.box 88 _)),((4,u4),some (.box 40 _))]⟩) (sbr rfl rfl) ?_)
 refine D1 fun u13 hu13=>sp rfl rfl (sl rfl (gq rfl) rfl (sd rfl (K5 rfl) (sv rfl (sv rfl (A3 (cc rfl hz2 (fun c5 hz2=> ?_) (fun c5 hz2=> ?_)))))))
 refine lr (fun u14 hu14=>sv rfl (A3 (D5 ?_)))
 cases hz2
 obtain rfl:=ez2 _ rfl
 refine ⟨nofun,J9 ?_⟩
 rw [Sum.elim_inr]at h
 cases h
 exact B0 (.inr rfl) (E4 (E1 rfl) N9) (.refl _)
 refine lr (fun u15 hu15=>sp rfl rfl (sl rfl (gq rfl) rfl (sv rfl (sv rfl (sp rfl rfl (sp rfl rfl (sl rfl G_hit rfl (sd rfl (K5 rfl) (bs hz2 fun v6 hv6 hz2=>C9 rfl rfl A4 (A68 _ _ _ _ hv6) (.inl rfl) (E2 (.d (bo (!v6))) rfl rfl (sv rfl (A3 (cc rfl hz2 (fun c6 hz2=> ?_) (fun c6 hz2=> ?_))))))))))))))
 refine A8 (A9 (s0:=⟨T [],G []⟩) (sbr rfl rfl) ?_)
 refine D1 fun u16 hu16=>sv rfl (A3 (D5 ?_))
 cases hz2
 obtain rfl:=ez2 _ rfl
 refine ⟨nofun,J9 ?_⟩
 rw [Sum.elim_inr]at h
 cases h
 exact B0 (.inr rfl) (E4 (E1 rfl) N9) (.refl _)
 refine B3 (I5 (I5 (A9 (s0:=⟨T [(1,(.ptr _ _)),(11,(.d _)),(12,(.d _)),(13,(.d _))],G [((1,u1),some (.box 88 _))]⟩) (sbr rfl rfl) ?_)))
 refine D1 fun u17 hu17=>sv rfl (sv rfl (A3 (J2 ?_)))
 cases hz2
 exact ⟨rfl,(),(sbr rfl rfl)⟩
 refine E5 rfl ?_
 cases hz2
 obtain rfl:=ez2 _ rfl
 refine ⟨nofun,E3 rfl (l_j ?_)⟩
 exact ⟨_,(),rfl,(sbr rfl rfl)⟩
 rintro _ ⟨y1,g1,rfl,q1⟩
 rw [Sum.elim_inl]at h
 refine A9 q1 (lr (fun u18 hu18=>sv rfl (A3 (D5 ?_))))
 cases h
 exact B0 (.inr rfl) (E4 (E1 rfl) N9) (.refl _)
noncomputable def M8 (p1:RoadsCheck)(v1:Lane)(v2:Spot)(x2:Int):Option (Stp Int (Sum Unit Int)):=
  cond (decide (x2< (v1.Next.length:Int))) ((F3 v1.Next x2).bind fun v3=>(F3 p1.Map_.Lanes v3).bind fun v4=>cond (v4.Kind !=v1.Kind) (some (.out (.inr 4))) ((F3 p1.Map_.Lanes v3).bind fun v5=>(F3 v5.Curve_.Pts 0).bind fun v6=>cond (!(v6.X==v2.X&& (v6.Y==v2.Y&&true))) (some (.out (.inr 3))) (some (.go (w64 (x2+1)))))) (some (.out (.inl ())))
noncomputable def M9 (p1:RoadsCheck)(x1:Int):Option (Stp Int (Sum Unit Int)):=
  cond (decide (x1< (p1.Map_.Lanes.length:Int))) ((F3 p1.Map_.Lanes x1).bind fun v1=>(F3 v1.Curve_.Pts (w64 ((v1.Curve_.Pts.length:Int) - 1))).bind fun v2=>thenS (loop (M8 p1 v1 v2) 0) (fun _=>some (.go (w64 (x1+1)))) (fun r=>some (.out (.inr r)))) (some (.out (.inl ())))
noncomputable def R2 (p1:RoadsCheck):Option Int:=
  thenS (loop (M9 p1) 0) (fun _=>some 0) (fun r=>some r)
theorem A99 (p1:RoadsCheck)(r:Int)(h:R2 p1=some r):PCall Try.prog 45 [(.agg (A27 p1.Map_))] (i64 r):=by
 refine G2 (fk Try.func45 Try.ntmps45 m0 (by with_unfolding_all rfl)) (nl rfl) ?_
 unfold R2 at h
 refine A9 (s0:=⟨T [(0,(.d _))],G []⟩) (sbr rfl rfl) ?_
 refine lr (fun u1 hu1=>sn rfl rfl (sv rfl (A3 (A8 (lr (fun u2 hu2=>sp rfl rfl (sp rfl rfl (sl rfl G_hit rfl (sd rfl (K5 rfl) (sv rfl (A3 (js h fun z1 hz1 h=>H8 (fun s=> ∃(y1:Unit) (g1:Unit),z1= .inl y1∧Sb ⟨T [],G []⟩ s) ?_ ?_))))))))))))
 refine A7 (I0 (M9 p1) (fun (x1:Int) (g2:Unit)=>⟨T [(1,(.ptr (1,u1) 0)),(10,(dl A4k p1.Map_.Lanes)),(11,(di (p1.Map_.Lanes.length:Int))),(12,(di x1))],G [((1,u1),some (.box 88 (A1v p1.Map_)))]⟩) 0 () _ hz1 (sbr rfl rfl) ?_)
 intro x1 g2 z2 hz2 ez2
 unfold M9 at hz2
 refine lr (fun u3 hu3=>sv rfl (A3 (A8 (cc rfl hz2 (fun c1 hz2=> ?_) (fun c1 hz2=> ?_)))))
 refine B3 (A8 (A7 (lr (fun u4 hu4=>bs hz2 fun v1 hv1 hz2=>sd rfl (J8 rfl rfl hv1 rfl) (sd rfl (N3 rfl hv1 rfl rfl) (sn rfl rfl (sst rfl G_hit (B3h v1) rfl (A3 (lr (fun u5 hu5=>sp rfl rfl (sp rfl rfl (sl rfl G_hit rfl (sp rfl rfl (sp rfl rfl (sl rfl G_hit rfl (sd rfl (K5 rfl) (sv rfl (bs hz2 fun v2 hv2 hz2=>sd rfl (J8 rfl rfl hv2 rfl) (sd rfl (N3 rfl hv2 rfl rfl) (sn rfl rfl (sst rfl G_hit [(di v2.X),(di v2.Y)] rfl (A3 (A8 (A9 (s0:=⟨T [(1,(.ptr _ _)),(4,(.ptr _ _)),(5,(.ptr _ _)),(10,(.d _)),(11,(.d _)),(12,(.d _))],G [((1,u1),some (.box 88 _)),((4,u4),some (.box 40 _)),((5,u5),some (.box 111 _))]⟩) (sbr rfl rfl) ?_))))))))))))))))))))))))
 refine D1 fun u6 hu6=>sp rfl rfl (sl rfl (gq rfl) rfl (sd rfl (K5 rfl) (sv rfl (A3 (js hz2 fun z3 hz3 hz2=>H8 (fun s=> ∃(y2:Unit) (g3:Unit),z3= .inl y2∧Sb ⟨T [(1,(.ptr (1,u1) 0)),(10,(dl A4k p1.Map_.Lanes)),(11,(di (p1.Map_.Lanes.length:Int))),(12,(di x1))],G [((1,u1),some (.box 88 (A1v p1.Map_)))]⟩ s) ?_ ?_)))))
 refine A7 (I0 (M8 p1 v1 v2) (fun (x2:Int) (g4:Unit)=>⟨T [(1,(.ptr (1,u1) 0)),(4,(.ptr (4,u4) 0)),(5,(.ptr (5,u5) 0)),(10,(dl A4k p1.Map_.Lanes)),(11,(di (p1.Map_.Lanes.length:Int))),(12,(di x1)),(27,(dl A5 v1.Next)),(28,(di (v1.Next.length:Int))),(29,(di x2))],G [((1,u1),some (.box 88 (A1v p1.Map_))),((4,u4),some (.box 40 (B3h v1))),((5,u5),some (.box 111 [(di v2.X),(di v2.Y)]))]⟩) 0 () _ hz3 (sbr rfl rfl) ?_)
 intro x2 g4 z4 hz4 ez4
 unfold M8 at hz4
 refine lr (fun u7 hu7=>sv rfl (A3 (A8 (cc rfl hz4 (fun c2 hz4=> ?_) (fun c2 hz4=> ?_)))))
 refine B3 (A8 (A7 (lr (fun u8 hu8=>bs hz4 fun v3 hv3 hz4=>sd rfl (J8 rfl rfl hv3 rfl) (sd rfl (F4 rfl hv3 rfl) (sv rfl (A3 (A8 (A8 (Z6 rfl fun u9 hu9=>sp rfl rfl (sp rfl rfl (sl rfl G_hit rfl (sv rfl (bs hz4 fun v4 hv4 hz4=>sd rfl (J8 rfl rfl hv4 rfl) (sv rfl (sd rfl (F4 rfl hv4 rfl) (sp rfl rfl (sl rfl (gq rfl) rfl (sv rfl (A3 (cc rfl hz4 (fun c3 hz4=> ?_) (fun c3 hz4=> ?_))))))))))))))))))))))
 refine A8 (A9 (s0:=⟨T [],G []⟩) (sbr rfl rfl) ?_)
 refine D1 fun u10 hu10=>sv rfl (A3 (D5 ?_))
 cases hz4
 obtain rfl:=ez4 _ rfl
 refine ⟨nofun,J9 ?_⟩
 rw [Sum.elim_inr]at hz2
 cases hz2
 obtain rfl:=ez2 _ rfl
 refine ⟨nofun,J9 ?_⟩
 rw [Sum.elim_inr]at h
 cases h
 exact B0 (.inr rfl) (E4 (E1 rfl) N9) (.refl _)
 refine B3 (A8 (A9 (s0:=⟨T [(1,(.ptr _ _)),(4,(.ptr _ _)),(5,(.ptr _ _)),(7,(.d _)),(10,(.d _)),(11,(.d _)),(12,(.d _)),(27,(.d _)),(28,(.d _)),(29,(.d _))],G [((1,u1),some (.box 88 _)),((4,u4),some (.box 40 _)),((5,u5),some (.box 111 _))]⟩) (sbr rfl rfl) ?_))
 refine Z6 rfl fun u11 hu11=>sp rfl rfl (sp rfl rfl (sl rfl G_hit rfl (sv rfl (bs hz4 fun v5 hv5 hz4=>sd rfl (J8 rfl rfl hv5 rfl) (sv rfl (sv rfl (sd rfl (F4 rfl hv5 rfl) (bs hz4 fun v6 hv6 hz4=>sd rfl (J8 rfl rfl hv6 rfl) (sd rfl (N3 rfl hv6 rfl rfl) (sd rfl (E0 rfl (gq rfl) rfl rfl) (E2 (.d (bo (!(v6.X==v2.X&& (v6.Y==v2.Y&&true))))) rfl rfl (A3 (cc rfl hz4 (fun c4 hz4=> ?_) (fun c4 hz4=> ?_))))))))))))))
 refine A8 (A9 (s0:=⟨T [],G []⟩) (sbr rfl rfl) ?_)
 refine D1 fun u12 hu12=>sv rfl (A3 (D5 ?_))
 cases hz4
 obtain rfl:=ez4 _ rfl
 refine ⟨nofun,J9 ?_⟩
 rw [Sum.elim_inr]at hz2
 cases hz2
 obtain rfl:=ez2 _ rfl
 refine ⟨nofun,J9 ?_⟩
 rw [Sum.elim_inr]at h
 cases h
 exact B0 (.inr rfl) (E4 (E1 rfl) N9) (.refl _)
 refine B3 (I5 (A9 (s0:=⟨T [(1,(.ptr _ _)),(4,(.ptr _ _)),(5,(.ptr _ _)),(10,(.d _)),(11,(.d _)),(12,(.d _)),(27,(.d _)),(28,(.d _)),(29,(.d _))],G [((1,u1),some (.box 88 _)),((4,u4),some (.box 40 _)),((5,u5),some (.box 111 _))]⟩) (sbr rfl rfl) ?_))
 refine D1 fun u13 hu13=>sv rfl (sv rfl (A3 (J2 ?_)))
 cases hz4
 exact ⟨rfl,(),(sbr rfl rfl)⟩
 refine E5 rfl ?_
 cases hz4
 obtain rfl:=ez4 _ rfl
 refine ⟨nofun,E3 rfl (l_j ?_)⟩
 exact ⟨_,(),rfl,(sbr rfl rfl)⟩
 rintro _ ⟨y2,g3,rfl,q1⟩
 rw [Sum.elim_inl]at hz2
 refine I5 (A9 q1 (D1 fun u14 hu14=>sv rfl (sv rfl (A3 (J2 ?_)))))
 cases hz2
 exact ⟨rfl,(),(sbr rfl rfl)⟩
 refine E5 rfl ?_
 cases hz2
 obtain rfl:=ez2 _ rfl
 refine ⟨nofun,E3 rfl (l_j ?_)⟩
 exact ⟨_,(),rfl,(sbr rfl rfl)⟩
 rintro _ ⟨y1,g1,rfl,q2⟩
 rw [Sum.elim_inl]at h
 refine A9 q2 (lr (fun u15 hu15=>sv rfl (A3 (D5 ?_))))
 cases h
 exact B0 (.inr rfl) (E4 (E1 rfl) N9) (.refl _)
noncomputable def T0 (p1:Phase):Option Bool:=
  (P5 p1.Ticks 1 10000).bind fun v1=>some (!v1)
theorem A7s (p1:Phase)(r:Bool)(h:T0 p1=some r):PCall Try.prog 77 [(.agg [(i64 p1.Ticks),(.list (List.map A5 p1.Green))])] (bo r):=by
 refine G2 (fk Try.func77 Try.ntmps77 m0 (by with_unfolding_all rfl)) (nl rfl) ?_
 unfold T0 at h
 refine A9 (s0:=⟨T [(0,(.d _))],G []⟩) (sbr rfl rfl) ?_
 refine lr (fun u1 hu1=>sn rfl rfl (sv rfl (A3 (lr (fun u2 hu2=>sp rfl rfl (sl rfl G_hit rfl (bs h fun v1 hv1 h=>C9 rfl rfl A4 (R7 _ _ _ _ hv1) (.inl rfl) (E2 (.d (bo (!v1))) rfl rfl (sv rfl (A3 (D5 ?_)))))))))))
 cases h
 exact B0 (.inr rfl) (E4 (E1 rfl) N9) (.refl _)
noncomputable def C1 (p1:(List Phase))(x1:Int):Option (Stp Int (Sum Unit Int)):=
  cond (decide (x1< (p1.length:Int))) ((F3 p1 x1).bind fun v1=>(T0 v1).bind fun v2=>cond v2 (some (.out (.inr x1))) (some (.go (w64 (x1+1))))) (some (.out (.inl ())))
noncomputable def D4 (p1:(List Phase)):Option Int:=
  thenS (loop (C1 p1) 0) (fun _=>some (-1)) (fun r=>some r)
theorem Z0 (p1:(List Phase))(r:Int)(h:D4 p1=some r):PCall Try.prog 107 [(.list (List.map A66 p1)),(.fn (.func 77) [] [])] (i64 r):=by
 refine G2 (fk Try.func107 Try.ntmps107 m0 (by with_unfolding_all rfl)) (nl rfl) ?_
 unfold D4 at h
 refine A9 (s0:=⟨T [(0,(.d _)),(1,(.d _))],G []⟩) (sbr rfl rfl) ?_
 refine lr (fun u1 hu1=>sv rfl (A3 (A8 (lr (fun u2 hu2=>sv rfl (sd rfl (K5 rfl) (sv rfl (A3 (js h fun z1 hz1 h=>H8 (fun s=> ∃(y1:Unit) (g1:Unit),z1= .inl y1∧Sb ⟨T [],G []⟩ s) ?_ ?_)))))))))
 refine A7 (I0 (C1 p1) (fun (x1:Int) (g2:Unit)=>⟨T [(0,(dl A66 p1)),(1,(.d (.fn (.func 77) [] []))),(7,(di (p1.length:Int))),(8,(di x1))],G []⟩) 0 () _ hz1 (sbr rfl rfl) ?_)
 intro x1 g2 z2 hz2 ez2
 unfold C1 at hz2
 refine lr (fun u3 hu3=>sv rfl (A3 (A8 (cc rfl hz2 (fun c1 hz2=> ?_) (fun c1 hz2=> ?_)))))
 refine B3 (A8 (A7 (lr (fun u4 hu4=>sv rfl (sv rfl (A3 (lr (fun u5 hu5=>sv rfl (sv rfl (sv rfl (bs hz2 fun v1 hv1 hz2=>sd rfl (J8 rfl rfl hv1 rfl) (sd rfl (N3 rfl hv1 rfl rfl) (bs hz2 fun v2 hv2 hz2=>C9 rfl rfl A4 (A7s _ _ hv2) (.inl rfl) (A3 (cc rfl hz2 (fun c2 hz2=> ?_) (fun c2 hz2=> ?_))))))))))))))))
 refine lr (fun u6 hu6=>sv rfl (sv rfl (A3 (D5 ?_))))
 cases hz2
 obtain rfl:=ez2 _ rfl
 refine ⟨nofun,J9 ?_⟩
 rw [Sum.elim_inr]at h
 cases h
 exact B0 (.inr rfl) (E4 (E1 rfl) N9) (.refl _)
 refine B3 (I5 (D1 fun u7 hu7=>sv rfl (sv rfl (A3 (J2 ?_)))))
 cases hz2
 exact ⟨rfl,(),(sbr rfl rfl)⟩
 refine E5 rfl ?_
 cases hz2
 obtain rfl:=ez2 _ rfl
 refine ⟨nofun,E3 rfl (l_j ?_)⟩
 exact ⟨_,(),rfl,(sbr rfl rfl)⟩
 rintro _ ⟨y1,g1,rfl,q1⟩
 rw [Sum.elim_inl]at h
 refine A9 q1 (lr (fun u8 hu8=>sv rfl (A3 (D5 ?_))))
 cases h
 exact B0 (.inr rfl) (E4 (E1 rfl) N9) (.refl _)
noncomputable def C2 (p1:(List Phase)):Option Bool:=
  (D4 p1).bind fun v1=>some (decide (v1≥0))
theorem W9 (p1:(List Phase))(r:Bool)(h:C2 p1=some r):PCall Try.prog 76 [(.list (List.map A66 p1)),(.fn (.func 77) [] [])] (bo r):=by
 refine G2 (fk Try.func76 Try.ntmps76 m0 (by with_unfolding_all rfl)) (nl rfl) ?_
 unfold C2 at h
 refine A9 (s0:=⟨T [(0,(.d _)),(1,(.d _))],G []⟩) (sbr rfl rfl) ?_
 refine lr (fun u1 hu1=>sv rfl (A3 (lr (fun u2 hu2=>sv rfl (sv rfl (bs h fun v1 hv1 h=>C9 rfl rfl A4 (Z0 _ _ hv1) (.inl rfl) (sv rfl (sv rfl (A3 (D5 ?_))))))))))
 cases h
 exact B0 (.inr rfl) (E4 (E1 rfl) N9) (.refl _)
noncomputable def Q5 (p1:Phase)(p2:RoadsCheck):Option Bool:=
  (A0m p1.Green 0 (p2.Map_.Lanes.length:Int)).bind fun v1=>some (!v1)
theorem A6v (p1:Phase)(p2:RoadsCheck)(r:Bool)(h:Q5 p1 p2=some r):PCall Try.prog 78 [(.agg [(i64 p1.Ticks),(.list (List.map A5 p1.Green))]),(.bp (A27 p2.Map_) 0)] (bo r):=by
 refine G2 (fk Try.func78 Try.ntmps78 m0 (by with_unfolding_all rfl)) (nl rfl) ?_
 unfold Q5 at h
 refine A9 (s0:=⟨T [(0,(.d _)),(1,(.d _))],G []⟩) (sbr rfl rfl) ?_
 refine lr (fun u1 hu1=>sn rfl rfl (sv rfl (A3 (lr (fun u2 hu2=>sp rfl rfl (sl rfl G_hit rfl (sv rfl (sv rfl (sv rfl (sd rfl (K5 rfl) (bs h fun v1 hv1 h=>C9 rfl rfl A4 (A68 _ _ _ _ hv1) (.inl rfl) (E2 (.d (bo (!v1))) rfl rfl (sv rfl (A3 (D5 ?_)))))))))))))))
 cases h
 exact B0 (.inr rfl) (E4 (E1 rfl) N9) (.refl _)
noncomputable def B9 (p1:(List Phase))(p2:RoadsCheck)(x1:Int):Option (Stp Int (Sum Unit Int)):=
  cond (decide (x1< (p1.length:Int))) ((F3 p1 x1).bind fun v1=>(Q5 v1 p2).bind fun v2=>cond v2 (some (.out (.inr x1))) (some (.go (w64 (x1+1))))) (some (.out (.inl ())))
noncomputable def D2 (p1:(List Phase))(p2:RoadsCheck):Option Int:=
  thenS (loop (B9 p1 p2) 0) (fun _=>some (-1)) (fun r=>some r)
theorem Y4 (p1:(List Phase))(p2:RoadsCheck)(r:Int)(h:D2 p1 p2=some r):PCall Try.prog 107 [(.list (List.map A66 p1)),(.fn (.func 78) [] [(.bp (A27 p2.Map_) 0)])] (i64 r):=by
 refine G2 (fk Try.func107 Try.ntmps107 m0 (by with_unfolding_all rfl)) (nl rfl) ?_
 unfold D2 at h
 refine A9 (s0:=⟨T [(0,(.d _)),(1,(.d _))],G []⟩) (sbr rfl rfl) ?_
 refine lr (fun u1 hu1=>sv rfl (A3 (A8 (lr (fun u2 hu2=>sv rfl (sd rfl (K5 rfl) (sv rfl (A3 (js h fun z1 hz1 h=>H8 (fun s=> ∃(y1:Unit) (g1:Unit),z1= .inl y1∧Sb ⟨T [],G []⟩ s) ?_ ?_)))))))))
 refine A7 (I0 (B9 p1 p2) (fun (x1:Int) (g2:Unit)=>⟨T [(0,(dl A66 p1)),(1,(.d (.fn (.func 78) [] [(.bp (A27 p2.Map_) 0)]))),(7,(di (p1.length:Int))),(8,(di x1))],G []⟩) 0 () _ hz1 (sbr rfl rfl) ?_)
 intro x1 g2 z2 hz2 ez2
 unfold B9 at hz2
 refine lr (fun u3 hu3=>sv rfl (A3 (A8 (cc rfl hz2 (fun c1 hz2=> ?_) (fun c1 hz2=> ?_)))))
 refine B3 (A8 (A7 (lr (fun u4 hu4=>sv rfl (sv rfl (A3 (lr (fun u5 hu5=>sv rfl (sv rfl (sv rfl (bs hz2 fun v1 hv1 hz2=>sd rfl (J8 rfl rfl hv1 rfl) (sd rfl (N3 rfl hv1 rfl rfl) (bs hz2 fun v2 hv2 hz2=>C9 rfl rfl A4 (A6v _ _ _ hv2) (.inl rfl) (A3 (cc rfl hz2 (fun c2 hz2=> ?_) (fun c2 hz2=> ?_))))))))))))))))
 refine lr (fun u6 hu6=>sv rfl (sv rfl (A3 (D5 ?_))))
 cases hz2
 obtain rfl:=ez2 _ rfl
 refine ⟨nofun,J9 ?_⟩
 rw [Sum.elim_inr]at h
 cases h
 exact B0 (.inr rfl) (E4 (E1 rfl) N9) (.refl _)
 refine B3 (I5 (D1 fun u7 hu7=>sv rfl (sv rfl (A3 (J2 ?_)))))
 cases hz2
 exact ⟨rfl,(),(sbr rfl rfl)⟩
 refine E5 rfl ?_
 cases hz2
 obtain rfl:=ez2 _ rfl
 refine ⟨nofun,E3 rfl (l_j ?_)⟩
 exact ⟨_,(),rfl,(sbr rfl rfl)⟩
 rintro _ ⟨y1,g1,rfl,q1⟩
 rw [Sum.elim_inl]at h
 refine A9 q1 (lr (fun u8 hu8=>sv rfl (A3 (D5 ?_))))
 cases h
 exact B0 (.inr rfl) (E4 (E1 rfl) N9) (.refl _)
noncomputable def C0 (p1:(List Phase))(p2:RoadsCheck):Option Bool:=
  (D2 p1 p2).bind fun v1=>some (decide (v1≥0))
theorem V7 (p1:(List Phase))(p2:RoadsCheck)(r:Bool)(h:C0 p1 p2=some r):PCall Try.prog 76 [(.list (List.map A66 p1)),(.fn (.func 78) [] [(.bp (A27 p2.Map_) 0)])] (bo r):=by
 refine G2 (fk Try.func76 Try.ntmps76 m0 (by with_unfolding_all rfl)) (nl rfl) ?_
 unfold C0 at h
 refine A9 (s0:=⟨T [(0,(.d _)),(1,(.d _))],G []⟩) (sbr rfl rfl) ?_
 refine lr (fun u1 hu1=>sv rfl (A3 (lr (fun u2 hu2=>sv rfl (sv rfl (bs h fun v1 hv1 h=>C9 rfl rfl A4 (Y4 _ _ _ hv1) (.inl rfl) (sv rfl (sv rfl (A3 (D5 ?_))))))))))
 cases h
 exact B0 (.inr rfl) (E4 (E1 rfl) N9) (.refl _)
noncomputable def M0 (p1:RoadsCheck)(x1:Int):Option (Stp Int (Sum Unit Int)):=
  cond (decide (x1< (p1.Map_.Signals.length:Int))) ((F3 p1.Map_.Signals x1).bind fun v1=>cond ((v1.Phases.length:Int)==0) (some (.out (.inr 6))) (cond (decide ((v1.Phases.length:Int)>6)) (some (.out (.inr 8))) ((P5 v1.Offset 0 1099511627776).bind fun v2=>cond (!v2) (some (.out (.inr 2))) ((C2 v1.Phases).bind fun v3=>cond v3 (some (.out (.inr 2))) ((C0 v1.Phases p1).bind fun v4=>cond v4 (some (.out (.inr 11))) (some (.go (w64 (x1+1))))))))) (some (.out (.inl ())))
noncomputable def P7 (p1:RoadsCheck):Option Int:=
  thenS (loop (M0 p1) 0) (fun _=>some 0) (fun r=>some r)
theorem A8y (p1:RoadsCheck)(r:Int)(h:P7 p1=some r):PCall Try.prog 46 [(.agg (A27 p1.Map_))] (i64 r):=by
 refine G2 (fk Try.func46 Try.ntmps46 m0 (by with_unfolding_all rfl)) (nl rfl) ?_
 unfold P7 at h
 refine A9 (s0:=⟨T [(0,(.d _))],G []⟩) (sbr rfl rfl) ?_
 refine lr (fun u1 hu1=>sn rfl rfl (sv rfl (A3 (A8 (lr (fun u2 hu2=>sp rfl rfl (sp rfl rfl (sl rfl G_hit rfl (sd rfl (K5 rfl) (sv rfl (A3 (js h fun z1 hz1 h=>H8 (fun s=> ∃(y1:Unit) (g1:Unit),z1= .inl y1∧Sb ⟨T [],G []⟩ s) ?_ ?_))))))))))))
 refine A7 (I0 (M0 p1) (fun (x1:Int) (g2:Unit)=>⟨T [(1,(.ptr (1,u1) 0)),(8,(dl A79 p1.Map_.Signals)),(9,(di (p1.Map_.Signals.length:Int))),(10,(di x1))],G [((1,u1),some (.box 88 (A1v p1.Map_)))]⟩) 0 () _ hz1 (sbr rfl rfl) ?_)
 intro x1 g2 z2 hz2 ez2
 unfold M0 at hz2
 refine lr (fun u3 hu3=>sv rfl (A3 (A8 (cc rfl hz2 (fun c1 hz2=> ?_) (fun c1 hz2=> ?_)))))
 refine B3 (A8 (A7 (lr (fun u4 hu4=>bs hz2 fun v1 hv1 hz2=>sd rfl (J8 rfl rfl hv1 rfl) (sd rfl (N3 rfl hv1 rfl rfl) (sn rfl rfl (sst rfl G_hit [(di v1.Offset),(dl A66 v1.Phases)] rfl (A3 (lr (fun u5 hu5=>sp rfl rfl (sl rfl G_hit rfl (sd rfl (K5 rfl) (sv rfl (A3 (A7 (lr (fun u6 hu6=>sv rfl (sv rfl (sv rfl (A3 (cc rfl hz2 (fun c2 hz2=> ?_) (fun c2 hz2=> ?_))))))))))))))))))))))
 refine lr (fun u7 hu7=>sv rfl (A3 (D5 ?_)))
 cases hz2
 obtain rfl:=ez2 _ rfl
 refine ⟨nofun,J9 ?_⟩
 rw [Sum.elim_inr]at h
 cases h
 exact B0 (.inr rfl) (E4 (E1 rfl) N9) (.refl _)
 refine lr (fun u8 hu8=>sv rfl (sv rfl (sv rfl (A3 (cc rfl hz2 (fun c3 hz2=> ?_) (fun c3 hz2=> ?_))))))
 refine lr (fun u9 hu9=>sv rfl (A3 (D5 ?_)))
 cases hz2
 obtain rfl:=ez2 _ rfl
 refine ⟨nofun,J9 ?_⟩
 rw [Sum.elim_inr]at h
 cases h
 exact B0 (.inr rfl) (E4 (E1 rfl) N9) (.refl _)
 refine lr (fun u10 hu10=>sp rfl rfl (sl rfl G_hit rfl (bs hz2 fun v2 hv2 hz2=>C9 rfl rfl A4 (R7 _ _ _ _ hv2) (.inl rfl) (E2 (.d (bo (!v2))) rfl rfl (sv rfl (A3 (cc rfl hz2 (fun c4 hz2=> ?_) (fun c4 hz2=> ?_))))))))
 refine A8 (A9 (s0:=⟨T [],G []⟩) (sbr rfl rfl) ?_)
 refine D1 fun u11 hu11=>sv rfl (A3 (D5 ?_))
 cases hz2
 obtain rfl:=ez2 _ rfl
 refine ⟨nofun,J9 ?_⟩
 rw [Sum.elim_inr]at h
 cases h
 exact B0 (.inr rfl) (E4 (E1 rfl) N9) (.refl _)
 refine A8 (A9 (s0:=⟨T [(1,(.ptr _ _)),(4,(.ptr _ _)),(8,(.d _)),(9,(.d _)),(10,(.d _))],G [((1,u1),some (.box 88 _)),((4,u4),some (.box 75 _))]⟩) (sbr rfl rfl) ?_)
 refine D1 fun u12 hu12=>sp rfl rfl (sl rfl (gq rfl) rfl (bs hz2 fun v3 hv3 hz2=>C9 rfl rfl A4 (W9 _ _ hv3) (.inl rfl) (sv rfl (A3 (cc rfl hz2 (fun c5 hz2=> ?_) (fun c5 hz2=> ?_))))))
 refine lr (fun u13 hu13=>sv rfl (A3 (D5 ?_)))
 cases hz2
 obtain rfl:=ez2 _ rfl
 refine ⟨nofun,J9 ?_⟩
 rw [Sum.elim_inr]at h
 cases h
 exact B0 (.inr rfl) (E4 (E1 rfl) N9) (.refl _)
 refine lr (fun u14 hu14=>sp rfl rfl (sl rfl (gq rfl) rfl (E2 (.fn _ _ _) rfl rfl (bs hz2 fun v4 hv4 hz2=>C9 rfl (rD (Q3 (C2v Q0 (Q3 (B0l G_hit (rD (rD (rD (rD (rD Q0)))))) Q0)) Q0)) A4 (V7 _ _ _ hv4) (.inr rfl) (sv rfl (A3 (cc rfl hz2 (fun c6 hz2=> ?_) (fun c6 hz2=> ?_))))))))
 refine lr (fun u15 hu15=>sv rfl (A3 (D5 ?_)))
 cases hz2
 obtain rfl:=ez2 _ rfl
 refine ⟨nofun,J9 ?_⟩
 rw [Sum.elim_inr]at h
 cases h
 exact B0 (.inr rfl) (E4 (E1 rfl) N9) (.refl _)
 refine B3 (I5 (I5 (D1 fun u16 hu16=>sv rfl (sv rfl (A3 (J2 ?_))))))
 cases hz2
 exact ⟨rfl,(),(sbr rfl rfl)⟩
 refine E5 rfl ?_
 cases hz2
 obtain rfl:=ez2 _ rfl
 refine ⟨nofun,E3 rfl (l_j ?_)⟩
 exact ⟨_,(),rfl,(sbr rfl rfl)⟩
 rintro _ ⟨y1,g1,rfl,q1⟩
 rw [Sum.elim_inl]at h
 refine A9 q1 (lr (fun u17 hu17=>sv rfl (A3 (D5 ?_))))
 cases h
 exact B0 (.inr rfl) (E4 (E1 rfl) N9) (.refl _)
/-- kerbstone/curve.pieces$1 -/
def A7t:AC:=(.seq (.reg [oo 3 (.mv (ci 0))]) (.seq (.reg [oo 8 (.fieldA 0 (.t 1)),oo 9 (.load 1 false (.t 8)),oo 10 (.len (.t 9)),oo 11 (.bin .sub (.t 10) (ci 1)),oo 12 (.mv (ci 0))]) (.block 0 (.loop (.seq (.reg [oo 13 (.bin .lss (.t 12) (.t 11))]) (.seq (.cond (.t 13) .skip (.exit 0)) (.seq (.block 1 (.seq (.reg [oo 14 (.mv (.t 12)),oo 4 (.mv (.t 14))]) (.seq (.draw [oo 15 (.fieldA 0 (.t 1)),oo 16 (.load 1 false (.t 15)),oo 17 (.mv (.t 4)),oo 18 (.idxS 2 (.t 16) (.t 17)),oo 19 (.load 2 true (.t 18)),oo 20 (.fieldA 0 (.t 1)),oo 21 (.load 1 false (.t 20)),oo 22 (.mv (.t 4)),oo 23 (.bin .add (.t 22) (ci 1)),oo 24 (.idxS 2 (.t 21) (.t 23)),oo 25 (.load 2 true (.t 24)),oo 26 (.call (cf 104) [(.t 19),(.t 25)]),oo 5 (.alloc 135 [z0,z0]),oe (.store 2 (.t 5) (.t 26))] []) (.seq (.reg [oo 28 (.load 2 true (.t 5)),oo 29 (.load 2 true (.t 5)),oo 30 (.call (cf 106) [(.t 28),(.t 29)]),oo 31 (.call (cf 105) [(.t 30)]),oo 27 (.mv (.t 31)),oo 32 (.ext (.t 27) 0),oo 33 (.ext (.t 27) 1),oo 6 (.mv (.t 32)),oo 7 (.mv (.t 33))]) (.seq (.seq (.drawB [oo 34 (.mv (.t 0)),oo 35 (.mv (.t 4)),oo 36 (.fieldA 0 (.t 1)),oo 37 (.load 1 false (.t 36)),oo 38 (.mv (.t 4)),oo 39 (.idxS 2 (.t 37) (.t 38)),oo 40 (.load 2 true (.t 39)),oo 41 (.load 2 true (.t 5)),oo 42 (.mv (.t 6)),oo 43 (.mv (.t 3)),oo 44 (.build [z0,z0,z0,z0,z0,z0] [(0,2,(.t 40)),(2,2,(.t 41)),(4,1,(.t 42)),(5,1,(.t 43))]),oo 45 (.icall (.t 34) [(.t 35),(.t 44)]),oo 46 (.un .not (.t 45))] 11 []) (.cond (.t 46) .ret .skip)) (.reg [oo 47 (.mv (.t 3)),oo 48 (.mv (.t 6)),oo 49 (.bin .add (.t 47) (.t 48)),oo 3 (.mv (.t 49))])))))) (.reg [oo 50 (.bin .add (.t 12) (ci 1)),oo 12 (.mv (.t 50))]))))))))
theorem B2t:FnOK Try.prog 145 51 [] A7t:=⟨_,_,Try.func145,rfl,Try.ntmps145,by kernel_rfl,⟨fun r=>if r==6 then [11]else [],by kernel_rfl⟩,by kernel_rfl⟩
/-- The pieces of a chain of points, from a number on. -/
noncomputable def A43 (pts:List Spot):Nat→Nat→Int→Option (List (Int×CurvePiece))
  |0,_,_=>some []
  |n+1,i,start=>(pts[i]?).bind fun p=>(pts[i+1]?).bind fun q=>(A3u p q).bind fun v=>(S4 v v).bind fun d=>(A2x d).bind fun r=>
   (A43 pts n (i+1) (w64 (start+r.1))).bind fun l=>some (((i:Int),CurvePiece.mk p v r.1 start)::l)
noncomputable def B11 (pts:List Spot):Option (List (Int×CurvePiece)):=if pts.length≤1000000 then A43 pts (pts.length - 1) 0 0 else none
/-- kerbstone/curve.pieces -/
def A9a:AC:=(.seq (.reg [oo 1 (.box 37 true (.t 0)),oo 2 (.mv (.c (.v .nilFunc)))]) (.seq (.reg [oo 3 (.mkfn (.func 145) [] [(.t 1)]),oo 2 (.mv (.t 3))]) .ret))
theorem B4z:FnOK Try.prog 127 4 [.t 2] A9a:=⟨_,_,Try.func127,rfl,Try.ntmps127,by kernel_rfl,⟨fun _=> [],by kernel_rfl⟩,by kernel_rfl⟩
abbrev C1u (a:Int×CurvePiece):List D:= [i64 a.1, .agg [i64 a.2.p.X,i64 a.2.p.Y,i64 a.2.v.x,i64 a.2.v.y,i64 a.2.l,i64 a.2.start]]
theorem C0h (c:Curve):PCall Try.prog 127 [.agg [.list (List.map A5g c.Pts)]] (.fn (.func 145) [] [.bp [.list (List.map A5g c.Pts)] 0]):=by
  refine C6y B4z (by simp) ?_
  unfold A9a
  refine A7p (B0k fun u hu=> ?_)
  refine C4l (.ptr _ _) _ rfl rfl ?_
  refine R0 (.d _) rfl rfl ?_
  refine A6z ?_
  refine A7p (B0k fun u' hu'=> ?_)
  refine R0 (.fn _ _ _) rfl rfl ?_
  refine R0 (.fn _ _ _) rfl rfl ?_
  refine A6z ?_
  refine C4b ⟨.inr rfl,?_⟩
  refine E4 (E1 (v:= .fn _ _ _) rfl) ?_
  exact C2v Q0 (Q3 (B0l (by simp only [upd,if_true];rfl) (Q3 N9 Q0)) Q0)
theorem C7k (ps:List Spot)(n:Int)(i:Nat)(p:Spot)(hn:n=i)(h:ps[i]? =some p):(List.map A5g ps)[n.toNat]? =some (A5g p):=by
  subst hn
  rw [Int.toNat_natCast,List.getElem?_map,h];rfl
theorem C58 {n:Int}(h: -9223372036854775808≤n∧n≤9223372036854775807):w64 n=n:=Go.IntWalk.i64_in n h
theorem B50 (pts:List Spot): ∀n i s L,A43 pts n i s=some L→L.length=n:=by
  intro n
  induction n with
  |zero=>intro i s L h;cases h;rfl
  |succ n ih=>
   intro i s L h
   rw [A43]at h
   obtain ⟨p,hp,h⟩:=bind_some h
   obtain ⟨q,hq,h⟩:=bind_some h
   obtain ⟨v,hv,h⟩:=bind_some h
   obtain ⟨d,hd,h⟩:=bind_some h
   obtain ⟨r,hr,h⟩:=bind_some h
   obtain ⟨l,hl,h⟩:=bind_some h
   cases h
   rw [List.length_cons,ih _ _ _ hl]
theorem C0i {pts:List Spot}{L:List (Int×CurvePiece)}(h:B11 pts=some L):C8b Try.prog (.fn (.func 145) [] [.bp [.list (List.map A5g pts)] 0]) (L.map C1u):=by
  unfold B11 at h
  split at h
  case isFalse=>cases h
  rename_i hlen
  refine ⟨145,[],_,rfl,?_⟩
  intro k h0 Inv Stop hi0 hy
  refine C6x B2t (by simp) ?_
  unfold A7t
  refine A7p (B0k fun u hu=> ?_)
  refine R0 (.d _) rfl rfl ?_
  refine A6z ?_
  refine A7p (B0k fun u hu=> ?_)
  refine R0 (.d _) rfl rfl ?_
  refine R0 (.d _) rfl rfl ?_
  refine R0 (.d (i64 pts.length)) rfl (K5 (f:=A5g) rfl) ?_
  refine R0 (.d _) rfl rfl ?_
  refine R0 (.d _) rfl rfl ?_
  refine A6z ?_
  refine B7b ?_
  refine C6z (α:=Nat×Int×I8) (fun x=>⟨T [(0, .yld k),(1, .d (.bp [.list (List.map A5g pts)] 0)),(3, .d (i64 x.2.1)),(11, .d (i64 (w64 (pts.length - 1)))),(12, .d (i64 x.1))],x.2.2⟩) (fun x=>pts.length - x.1)
    (fun x=>Inv x.1 x.2.2∧x.1≤pts.length - 1∧A43 pts (pts.length - 1 - x.1) x.1 x.2.1=some (L.drop x.1)) (0,0,h0) ⟨hi0,by omega,h⟩ (C88 ⟨rfl,rfl,rfl,rfl,rfl,trivial⟩ fun _ _ h=>h) ?_
  rintro ⟨i,start,hh⟩ ⟨hinv,hi,hgo⟩
  dsimp only at hinv hi hgo ⊢
  refine A7p (B0k fun u hu=> ?_)
  refine R0 (.d _) rfl rfl ?_
  refine A6z ?_
  refine A7p ?_
  refine C70 rfl (fun hlt=> ?_) (fun hlt=> ?_)
  ·refine C0a ?_
   have hlen1:w64 ((pts.length:Int) - 1)=pts.length - 1:=C58 (by omega)
   rw [hlen1]at hlt
   have hi1:i+1<pts.length:=by omega
   have hw1:IntKind.i64.wrap ((i:Int)+1)=(i:Int)+1:=C58 (by omega)
   obtain ⟨m,hm⟩: ∃m,pts.length - 1 - i=m+1:=⟨pts.length - 1 - i - 1,by omega⟩
   rw [hm,A43]at hgo
   obtain ⟨p,hp,hgo⟩:=bind_some hgo
   obtain ⟨q,hq,hgo⟩:=bind_some hgo
   obtain ⟨v,hv,hgo⟩:=bind_some hgo
   obtain ⟨d,hd,hgo⟩:=bind_some hgo
   obtain ⟨r,hr,hgo⟩:=bind_some hgo
   obtain ⟨l,hl,hgo⟩:=bind_some hgo
   have hgo:((i:Int),CurvePiece.mk p v r.1 start)::l=L.drop i:=Option.some.inj hgo
   have hLi:L[i]? =some ((i:Int),CurvePiece.mk p v r.1 start):=by
     have:=congrArg (fun z=>z[0]?) hgo
     simpa using this.symm
   have hLd:L.drop (i+1)=l:=by
     have:=congrArg (fun z=>z.drop 1) hgo
     simpa using this.symm
   have hin: ∀(p:Spot) (n:Int) (j:Nat),n=j→pts[j]? =some p→(List.map A5g pts)[n.toNat]? =some (A5g p):=fun p n j=>C7k pts n j p
   refine A7p ?_
   refine B7b ?_
   refine A7p (B0k fun u hu=> ?_)
   refine R0 (.d _) rfl rfl ?_
   refine R0 (.d _) rfl rfl ?_
   refine A6z ?_
   refine A7p (C4f rfl fun u hu=> ?_)
   refine R0 (.d _) rfl rfl ?_
   refine R0 (.d _) rfl rfl ?_
   refine R0 (.d _) rfl rfl ?_
   refine C4n _ _ _ _ rfl rfl (Int.natCast_nonneg i) (hin p _ i rfl hp) rfl ?_
   refine B4n _ _ _ _ _ rfl (hin p _ i rfl hp) (by simp) rfl ?_
   refine R0 (.d _) rfl rfl ?_
   refine R0 (.d _) rfl rfl ?_
   refine R0 (.d _) rfl rfl ?_
   refine R0 (.d _) rfl rfl ?_
   refine C4n _ _ _ _ rfl rfl (by rw [hw1];omega) (hin q _ (i+1) (by rw [hw1];rfl) hq) rfl ?_
   refine B4n _ _ _ _ _ rfl (hin q _ (i+1) (by rw [hw1];rfl) hq) (by simp) rfl ?_
   refine B7e rfl rfl (B1r p q _ hv) (.inl rfl) ?_
   refine C4l (.ptr _ _) _ rfl rfl ?_
   refine C1h _ _ _ _ _ rfl rfl rfl (by simp only [upd,if_true];rfl) (by simp) ?_
   refine A6z ?_
   refine A7p (B0k fun u' hu'=> ?_)
   refine B7d _ _ _ _ (.d (.agg [i64 v.x,i64 v.y])) rfl (by simp only [upd,if_true];rfl) (by simp [A92]) rfl ?_
   refine B7d _ _ _ _ (.d (.agg [i64 v.x,i64 v.y])) rfl (by simp only [upd,if_true];rfl) (by simp [A92]) rfl ?_
   refine B7e rfl rfl (A3m v v _ hd) (.inl rfl) ?_
   refine B7e rfl rfl (B1s d _ hr) (.inl rfl) ?_
   refine R0 (.d _) rfl rfl ?_
   refine R0 (.d _) rfl rfl ?_
   refine R0 (.d _) rfl rfl ?_
   refine R0 (.d _) rfl rfl ?_
   refine R0 (.d _) rfl rfl ?_
   refine A6z ?_
   refine A7p (A7p ?_)
   refine C6w rfl fun u2 hu2=> ?_
   simp only [List.take,List.drop]
   refine R0 (.yld _) rfl rfl ?_
   refine R0 (.d _) rfl rfl ?_
   refine R0 (.d _) rfl rfl ?_
   refine R0 (.d _) rfl rfl ?_
   refine R0 (.d _) rfl rfl ?_
   refine C4n _ _ _ _ rfl rfl (Int.natCast_nonneg i) (hin p _ i rfl hp) rfl ?_
   refine B4n _ _ _ _ _ rfl (hin p _ i rfl hp) (by simp) rfl ?_
   refine B7d _ _ _ _ (.d (.agg [i64 v.x,i64 v.y])) rfl (by simp only [upd,if_true];rfl) (by simp [A92]) rfl ?_
   refine R0 (.d _) rfl rfl ?_
   refine R0 (.d _) rfl rfl ?_
   refine R0 (.d _) rfl rfl ?_
   refine A6z ?_
   intro u3 hu3
   refine C74 k ((C1u ((i:Int),CurvePiece.mk p v r.1 start)).map .d) rfl rfl ?_
   refine YCall.weak (C4p hu (C4p hu fun _ _ h=>h)) ((hy i hh _ (by rw [List.getElem?_map,hLi];rfl) hinv).mono ?_)
   rintro v' h' (⟨rfl,hin⟩|⟨rfl,hst⟩)
   ·intro u4 hu4
    refine R0 (.d _) rfl rfl ?_
    refine A6z ?_
    refine B43 (t:=false) rfl (fun h=>by cases h) (fun _=> ?_)
    refine C0a ?_
    refine B0k fun u hu=> ?_
    refine R0 (.d _) rfl rfl ?_
    refine R0 (.d _) rfl rfl ?_
    refine R0 (.d _) rfl rfl ?_
    refine R0 (.d _) rfl rfl ?_
    refine A6z ?_
    refine B0k fun u hu=> ?_
    refine R0 (.d _) rfl rfl ?_
    refine R0 (.d _) rfl rfl ?_
    refine A6z ?_
    refine ⟨(i+1,w64 (start+r.1),h'),⟨hin,by dsimp only;omega,?_⟩,by dsimp only;omega,C88 ⟨rfl,rfl,rfl,rfl,?_,trivial⟩ fun _ _ h=>h⟩
    ·dsimp only
     rw [hLd,show pts.length - 1 - (i+1)=m by omega];exact hl
    ·show AV.d (i64 (IntKind.i64.wrap ((i:Int)+1)))=_
     rw [hw1];rfl
   ·intro u4 hu4
    refine R0 (.d _) rfl rfl ?_
    refine A6z ?_
    refine B43 (t:=true) rfl (fun _=> ?_) (fun h=>by cases h)
    refine C4b ?_
    dsimp only
    exact ⟨Or.inr trivial,AV.tup [],rfl,Or.inr hst⟩
  ·refine C4c ?_
   have hlen1:1≤pts.length→w64 ((pts.length:Int) - 1)=pts.length - 1:=fun _=>C58 (by omega)
   have:i=pts.length - 1:=by
     by_cases h:1≤pts.length
     ·rw [hlen1 h]at hlt;omega
     ·omega
   subst this
   rw [Nat.sub_self,A43]at hgo
   have hL:(L.map C1u).length=pts.length - 1:=by
     have h1:L.drop (pts.length - 1)= []:=(Option.some.inj hgo).symm
     have h2:=List.drop_eq_nil_iff.1 h1
     rw [List.length_map]
     refine Nat.le_antisymm h2 ?_
     exact Nat.le_of_eq (B50 _ _ _ _ _ h).symm
   exact ⟨.inl rfl,_,rfl, .inl (by rw [hL];exact hinv)⟩
noncomputable def V8 (x1:(List Int))(a1:(Int×CurvePiece)):Option (Stp (List Int) (List Int)):=
  (B0m x1 [a1.2.l]).bind fun v3=>some (.go v3)
noncomputable def A2c (p1:Curve):Option (List Int):=
  (A2b p1).bind fun v1=>cond (v1 !=0) (some []) (((B11 p1.Pts).bind fun v2=>loopL (V8) (fun (x1:(List Int))=>x1) v2 []).bind fun y1=>some y1)
theorem B51 (p1:Curve)(r:(List Int))(h:A2c p1=some r):PCall Try.prog 102 [(.agg [(.list (List.map A5g p1.Pts))])] (.list (List.map A5 r)):=by
 refine G2 (fk Try.func102 Try.ntmps102 (fun r=>if r==6 then [1003]else []) (by with_unfolding_all rfl)) (nl rfl) ?_
 unfold A2c at h
 refine A9 (s0:=⟨T [(0,(.d _))],G []⟩) (sbr rfl rfl) ?_
 refine lr (fun u1 hu1=>sn rfl rfl (sv rfl (A3 (A8 (lr (fun u2 hu2=>sd rfl (E0 rfl G_hit rfl rfl) (bs h fun v1 hv1 h=>C9 rfl rfl A4 (B0n _ _ hv1) (.inl rfl) (sv rfl (A3 (cc rfl h (fun c1 h=> ?_) (fun c1 h=> ?_)))))))))))
 refine lr (fun u3 hu3=>sv rfl (A3 (D5 ?_)))
 cases h
 exact B0 (.inr rfl) (E4 (E1 rfl) N9) DLe.nil
 refine B3 (lr (fun u4 hu4=>sn rfl rfl (A3 (A8 (lr (fun u5 hu5=>sd rfl (E0 rfl (gq rfl) rfl rfl) (C9 rfl rfl A4 (C0h p1) (.inl rfl) (A3 (bs h fun y1 hy1 h=>H8 (fun s=> ∃g1:Nat,Sb ⟨T [(3,(.ptr (3,u4) 0))],G [((3,u4),some (.box 59 [(oS y1 (17,g1))])),((17,g1),oB 2 1 A5 y1)]⟩ s) ?_ ?_)))))))))
 refine A7 (bs hy1 fun v2 hv2 hy1=>A9 (s0:=⟨T [(3,(.ptr _ _)),(10,(.d _))],G [((3,u4),some (.box 59 _))]⟩) (sbr rfl rfl) ?_)
 refine C78 (.fn (.func 145) [] [(.bp [(.list (List.map A5g p1.Pts))] 0)]) C1u v2 (V8) (fun (x1:(List Int))=>x1) (fun (x1:(List Int)) (g2:Nat)=> [((3,u4),some (.box 59 [(oS x1 (17,g2))])),((17,g2),oB 2 1 A5 x1)]) [] 0 _ rfl (C0i hv2) (fun _=>rfl) hy1 (H9 trivial (B5 G_hit (.of rfl) (X6 trivial))) nofun ?_ ?_
 intro u7 hu7 hku7
 refine ⟨fun x1 g2=>(K4 rfl (K4 rfl rfl)),?_⟩
 intro r1 x1 g2 a1 z1 hrr1 hz1 ez1
 unfold V8 at hz1
 show AWL _ _ _ _ _ _ ⟨T [(12,(.d (.agg (C0f a1.2)))),(11,(di a1.1)),(3,(.ptr (3,u4) 0)),(10,(.d (.fn (.func 145) [] [(.bp [(.list (List.map A5g p1.Pts))] 0)])))],G [((1000000,u7),some (.obj (T [(3,(.ptr (3,u4) 0)),(10,(.d (.fn (.func 145) [] [(.bp [(.list (List.map A5g p1.Pts))] 0)])))]) r1)),((3,u4),some (.box 59 [(oS x1 (17,g2))])),((17,g2),oB 2 1 A5 x1)]⟩
 refine D1 fun u8 hu8=>sn rfl rfl (sst rfl G_hit (C0g a1.2) rfl (A3 (l_j (D13 (gq rfl) ?_))))
 refine A7 (D1 fun u9 hu9=>E2 (oS x1 (17,g2)) rfl (B1n rfl (gq rfl) rfl) (sp rfl rfl (sl rfl (gq rfl) rfl (E2 (dl A5 [a1.2.l]) rfl rfl (bs hz1 fun v3 hv3 hz1=>A02 A5 (17,g2) x1 a1.2.l [] _ (U7 (fun _=>rfl)) rfl (gq rfl) hv3 (sst rfl (gq rfl) [(.sl (17,u9))] rfl (A3 (I5 (J2 ?_)))))))))
 cases hz1
 exact D14 (gq rfl) u9 (B5 G_hit (.box (.cons (.of (A34 (A3l hv3)).symm) .nil)) (R5 (gq rfl) trivial))
 rintro x1 g2 _ rfl qx1
 refine I5 (l_j ?_)
 exact ⟨g2,(Sb.after qx1 (H9 ⟨.of rfl,trivial⟩ (B5 G_hit (.of rfl) (I9 (gq rfl) trivial))))⟩
 rintro _ ⟨g1,q1⟩
 refine A9 q1 (lr (fun u10 hu10=>E2 (oS y1 (17,g1)) rfl (B1n rfl G_hit rfl) (E2 (oS y1 (17,g1)) rfl rfl (A3 (D5 ?_)))))
 cases h
 exact B0 (.inr rfl) (E4 (E1 rfl) (A77 (gq rfl))) A76
noncomputable def R8 (v1:(List Int))(x1:(Int×Int)):Option (Stp (Int×Int) Int):=
  cond (decide (x1.2< (v1.length:Int))) ((F3 v1 x1.2).bind fun v2=>some (.go ((w64 (x1.1+v2)),(w64 (x1.2+1))))) (some (.out x1.1))
noncomputable def A2d (p1:Curve):Option Int:=
  (A2c p1).bind fun v1=>(loop (R8 v1) (0,0)).bind fun y1=>some y1
theorem B52 (p1:Curve)(r:Int)(h:A2d p1=some r):PCall Try.prog 73 [(.agg [(.list (List.map A5g p1.Pts))])] (i64 r):=by
 refine G2 (fk Try.func73 Try.ntmps73 m0 (by with_unfolding_all rfl)) (nl rfl) ?_
 unfold A2d at h
 refine A9 (s0:=⟨T [(0,(.d _))],G []⟩) (sbr rfl rfl) ?_
 refine lr (fun u1 hu1=>sn rfl rfl (sv rfl (A3 (lr (fun u2 hu2=>sv rfl (A3 (A8 (lr (fun u3 hu3=>sd rfl (E0 rfl G_hit rfl rfl) (bs h fun v1 hv1 h=>C9 rfl rfl A4 (B51 _ _ hv1) (.inl rfl) (sd rfl (K5 rfl) (sv rfl (A3 (bs h fun y1 hy1 h=>H8 (fun s=> ∃g1:Unit,Sb ⟨T [(3,(di y1))],G []⟩ s) ?_ ?_))))))))))))))
 refine A7 (I0 (R8 v1) (fun (x1:(Int×Int)) (g2:Unit)=>⟨T [(3,(di x1.1)),(7,(dl A5 v1)),(8,(di (v1.length:Int))),(9,(di x1.2))],G []⟩) (0,0) () _ hy1 (sbr rfl rfl) ?_)
 intro x1 g2 z1 hz1 ez1
 unfold R8 at hz1
 refine lr (fun u4 hu4=>sv rfl (A3 (A8 (cc rfl hz1 (fun c1 hz1=> ?_) (fun c1 hz1=> ?_)))))
 refine B3 (A8 (A7 (lr (fun u5 hu5=>bs hz1 fun v2 hv2 hz1=>sd rfl (J8 rfl rfl hv2 rfl) (sd rfl (F4 rfl hv2 rfl) (sv rfl (A3 (D1 fun u6 hu6=>sv rfl (sv rfl (sv rfl (sv rfl (A3 (I5 (D1 fun u7 hu7=>sv rfl (sv rfl (A3 (J2 ?_)))))))))))))))))
 cases hz1
 exact ⟨rfl,(),(sbr rfl rfl)⟩
 refine E5 rfl ?_
 cases hz1
 obtain rfl:=ez1 _ rfl
 refine ⟨nofun,E3 rfl (l_j ?_)⟩
 exact ⟨(),(sbr rfl rfl)⟩
 rintro _ ⟨g1,q1⟩
 refine A9 q1 (lr (fun u8 hu8=>sv rfl (sv rfl (A3 (D5 ?_)))))
 cases h
 exact B0 (.inr rfl) (E4 (E1 rfl) N9) (.refl _)
noncomputable def Z9 (p1:Map)(p2:Int):Option Int:=
  (F3 p1.Lanes p2).bind fun v1=>(A2d v1.Curve_).bind fun v2=>some v2
theorem A2y (p1:Map)(p2:Int)(r:Int)(h:Z9 p1 p2=some r):PCall Try.prog 41 [(.agg (A27 p1)),(i64 p2)] (i64 r):=by
 refine G2 (fk Try.func41 Try.ntmps41 m0 (by with_unfolding_all rfl)) (nl rfl) ?_
 unfold Z9 at h
 refine A9 (s0:=⟨T [(0,(.d _)),(1,(.d _))],G []⟩) (sbr rfl rfl) ?_
 refine lr (fun u1 hu1=>sn rfl rfl (sv rfl (A3 (lr (fun u2 hu2=>sp rfl rfl (sl rfl G_hit rfl (sv rfl (bs h fun v1 hv1 h=>sd rfl (J8 rfl rfl hv1 rfl) (sv rfl (sd rfl (N3 rfl hv1 rfl rfl) (bs h fun v2 hv2 h=>C9 rfl rfl A4 (B52 _ _ hv2) (.inl rfl) (sv rfl (A3 (D5 ?_))))))))))))))
 cases h
 exact B0 (.inr rfl) (E4 (E1 rfl) N9) (.refl _)
noncomputable def O2 (p1:RoadsCheck)(v1:Zone)(x3:Int):Option (Stp Int (Sum Unit Int)):=
  cond (decide (x3< (v1.Parts.length:Int))) ((F3 v1.Parts x3).bind fun v5=>((cond (!((decide (v5.From<0))||(decide (v5.From≥v5.To)))) (Z9 p1.Map_ v5.Lane_) (some default))).bind fun v6=>cond (((((decide (v5.From<0))||(decide (v5.From≥v5.To)))||(decide (v5.To>v6)))||(decide (v5.Rank<0)))||(decide (v5.Rank>100))) (some (.out (.inr 2))) (some (.go (w64 (x3+1))))) (some (.out (.inl ())))
noncomputable def U2 (v1:Zone)(x2:((List Int)×Int)):Option (Stp ((List Int)×Int) (List Int)):=
  cond (decide (x2.2< (v1.Parts.length:Int))) ((F3 v1.Parts x2.2).bind fun v2=>(B0m x2.1 [v2.Lane_]).bind fun v3=>some (.go (v3,(w64 (x2.2+1))))) (some (.out x2.1))
noncomputable def O3 (p1:RoadsCheck)(x1:Int):Option (Stp Int (Sum Unit Int)):=
  cond (decide (x1< (p1.Map_.Zones.length:Int))) ((F3 p1.Map_.Zones x1).bind fun v1=>cond (decide ((v1.Parts.length:Int)<2)) (some (.out (.inr 6))) (cond (decide ((v1.Parts.length:Int)>6)) (some (.out (.inr 8))) (cond ((decide (v1.Signal_<0))||(decide (v1.Signal_>(p1.Map_.Signals.length:Int)))) (some (.out (.inr 2))) ((loop (U2 v1) ([],0)).bind fun y2=>(A0m y2 0 (p1.Map_.Lanes.length:Int)).bind fun v4=>cond (!v4) (some (.out (.inr 11))) (thenS (loop (O2 p1 v1) 0) (fun _=>some (.go (w64 (x1+1)))) (fun r=>some (.out (.inr r)))))))) (some (.out (.inl ())))
noncomputable def T1 (p1:RoadsCheck):Option Int:=
  thenS (loop (O3 p1) 0) (fun _=>some 0) (fun r=>some r)
theorem B05 (p1:RoadsCheck)(r:Int)(h:T1 p1=some r):PCall Try.prog 47 [(.agg (A27 p1.Map_))] (i64 r):=by
 refine G2 (fk Try.func47 Try.ntmps47 (fun r=>if r==15 then [1003]else []) (by with_unfolding_all rfl)) (nl rfl) ?_
 unfold T1 at h
 refine A9 (s0:=⟨T [(0,(.d _))],G []⟩) (sbr rfl rfl) ?_
 refine lr (fun u1 hu1=>sn rfl rfl (sv rfl (A3 (A8 (lr (fun u2 hu2=>sp rfl rfl (sp rfl rfl (sl rfl G_hit rfl (sd rfl (K5 rfl) (sv rfl (A3 (js h fun z1 hz1 h=>H8 (fun s=> ∃(y1:Unit) (g1:Unit),z1= .inl y1∧Sb ⟨T [],G []⟩ s) ?_ ?_))))))))))))
 refine A7 (I0 (O3 p1) (fun (x1:Int) (g2:Unit)=>⟨T [(1,(.ptr (1,u1) 0)),(13,(dl U8 p1.Map_.Zones)),(14,(di (p1.Map_.Zones.length:Int))),(15,(di x1))],G [((1,u1),some (.box 88 (A1v p1.Map_)))]⟩) 0 () _ hz1 (sbr rfl rfl) ?_)
 intro x1 g2 z2 hz2 ez2
 unfold O3 at hz2
 refine lr (fun u3 hu3=>sv rfl (A3 (A8 (cc rfl hz2 (fun c1 hz2=> ?_) (fun c1 hz2=> ?_)))))
 refine B3 (A8 (A7 (lr (fun u4 hu4=>bs hz2 fun v1 hv1 hz2=>sd rfl (J8 rfl rfl hv1 rfl) (sd rfl (N3 rfl hv1 rfl rfl) (sn rfl rfl (sst rfl G_hit [(dl R6 v1.Parts),(di v1.Signal_)] rfl (A3 (A8 (lr (fun u5 hu5=>sp rfl rfl (sl rfl G_hit rfl (sd rfl (K5 rfl) (sv rfl (A3 (A7 (lr (fun u6 hu6=>sv rfl (sv rfl (sv rfl (A3 (cc rfl hz2 (fun c2 hz2=> ?_) (fun c2 hz2=> ?_)))))))))))))))))))))))
 refine lr (fun u7 hu7=>sv rfl (A3 (D5 ?_)))
 cases hz2
 obtain rfl:=ez2 _ rfl
 refine ⟨nofun,J9 ?_⟩
 rw [Sum.elim_inr]at h
 cases h
 exact B0 (.inr rfl) (E4 (E1 rfl) N9) (.refl _)
 refine lr (fun u8 hu8=>sv rfl (sv rfl (sv rfl (A3 (cc rfl hz2 (fun c3 hz2=> ?_) (fun c3 hz2=> ?_))))))
 refine lr (fun u9 hu9=>sv rfl (A3 (D5 ?_)))
 cases hz2
 obtain rfl:=ez2 _ rfl
 refine ⟨nofun,J9 ?_⟩
 rw [Sum.elim_inr]at h
 cases h
 exact B0 (.inr rfl) (E4 (E1 rfl) N9) (.refl _)
 refine lr (fun u10 hu10=>sp rfl rfl (sl rfl G_hit rfl (sv rfl (sv rfl (gp rfl (A4i rfl) (fun _=>rfl) (gf rfl (vl rfl G_hit rfl) (gp rfl (A4i rfl) (fun _=>rfl) ?_)))))))
 refine A3b _ (.ptr _ _) rfl (A4i rfl) (fun w4=>(by simp only [A6 w4];rfl)) ?_
 refine gf rfl (vl rfl (gq rfl) rfl) (gf rfl (fun w6=>(K5 (A6 w6))) (gf rfl (fun w7=>(A1w (A6 w7) (A6 w7) rfl)) (sd rfl (A7y rfl rfl (fun hc=>A6 (A1g hc))) (sv rfl (A3 (cc rfl hz2 (fun c4 hz2=> ?_) (fun c4 hz2=> ?_)))))))
 refine A8 (A9 (s0:=⟨T [],G []⟩) (sbr rfl rfl) ?_)
 refine D1 fun u11 hu11=>sv rfl (A3 (D5 ?_))
 cases hz2
 obtain rfl:=ez2 _ rfl
 refine ⟨nofun,J9 ?_⟩
 rw [Sum.elim_inr]at h
 cases h
 exact B0 (.inr rfl) (E4 (E1 rfl) N9) (.refl _)
 refine B3 (I5 (A8 (A9 (s0:=⟨T [(1,(.ptr _ _)),(4,(.ptr _ _)),(13,(.d _)),(14,(.d _)),(15,(.d _))],G [((1,u1),some (.box 88 _)),((4,u4),some (.box 69 _))]⟩) (sbr rfl rfl) ?_)))
 refine D1 fun u12 hu12=>sv rfl (A3 (A8 (lr (fun u13 hu13=>sp rfl rfl (sl rfl (gq rfl) rfl (sd rfl (K5 rfl) (sv rfl (A3 (bs hz2 fun y2 hy2 hz2=>H8 (fun s=> ∃g3:Nat,Sb ⟨T [(1,(.ptr (1,u1) 0)),(4,(.ptr (4,u4) 0)),(6,(oS y2 (52,g3))),(13,(dl U8 p1.Map_.Zones)),(14,(di (p1.Map_.Zones.length:Int))),(15,(di x1))],G [((1,u1),some (.box 88 (A1v p1.Map_))),((4,u4),some (.box 69 [(dl R6 v1.Parts),(di v1.Signal_)])),((52,g3),oB 3 1 A5 y2)]⟩ s) ?_ ?_)))))))))
 refine A7 (I0 (U2 v1) (fun (x2:((List Int)×Int)) (g4:Nat)=>⟨T [(1,(.ptr (1,u1) 0)),(4,(.ptr (4,u4) 0)),(6,(oS x2.1 (52,g4))),(13,(dl U8 p1.Map_.Zones)),(14,(di (p1.Map_.Zones.length:Int))),(15,(di x1)),(42,(dl R6 v1.Parts)),(43,(di (v1.Parts.length:Int))),(44,(di x2.2))],G [((1,u1),some (.box 88 (A1v p1.Map_))),((4,u4),some (.box 69 [(dl R6 v1.Parts),(di v1.Signal_)])),((52,g4),oB 3 1 A5 x2.1)]⟩) ([],0) 0 _ hy2 (H9 ⟨.of rfl, .of rfl, .of rfl, .of rfl, .of rfl, .of rfl, .of rfl, .of rfl, .of rfl,trivial⟩ (B5 G_hit (.of rfl) (sg rfl (X6 trivial)))) ?_)
 intro x2 g4 z3 hz3 ez3
 unfold U2 at hz3
 refine lr (fun u14 hu14=>sv rfl (A3 (A8 (cc rfl hz3 (fun c5 hz3=> ?_) (fun c5 hz3=> ?_)))))
 refine B3 (A8 (A7 (lr (fun u15 hu15=>bs hz3 fun v2 hv2 hz3=>sd rfl (J8 rfl rfl hv2 rfl) (sd rfl (N3 rfl hv2 rfl rfl) (sn rfl rfl (sst rfl G_hit (B2r v2) rfl (A3 (D1 fun u16 hu16=>E2 (oS x2.1 (52,g4)) rfl rfl (sp rfl rfl (sl rfl G_hit rfl (E2 (dl A5 [v2.Lane_]) rfl rfl (bs hz3 fun v3 hv3 hz3=>A02 A5 (52,g4) x2.1 v2.Lane_ [] _ (U7 (fun _=>rfl)) rfl (gq rfl) hv3 (ss rfl (A3 (I5 (A9 (s0:=⟨T [(1,(.ptr _ _)),(4,(.ptr _ _)),(6,(.sl _)),(13,(.d _)),(14,(.d _)),(15,(.d _)),(42,(.d _)),(43,(.d _)),(44,(.d _))],G [((1,u1),some (.box 88 _)),((4,u4),some (.box 69 _)),((52,u16),some _)]⟩) (sbr rfl rfl) ?_)))))))))))))))))
 refine D1 fun u17 hu17=>sv rfl (sv rfl (A3 (J2 ?_)))
 cases hz3
 exact ⟨rfl,u16,(H9 ⟨.of rfl, .of rfl,(.of (A34 (A3l hv3)).symm), .of rfl, .of rfl, .of rfl, .of rfl, .of rfl, .of rfl,trivial⟩ (B5 G_hit (.of rfl) (sg rfl (R5 (gq rfl) trivial))))⟩
 refine E5 rfl ?_
 cases hz3
 obtain rfl:=ez3 _ rfl
 refine ⟨nofun,E3 rfl (l_j ?_)⟩
 exact ⟨g4,(H9 ⟨.of rfl, .of rfl, .of rfl, .of rfl, .of rfl, .of rfl,trivial⟩ (B5 G_hit (.of rfl) (sg rfl (I9 (gq rfl) trivial))))⟩
 rintro _ ⟨g3,q1⟩
 refine A9 q1 (A8 (lr (fun u18 hu18=>E2 (oS y2 (52,g3)) rfl rfl (sp rfl rfl (sp rfl rfl (sl rfl G_hit rfl (sd rfl (K5 rfl) (bs hz2 fun v4 hv4 hz2=>C9 rfl (Q3 (A77 (gq rfl)) (rD (rD Q0))) (.cons A76 (.cons (.refl _) A4)) (A68 _ _ _ _ hv4) (.inr rfl) (E2 (.d (bo (!v4))) rfl rfl (A3 (cc rfl hz2 (fun c6 hz2=> ?_) (fun c6 hz2=> ?_))))))))))))
 refine lr (fun u19 hu19=>sv rfl (A3 (D5 ?_)))
 cases hz2
 obtain rfl:=ez2 _ rfl
 refine ⟨nofun,J9 ?_⟩
 rw [Sum.elim_inr]at h
 cases h
 exact B0 (.inr rfl) (E4 (E1 rfl) N9) (.refl _)
 refine B3 (lr (fun u20 hu20=>sp rfl rfl (sl rfl (gq rfl) rfl (sd rfl (K5 rfl) (sv rfl (A3 (js hz2 fun z4 hz4 hz2=>H8 (fun s=> ∃(y3:Unit) (g5:Unit),z4= .inl y3∧Sb ⟨T [(1,(.ptr (1,u1) 0)),(13,(dl U8 p1.Map_.Zones)),(14,(di (p1.Map_.Zones.length:Int))),(15,(di x1))],G [((1,u1),some (.box 88 (A1v p1.Map_)))]⟩ s) ?_ ?_)))))))
 refine A7 (I0 (O2 p1 v1) (fun (x3:Int) (g6:Unit)=>⟨T [(1,(.ptr (1,u1) 0)),(13,(dl U8 p1.Map_.Zones)),(14,(di (p1.Map_.Zones.length:Int))),(15,(di x1)),(62,(dl R6 v1.Parts)),(63,(di (v1.Parts.length:Int))),(64,(di x3))],G [((1,u1),some (.box 88 (A1v p1.Map_)))]⟩) 0 () _ hz4 (sbr rfl rfl) ?_)
 intro x3 g6 z5 hz5 ez5
 unfold O2 at hz5
 refine lr (fun u21 hu21=>sv rfl (A3 (A8 (cc rfl hz5 (fun c7 hz5=> ?_) (fun c7 hz5=> ?_)))))
 refine B3 (A8 (A7 (lr (fun u22 hu22=>bs hz5 fun v5 hv5 hz5=>sd rfl (J8 rfl rfl hv5 rfl) (sd rfl (N3 rfl hv5 rfl rfl) (sn rfl rfl (sst rfl G_hit (B2r v5) rfl (A3 (A8 (Z6 rfl fun u23 hu23=>sp rfl rfl (sl rfl G_hit rfl (sv rfl (sv rfl (gp rfl (A4i rfl) (fun _=>rfl) (gf rfl (vl rfl G_hit rfl) (gp rfl (A4i rfl) (fun _=>rfl) (gf rfl (vl rfl G_hit rfl) (gf rfl (fun w12=>(A1w (A6 w12) (A6 w12) rfl)) (sd rfl (A7y rfl rfl (fun hc=>A6 (A1g hc))) (sv rfl (gp rfl (A4i rfl) (fun _=>rfl) (gf rfl (vl rfl G_hit rfl) (gp rfl (A4i rfl) (fun _=>rfl) (gf rfl (fun w16=>(E0 (A6 w16) (gq rfl) rfl rfl)) (gp rfl (A4i rfl) (fun _=>rfl) (gf rfl (vl rfl G_hit rfl) (bs hz5 fun v6 hv6 hz5=> ?_)))))))))))))))))))))))))))
 refine A0v _ (i64 v6) (A4i rfl) (fun w19=>⟨_,[(.d (.agg (A27 p1.Map_))),(di v5.Lane_)],_,_,(by simp only [A6 w19];rfl),rfl,A4,A2y _ _ _ (G6 w19 hv6),(.inl rfl)⟩) ?_
 refine gf rfl (fun w20=>(A1w (A6 w20) (A6 w20) rfl)) (sd rfl (A7y rfl rfl (fun hc=>A6 (A1g hc))) (sv rfl (gp rfl (A4i rfl) (fun _=>rfl) (gf rfl (vl rfl G_hit rfl) (gf rfl (vb rfl rfl rfl) (sd rfl (A7y rfl rfl (fun hc=>A6 (A1g hc))) (sv rfl (gp rfl (A4i rfl) (fun _=>rfl) (gf rfl (vl rfl G_hit rfl) (gf rfl (vb rfl rfl rfl) (sd rfl (A7y rfl rfl (fun hc=>A6 (A1g hc))) (A3 (cc rfl hz5 (fun c8 hz5=> ?_) (fun c8 hz5=> ?_))))))))))))))
 refine A8 (A9 (s0:=⟨T [],G []⟩) (sbr rfl rfl) ?_)
 refine D1 fun u24 hu24=>sv rfl (A3 (D5 ?_))
 cases hz5
 obtain rfl:=ez5 _ rfl
 refine ⟨nofun,J9 ?_⟩
 rw [Sum.elim_inr]at hz2
 cases hz2
 obtain rfl:=ez2 _ rfl
 refine ⟨nofun,J9 ?_⟩
 rw [Sum.elim_inr]at h
 cases h
 exact B0 (.inr rfl) (E4 (E1 rfl) N9) (.refl _)
 refine B3 (I5 (A9 (s0:=⟨T [(1,(.ptr _ _)),(13,(.d _)),(14,(.d _)),(15,(.d _)),(62,(.d _)),(63,(.d _)),(64,(.d _))],G [((1,u1),some (.box 88 _))]⟩) (sbr rfl rfl) ?_))
 refine D1 fun u25 hu25=>sv rfl (sv rfl (A3 (J2 ?_)))
 cases hz5
 exact ⟨rfl,(),(sbr rfl rfl)⟩
 refine E5 rfl ?_
 cases hz5
 obtain rfl:=ez5 _ rfl
 refine ⟨nofun,E3 rfl (l_j ?_)⟩
 exact ⟨_,(),rfl,(sbr rfl rfl)⟩
 rintro _ ⟨y3,g5,rfl,q2⟩
 rw [Sum.elim_inl]at hz2
 refine I5 (A9 q2 (D1 fun u26 hu26=>sv rfl (sv rfl (A3 (J2 ?_)))))
 cases hz2
 exact ⟨rfl,(),(sbr rfl rfl)⟩
 refine E5 rfl ?_
 cases hz2
 obtain rfl:=ez2 _ rfl
 refine ⟨nofun,E3 rfl (l_j ?_)⟩
 exact ⟨_,(),rfl,(sbr rfl rfl)⟩
 rintro _ ⟨y1,g1,rfl,q3⟩
 rw [Sum.elim_inl]at h
 refine A9 q3 (lr (fun u27 hu27=>sv rfl (A3 (D5 ?_))))
 cases h
 exact B0 (.inr rfl) (E4 (E1 rfl) N9) (.refl _)
noncomputable def O4 (p1:RoadsCheck)(x1:Int):Option (Stp Int (Sum Unit Int)):=
  cond (decide (x1< (p1.Map_.Works.length:Int))) ((F3 p1.Map_.Works x1).bind fun v1=>cond ((decide (v1.Lane_<0))||(decide (v1.Lane_≥(p1.Map_.Lanes.length:Int)))) (some (.out (.inr 7))) ((F3 p1.Map_.Lanes v1.Lane_).bind fun v2=>(A1h v2.Kind).bind fun v3=>((cond (!((decide (v1.From<0))||(decide (v1.From>v1.To)))) (Z9 p1.Map_ v1.Lane_) (some default))).bind fun v4=>((cond (!((((((decide (v1.From<0))||(decide (v1.From>v1.To)))||(decide (v1.To>v4)))||(decide (v1.Begin<0)))||(decide (v1.Begin≥v1.End)))||(decide (v1.End>1099511627776)))) (P5 v1.Limit 0 v3.1) (some default))).bind fun v5=>cond (((((((decide (v1.From<0))||(decide (v1.From>v1.To)))||(decide (v1.To>v4)))||(decide (v1.Begin<0)))||(decide (v1.Begin≥v1.End)))||(decide (v1.End>1099511627776)))||(!v5)) (some (.out (.inr 2))) (some (.go (w64 (x1+1)))))) (some (.out (.inl ())))
noncomputable def T3 (p1:RoadsCheck):Option Int:=
  thenS (loop (O4 p1) 0) (fun _=>some 0) (fun r=>some r)
theorem B06 (p1:RoadsCheck)(r:Int)(h:T3 p1=some r):PCall Try.prog 48 [(.agg (A27 p1.Map_))] (i64 r):=by
 refine G2 (fk Try.func48 Try.ntmps48 m0 (by with_unfolding_all rfl)) (nl rfl) ?_
 unfold T3 at h
 refine A9 (s0:=⟨T [(0,(.d _))],G []⟩) (sbr rfl rfl) ?_
 refine lr (fun u1 hu1=>sn rfl rfl (sv rfl (A3 (A8 (lr (fun u2 hu2=>sp rfl rfl (sp rfl rfl (sl rfl G_hit rfl (sd rfl (K5 rfl) (sv rfl (A3 (js h fun z1 hz1 h=>H8 (fun s=> ∃(y1:Unit) (g1:Unit),z1= .inl y1∧Sb ⟨T [],G []⟩ s) ?_ ?_))))))))))))
 refine A7 (I0 (O4 p1) (fun (x1:Int) (g2:Unit)=>⟨T [(1,(.ptr (1,u1) 0)),(10,(dl B3g p1.Map_.Works)),(11,(di (p1.Map_.Works.length:Int))),(12,(di x1))],G [((1,u1),some (.box 88 (A1v p1.Map_)))]⟩) 0 () _ hz1 (sbr rfl rfl) ?_)
 intro x1 g2 z2 hz2 ez2
 unfold O4 at hz2
 refine lr (fun u3 hu3=>sv rfl (A3 (A8 (cc rfl hz2 (fun c1 hz2=> ?_) (fun c1 hz2=> ?_)))))
 refine B3 (A8 (A7 (lr (fun u4 hu4=>bs hz2 fun v1 hv1 hz2=>sd rfl (J8 rfl rfl hv1 rfl) (sd rfl (N3 rfl hv1 rfl rfl) (sn rfl rfl (sst rfl G_hit (D1k v1) rfl (A3 (A8 (lr (fun u5 hu5=>sp rfl rfl (sl rfl G_hit rfl (sv rfl (sv rfl (gp rfl (A4i rfl) (fun _=>rfl) (gf rfl (vl rfl G_hit rfl) (gp rfl (A4i rfl) (fun _=>rfl) ?_)))))))))))))))))
 refine A3b _ (.ptr _ _) rfl (A4i rfl) (fun w4=>(by simp only [A6 w4];rfl)) ?_
 refine gf rfl (vl rfl (gq rfl) rfl) (gf rfl (fun w6=>(K5 (A6 w6))) (gf rfl (fun w7=>(A1w (A6 w7) (A6 w7) rfl)) (sd rfl (A7y rfl rfl (fun hc=>A6 (A1g hc))) (A3 (cc rfl hz2 (fun c2 hz2=> ?_) (fun c2 hz2=> ?_))))))
 refine A8 (A9 (s0:=⟨T [],G []⟩) (sbr rfl rfl) ?_)
 refine D1 fun u6 hu6=>sv rfl (A3 (D5 ?_))
 cases hz2
 obtain rfl:=ez2 _ rfl
 refine ⟨nofun,J9 ?_⟩
 rw [Sum.elim_inr]at h
 cases h
 exact B0 (.inr rfl) (E4 (E1 rfl) N9) (.refl _)
 refine B3 (A8 (A9 (s0:=⟨T [(1,(.ptr _ _)),(4,(.ptr _ _)),(10,(.d _)),(11,(.d _)),(12,(.d _))],G [((1,u1),some (.box 88 _)),((4,u4),some (.box 33 _))]⟩) (sbr rfl rfl) ?_))
 refine D1 fun u7 hu7=>sp rfl rfl (sp rfl rfl (sl rfl G_hit rfl (sp rfl rfl (sl rfl (gq rfl) rfl (bs hz2 fun v2 hv2 hz2=>sd rfl (J8 rfl rfl hv2 rfl) (sv rfl (sd rfl (F4 rfl hv2 rfl) (bs hz2 fun v3 hv3 hz2=>C9 rfl rfl A4 (A98 _ _ hv3) (.inl rfl) (sv rfl (sv rfl (sv rfl (sv rfl (sv rfl (sv rfl (sv rfl (A3 (A8 (A9 (s0:=⟨T [(1,(.ptr _ _)),(4,(.ptr _ _)),(5,(.d _)),(10,(.d _)),(11,(.d _)),(12,(.d _))],G [((1,u1),some (.box 88 _)),((4,u4),some (.box 33 _))]⟩) (sbr rfl rfl) ?_))))))))))))))))))
 refine Z6 rfl fun u8 hu8=>sp rfl rfl (sl rfl (gq rfl) rfl (sv rfl (sv rfl (gp rfl (A4i rfl) (fun _=>rfl) (gf rfl (vl rfl (gq rfl) rfl) (gp rfl (A4i rfl) (fun _=>rfl) (gf rfl (vl rfl (gq rfl) rfl) (gf rfl (fun w12=>(A1w (A6 w12) (A6 w12) rfl)) (sd rfl (A7y rfl rfl (fun hc=>A6 (A1g hc))) (sv rfl (gp rfl (A4i rfl) (fun _=>rfl) (gf rfl (vl rfl (gq rfl) rfl) (gp rfl (A4i rfl) (fun _=>rfl) (gf rfl (fun w16=>(E0 (A6 w16) G_hit rfl rfl)) (gp rfl (A4i rfl) (fun _=>rfl) (gf rfl (vl rfl (gq rfl) rfl) (bs hz2 fun v4 hv4 hz2=> ?_)))))))))))))))))
 refine A0v _ (i64 v4) (A4i rfl) (fun w19=>⟨_,[(.d (.agg (A27 p1.Map_))),(di v1.Lane_)],_,_,(by simp only [A6 w19];rfl),rfl,A4,A2y _ _ _ (G6 w19 hv4),(.inl rfl)⟩) ?_
 refine gf rfl (fun w20=>(A1w (A6 w20) (A6 w20) rfl)) (sd rfl (A7y rfl rfl (fun hc=>A6 (A1g hc))) (sv rfl (gp rfl (A4i rfl) (fun _=>rfl) (gf rfl (vl rfl (gq rfl) rfl) (gf rfl (vb rfl rfl rfl) (sd rfl (A7y rfl rfl (fun hc=>A6 (A1g hc))) (sv rfl (gp rfl (A4i rfl) (fun _=>rfl) (gf rfl (vl rfl (gq rfl) rfl) (gp rfl (A4i rfl) (fun _=>rfl) (gf rfl (vl rfl (gq rfl) rfl) (gf rfl (fun w28=>(A1w (A6 w28) (A6 w28) rfl)) (sd rfl (A7y rfl rfl (fun hc=>A6 (A1g hc))) (sv rfl (gp rfl (A4i rfl) (fun _=>rfl) (gf rfl (vl rfl (gq rfl) rfl) (gf rfl (vb rfl rfl rfl) (sd rfl (A7y rfl rfl (fun hc=>A6 (A1g hc))) (sv rfl (gp rfl (A4i rfl) (fun _=>rfl) (gf rfl (vl rfl (gq rfl) rfl) (gf rfl (fun _=>rfl) (bs hz2 fun v5 hv5 hz2=> ?_)))))))))))))))))))))))
 refine A0v _ (bo v5) (A4i rfl) (fun w35=>⟨_,[(di v1.Limit),(di 0),(di v3.1)],_,_,(by simp only [A6 w35];rfl),rfl,A4,R7 _ _ _ _ (G6 w35 hv5),(.inl rfl)⟩) ?_
 refine A3b _ (.d (bo (!v5))) rfl (A4i rfl) (fun w36=>(by simp only [A6 w36];rfl)) ?_
 refine sd rfl (A7y rfl rfl (fun hc=>A6 (A1g hc))) (A3 (cc rfl hz2 (fun c3 hz2=> ?_) (fun c3 hz2=> ?_)))
 refine A8 (A9 (s0:=⟨T [],G []⟩) (sbr rfl rfl) ?_)
 refine D1 fun u9 hu9=>sv rfl (A3 (D5 ?_))
 cases hz2
 obtain rfl:=ez2 _ rfl
 refine ⟨nofun,J9 ?_⟩
 rw [Sum.elim_inr]at h
 cases h
 exact B0 (.inr rfl) (E4 (E1 rfl) N9) (.refl _)
 refine B3 (I5 (A9 (s0:=⟨T [(1,(.ptr _ _)),(10,(.d _)),(11,(.d _)),(12,(.d _))],G [((1,u1),some (.box 88 _))]⟩) (sbr rfl rfl) ?_))
 refine D1 fun u10 hu10=>sv rfl (sv rfl (A3 (J2 ?_)))
 cases hz2
 exact ⟨rfl,(),(sbr rfl rfl)⟩
 refine E5 rfl ?_
 cases hz2
 obtain rfl:=ez2 _ rfl
 refine ⟨nofun,E3 rfl (l_j ?_)⟩
 exact ⟨_,(),rfl,(sbr rfl rfl)⟩
 rintro _ ⟨y1,g1,rfl,q1⟩
 rw [Sum.elim_inl]at h
 refine A9 q1 (lr (fun u11 hu11=>sv rfl (A3 (D5 ?_))))
 cases h
 exact B0 (.inr rfl) (E4 (E1 rfl) N9) (.refl _)
noncomputable def Q7 (v:Nat)(p1:RoadsCheck):Option Int:=
  cond (Nat.beq v 43) (P6 p1) (cond (Nat.beq v 44) (S9 p1) (cond (Nat.beq v 45) (R2 p1) (cond (Nat.beq v 46) (P7 p1) (cond (Nat.beq v 47) (T1 p1) (cond (Nat.beq v 48) (T3 p1) (none))))))
theorem A5h (v:Nat)(p1:RoadsCheck)(r:Int)(h:Q7 v p1=some r):PCall Try.prog v [(.agg [(i64 p1.Map_.Version),(.list (List.map A4k p1.Map_.Lanes)),(.list (List.map U8 p1.Map_.Zones)),(.list (List.map A79 p1.Map_.Signals)),(.list (List.map B3g p1.Map_.Works))])] (i64 r):=by
  unfold Q7 at h
  rcases B6r h with ⟨rfl,h⟩|⟨_,h⟩
  ·exact A8x _ r h
  rcases B6r h with ⟨rfl,h⟩|⟨_,h⟩
  ·exact B04 _ r h
  rcases B6r h with ⟨rfl,h⟩|⟨_,h⟩
  ·exact A99 _ r h
  rcases B6r h with ⟨rfl,h⟩|⟨_,h⟩
  ·exact A8y _ r h
  rcases B6r h with ⟨rfl,h⟩|⟨_,h⟩
  ·exact B05 _ r h
  rcases B6r h with ⟨rfl,h⟩|⟨_,h⟩
  ·exact B06 _ r h
  cases h
noncomputable def L4 (p1:Map)(x1:Int):Option (Stp Int (Sum Unit Int)):=
  cond (decide (x1< ([43,44,45,46,47,48].length:Int))) ((F3 [43,44,45,46,47,48] x1).bind fun v1=>(Q7 v1 (RoadsCheck.mk p1)).bind fun v2=>cond (v2 !=0) (some (.out (.inr v2))) (some (.go (w64 (x1+1))))) (some (.out (.inl ())))
noncomputable def A0s (p1:Map):Option Int:=
  thenS (loop (L4 p1) 0) (fun _=>some 0) (fun r=>some r)
theorem A4u (p1:Map)(r:Int)(h:A0s p1=some r):PCall Try.prog 13 [(.agg (A27 p1))] (i64 r):=by
 refine G2 (fk Try.func13 Try.ntmps13 (fun r=>if r==1 then [1000]else []) (by with_unfolding_all rfl)) (nl rfl) ?_
 unfold A0s at h
 refine A9 (s0:=⟨T [(0,(.d _))],G []⟩) (sbr rfl rfl) ?_
 refine lr (fun u1 hu1=>sn rfl rfl (sv rfl (A3 (A8 (lr (fun u2 hu2=>E2 (dl eFn [43,44,45,46,47,48]) rfl rfl (sd rfl (K5 rfl) (sv rfl (A3 (js h fun z1 hz1 h=>H8 (fun s=> ∃(y1:Unit) (g1:Unit),z1= .inl y1∧Sb ⟨T [],G []⟩ s) ?_ ?_))))))))))
 refine A7 (I0 (L4 p1) (fun (x1:Int) (g2:Unit)=>⟨T [(1,(.ptr (1,u1) 0)),(6,(dl eFn [43,44,45,46,47,48])),(7,(di ([43,44,45,46,47,48].length:Int))),(8,(di x1))],G [((1,u1),some (.box 28 (A1v p1)))]⟩) 0 () _ hz1 (sbr rfl rfl) ?_)
 intro x1 g2 z2 hz2 ez2
 unfold L4 at hz2
 refine lr (fun u3 hu3=>sv rfl (A3 (A8 (cc rfl hz2 (fun c1 hz2=> ?_) (fun c1 hz2=> ?_)))))
 refine B3 (A8 (A7 (lr (fun u4 hu4=>bs hz2 fun v1 hv1 hz2=>sd rfl (J8 rfl rfl hv1 rfl) (sd rfl (F4 rfl hv1 rfl) (sv rfl (A3 (lr (fun u5 hu5=>sv rfl (sd rfl (E0 rfl G_hit rfl rfl) (sv rfl (bs hz2 fun v2 hv2 hz2=>C9 rfl rfl A4 (A5h _ _ _ hv2) (.inl rfl) (sv rfl (A3 (lr (fun u6 hu6=>sv rfl (sv rfl (A3 (cc rfl hz2 (fun c2 hz2=> ?_) (fun c2 hz2=> ?_))))))))))))))))))))
 refine lr (fun u7 hu7=>sv rfl (sv rfl (A3 (D5 ?_))))
 cases hz2
 obtain rfl:=ez2 _ rfl
 refine ⟨nofun,J9 ?_⟩
 rw [Sum.elim_inr]at h
 cases h
 exact B0 (.inr rfl) (E4 (E1 rfl) N9) (.refl _)
 refine B3 (I5 (D1 fun u8 hu8=>sv rfl (sv rfl (A3 (J2 ?_)))))
 cases hz2
 exact ⟨rfl,(),(sbr rfl rfl)⟩
 refine E5 rfl ?_
 cases hz2
 obtain rfl:=ez2 _ rfl
 refine ⟨nofun,E3 rfl (l_j ?_)⟩
 exact ⟨_,(),rfl,(sbr rfl rfl)⟩
 rintro _ ⟨y1,g1,rfl,q1⟩
 rw [Sum.elim_inl]at h
 refine A9 q1 (lr (fun u9 hu9=>sv rfl (A3 (D5 ?_))))
 cases h
 exact B0 (.inr rfl) (E4 (E1 rfl) N9) (.refl _)
noncomputable def N4 (p1:(List Int))(p2:Int)(x1:Int):Option (Stp Int (Sum Unit Int)):=
  cond (decide (x1< (p1.length:Int))) ((F3 p1 x1).bind fun v1=>cond (p2==v1) (some (.out (.inr x1))) (some (.go (w64 (x1+1))))) (some (.out (.inl ())))
noncomputable def U3 (p1:(List Int))(p2:Int):Option Int:=
  thenS (loop (N4 p1 p2) 0) (fun _=>some (-1)) (fun r=>some r)
theorem A86 (p1:(List Int))(p2:Int)(r:Int)(h:U3 p1 p2=some r):PCall Try.prog 119 [(.list (List.map A5 p1)),(i64 p2)] (i64 r):=by
 refine G2 (fk Try.func119 Try.ntmps119 m0 (by with_unfolding_all rfl)) (nl rfl) ?_
 unfold U3 at h
 refine A9 (s0:=⟨T [(0,(.d _)),(1,(.d _))],G []⟩) (sbr rfl rfl) ?_
 refine lr (fun u1 hu1=>sv rfl (A3 (A8 (lr (fun u2 hu2=>sv rfl (sd rfl (K5 rfl) (sv rfl (A3 (js h fun z1 hz1 h=>H8 (fun s=> ∃(y1:Unit) (g1:Unit),z1= .inl y1∧Sb ⟨T [],G []⟩ s) ?_ ?_)))))))))
 refine A7 (I0 (N4 p1 p2) (fun (x1:Int) (g2:Unit)=>⟨T [(0,(dl A5 p1)),(1,(di p2)),(7,(di (p1.length:Int))),(8,(di x1))],G []⟩) 0 () _ hz1 (sbr rfl rfl) ?_)
 intro x1 g2 z2 hz2 ez2
 unfold N4 at hz2
 refine lr (fun u3 hu3=>sv rfl (A3 (A8 (cc rfl hz2 (fun c1 hz2=> ?_) (fun c1 hz2=> ?_)))))
 refine B3 (A8 (A7 (lr (fun u4 hu4=>sv rfl (sv rfl (A3 (lr (fun u5 hu5=>sv rfl (sv rfl (sv rfl (bs hz2 fun v1 hv1 hz2=>sd rfl (J8 rfl rfl hv1 rfl) (sd rfl (F4 rfl hv1 rfl) (sv rfl (A3 (cc rfl hz2 (fun c2 hz2=> ?_) (fun c2 hz2=> ?_))))))))))))))))
 refine lr (fun u6 hu6=>sv rfl (sv rfl (A3 (D5 ?_))))
 cases hz2
 obtain rfl:=ez2 _ rfl
 refine ⟨nofun,J9 ?_⟩
 rw [Sum.elim_inr]at h
 cases h
 exact B0 (.inr rfl) (E4 (E1 rfl) N9) (.refl _)
 refine B3 (I5 (D1 fun u7 hu7=>sv rfl (sv rfl (A3 (J2 ?_)))))
 cases hz2
 exact ⟨rfl,(),(sbr rfl rfl)⟩
 refine E5 rfl ?_
 cases hz2
 obtain rfl:=ez2 _ rfl
 refine ⟨nofun,E3 rfl (l_j ?_)⟩
 exact ⟨_,(),rfl,(sbr rfl rfl)⟩
 rintro _ ⟨y1,g1,rfl,q1⟩
 rw [Sum.elim_inl]at h
 refine A9 q1 (lr (fun u8 hu8=>sv rfl (A3 (D5 ?_))))
 cases h
 exact B0 (.inr rfl) (E4 (E1 rfl) N9) (.refl _)
noncomputable def H7 (p1:(List Int))(p2:Int):Option Bool:=
  (U3 p1 p2).bind fun v1=>some (decide (v1≥0))
theorem U5 (p1:(List Int))(p2:Int)(r:Bool)(h:H7 p1 p2=some r):PCall Try.prog 87 [(.list (List.map A5 p1)),(i64 p2)] (bo r):=by
 refine G2 (fk Try.func87 Try.ntmps87 m0 (by with_unfolding_all rfl)) (nl rfl) ?_
 unfold H7 at h
 refine A9 (s0:=⟨T [(0,(.d _)),(1,(.d _))],G []⟩) (sbr rfl rfl) ?_
 refine lr (fun u1 hu1=>sv rfl (A3 (lr (fun u2 hu2=>sv rfl (sv rfl (bs h fun v1 hv1 h=>C9 rfl rfl A4 (A86 _ _ _ hv1) (.inl rfl) (sv rfl (sv rfl (A3 (D5 ?_))))))))))
 cases h
 exact B0 (.inr rfl) (E4 (E1 rfl) N9) (.refl _)
noncomputable def A03 (p1:Map)(p2:Int)(x1:((List Int)×Int)):Option (Stp ((List Int)×Int) (List Int)):=
  cond (decide (x1.2< (p1.Lanes.length:Int))) ((F3 p1.Lanes x1.2).bind fun v1=>(H7 v1.Next p2).bind fun v2=>cond v2 ((B0m x1.1 [x1.2]).bind fun v3=>some (.go (v3,(w64 (x1.2+1))))) (some (.go (x1.1,(w64 (x1.2+1)))))) (some (.out x1.1))
noncomputable def A0n (p1:Map)(p2:Int):Option (List Int):=
  (loop (A03 p1 p2) ([],0)).bind fun y1=>some y1
theorem A69 (p1:Map)(p2:Int)(r:(List Int))(h:A0n p1 p2=some r):PCall Try.prog 59 [(.agg (A27 p1)),(i64 p2)] (.list (List.map A5 r)):=by
 refine G2 (fk Try.func59 Try.ntmps59 (fun r=>if r==6 then [1002]else []) (by with_unfolding_all rfl)) (nl rfl) ?_
 unfold A0n at h
 refine A9 (s0:=⟨T [(0,(.d _)),(1,(.d _))],G []⟩) (sbr rfl rfl) ?_
 refine lr (fun u1 hu1=>sn rfl rfl (sv rfl (A3 (lr (fun u2 hu2=>sv rfl (A3 (A8 (lr (fun u3 hu3=>sp rfl rfl (sl rfl G_hit rfl (sd rfl (K5 rfl) (sv rfl (A3 (bs h fun y1 hy1 h=>H8 (fun s=> ∃g1:Nat,Sb ⟨T [(5,(oS y1 (23,g1)))],G [((23,g1),oB 3 1 A5 y1)]⟩ s) ?_ ?_))))))))))))))
 refine A7 (I0 (A03 p1 p2) (fun (x1:((List Int)×Int)) (g2:Nat)=>⟨T [(1,(di p2)),(5,(oS x1.1 (23,g2))),(9,(dl A4k p1.Lanes)),(10,(di (p1.Lanes.length:Int))),(11,(di x1.2))],G [((23,g2),oB 3 1 A5 x1.1)]⟩) ([],0) 0 _ hy1 (H9 ⟨.of rfl, .of rfl, .of rfl, .of rfl, .of rfl,trivial⟩ (X6 trivial)) ?_)
 intro x1 g2 z1 hz1 ez1
 unfold A03 at hz1
 refine lr (fun u4 hu4=>sv rfl (A3 (A8 (cc rfl hz1 (fun c1 hz1=> ?_) (fun c1 hz1=> ?_)))))
 refine B3 (A8 (A7 (lr (fun u5 hu5=>sv rfl (bs hz1 fun v1 hv1 hz1=>sd rfl (J8 rfl rfl hv1 rfl) (sd rfl (N3 rfl hv1 rfl rfl) (sn rfl rfl (sv rfl (sst rfl G_hit (B3h v1) rfl (A3 (lr (fun u6 hu6=>sp rfl rfl (sl rfl G_hit rfl (sv rfl (bs hz1 fun v2 hv2 hz1=>C9 rfl rfl A4 (U5 _ _ _ hv2) (.inl rfl) (A3 (cc rfl hz1 (fun c2 hz1=> ?_) (fun c2 hz1=> ?_))))))))))))))))))
 refine D1 fun u7 hu7=>E2 (oS x1.1 (23,g2)) rfl rfl (sv rfl (E2 (dl A5 [x1.2]) rfl rfl (bs hz1 fun v3 hv3 hz1=>A02 A5 (23,g2) x1.1 x1.2 [] _ (U7 (fun _=>rfl)) rfl (gq rfl) hv3 (ss rfl (A3 (I5 (A9 (s0:=⟨T [(1,(.d _)),(5,(.sl _)),(9,(.d _)),(10,(.d _)),(11,(.d _))],G [((23,u7),some _)]⟩) (sbr rfl rfl) ?_)))))))
 refine D1 fun u8 hu8=>sv rfl (sv rfl (A3 (J2 ?_)))
 cases hz1
 exact ⟨rfl,u7,(H9 ⟨.of rfl,(.of (A34 (A3l hv3)).symm), .of rfl, .of rfl, .of rfl,trivial⟩ (R5 G_hit trivial))⟩
 refine B3 (I5 (D1 fun u9 hu9=>sv rfl (sv rfl (A3 (J2 ?_)))))
 cases hz1
 exact ⟨rfl,g2,(H9 ⟨.of rfl, .of rfl, .of rfl, .of rfl, .of rfl,trivial⟩ (I9 (gq rfl) trivial))⟩
 refine E5 rfl ?_
 cases hz1
 obtain rfl:=ez1 _ rfl
 refine ⟨nofun,E3 rfl (l_j ?_)⟩
 exact ⟨g2,(H9 ⟨.of rfl,trivial⟩ (I9 G_hit trivial))⟩
 rintro _ ⟨g1,q1⟩
 refine A9 q1 (lr (fun u10 hu10=>E2 (oS y1 (23,g1)) rfl rfl (E2 (oS y1 (23,g1)) rfl rfl (A3 (D5 ?_)))))
 cases h
 exact B0 (.inr rfl) (E4 (E1 rfl) (A77 G_hit)) A76
noncomputable def N5 (p1:Map)(v7:List Int)(x1:(Int×Int)):Option (Stp (Int×Int) (Sum Unit Int)):=
  cond (decide (x1.2< (v7.length:Int))) ((F3 v7 x1.2).bind fun v8=>(F3 p1.Lanes x1.1).bind fun v9=>(H7 v9.Next v8).bind fun v10=>cond (!v10) (some (.out (.inr 13))) (some (.go (v8,(w64 (x1.2+1)))))) (some (.out (.inl ())))
noncomputable def X7 (p1:Map)(p2:(List Int)):Option Int:=
  (A0s p1).bind fun v1=>cond (v1 !=0) (some v1) (((cond (!(((p2.length:Int)==0)||(decide ((p2.length:Int)>8)))) (F3 p2 0) (some default))).bind fun v2=>((cond (!((((p2.length:Int)==0)||(decide ((p2.length:Int)>8)))||(decide (v2<0)))) (F3 p2 0) (some default))).bind fun v3=>((cond (!(((((p2.length:Int)==0)||(decide ((p2.length:Int)>8)))||(decide (v2<0)))||(decide (v3≥(p1.Lanes.length:Int))))) (F3 p2 0) (some default))).bind fun v4=>((cond (!(((((p2.length:Int)==0)||(decide ((p2.length:Int)>8)))||(decide (v2<0)))||(decide (v3≥(p1.Lanes.length:Int))))) (A0n p1 v4) (some default))).bind fun v5=>cond ((((((p2.length:Int)==0)||(decide ((p2.length:Int)>8)))||(decide (v2<0)))||(decide (v3≥(p1.Lanes.length:Int))))||(decide ((v5.length:Int)>0))) (some 13) ((F3 p2 0).bind fun v6=>(C3n p2 1 (p2.length:Int)).bind fun v7=>thenS (loop (N5 p1 v7) (v6,0)) (fun _=>some 0) (fun r=>some r)))
theorem B12 (p1:Map)(p2:(List Int))(r:Int)(h:X7 p1 p2=some r):PCall Try.prog 83 [(.agg (A27 p1)),(.list (List.map A5 p2))] (i64 r):=by
 refine G2 (fk Try.func83 Try.ntmps83 m0 (by with_unfolding_all rfl)) (nl rfl) ?_
 unfold X7 at h
 refine A9 (s0:=⟨T [(0,(.d _)),(1,(.d _))],G []⟩) (sbr rfl rfl) ?_
 refine lr (fun u1 hu1=>sn rfl rfl (sv rfl (A3 (A8 (lr (fun u2 hu2=>sd rfl (E0 rfl G_hit rfl rfl) (bs h fun v1 hv1 h=>C9 rfl rfl A4 (A4u _ _ hv1) (.inl rfl) (sv rfl (A3 (lr (fun u3 hu3=>sv rfl (sv rfl (A3 (cc rfl h (fun c1 h=> ?_) (fun c1 h=> ?_)))))))))))))))
 refine lr (fun u4 hu4=>sv rfl (sv rfl (A3 (D5 ?_))))
 cases h
 exact B0 (.inr rfl) (E4 (E1 rfl) N9) (.refl _)
 refine B3 (A8 (A8 (Z6 rfl fun u5 hu5=>sv rfl (sd rfl (K5 rfl) (sv rfl (sv rfl (gf rfl (fun _=>rfl) (gf rfl (fun w2=>(K5 (A6 w2))) (gf rfl (vb rfl rfl rfl) (sd rfl (A7y rfl rfl (fun hc=>A6 (A1g hc))) (sv rfl (gf rfl (fun _=>rfl) (bs h fun v2 hv2 h=>gf rfl (fun w5=>(J8 (A6 w5) rfl (G6 w5 hv2) rfl)) (gf rfl (fun w6=>(F4 (A6 w6) (G6 w6 hv2) rfl)) (gf rfl (vb rfl rfl rfl) (sd rfl (A7y rfl rfl (fun hc=>A6 (A1g hc))) (sv rfl (gf rfl (fun _=>rfl) (bs h fun v3 hv3 h=>gf rfl (fun w9=>(J8 (A6 w9) rfl (G6 w9 hv3) rfl)) (gf rfl (fun w10=>(F4 (A6 w10) (G6 w10 hv3) rfl)) (gp rfl (A4i rfl) (fun _=>rfl) (gf rfl (vl rfl G_hit rfl) (gf rfl (fun w13=>(K5 (A6 w13))) (gf rfl (fun w14=>(A1w (A6 w14) (A6 w14) rfl)) (sd rfl (A7y rfl rfl (fun hc=>A6 (A1g hc))) (sv rfl (gf rfl (fun w15=>(E0 rfl G_hit rfl rfl)) (gf rfl (fun _=>rfl) (bs h fun v4 hv4 h=>gf rfl (fun w17=>(J8 (A6 w17) rfl (G6 w17 hv4) rfl)) (gf rfl (fun w18=>(F4 (A6 w18) (G6 w18 hv4) rfl)) (bs h fun v5 hv5 h=> ?_)))))))))))))))))))))))))))))))
 refine A0v _ (.list (List.map A5 v5)) (A4i rfl) (fun w19=>⟨_,[(.d (.agg (A27 p1))),(di v4)],_,_,(by simp only [A6 w19];rfl),rfl,A4,A69 _ _ _ (G6 w19 hv5),(.inl rfl)⟩) ?_
 refine gf rfl (fun w20=>(K5 (A6 w20))) (gf rfl (vb rfl rfl rfl) (sd rfl (A7y rfl rfl (fun hc=>A6 (A1g hc))) (A3 (cc rfl h (fun c2 h=> ?_) (fun c2 h=> ?_)))))
 refine A8 (A9 (s0:=⟨T [],G []⟩) (sbr rfl rfl) ?_)
 refine D1 fun u6 hu6=>sv rfl (A3 (D5 ?_))
 cases h
 exact B0 (.inr rfl) (E4 (E1 rfl) N9) (.refl _)
 refine B3 (A8 (A9 (s0:=⟨T [(1,(.d _)),(2,(.ptr _ _))],G [((2,u1),some (.box 28 _))]⟩) (sbr rfl rfl) ?_))
 refine D1 fun u7 hu7=>sv rfl (bs h fun v6 hv6 h=>sd rfl (J8 rfl rfl hv6 rfl) (sd rfl (F4 rfl hv6 rfl) (sv rfl (A3 (A8 (lr (fun u8 hu8=>sv rfl (bs h fun v7 hv7 h=>sd rfl (C7a rfl (fun _=>rfl) (D1x rfl) C1j hv7) (sd rfl (K5 rfl) (sv rfl (A3 (js h fun z1 hz1 h=>H8 (fun s=> ∃(y1:Unit) (g1:Unit),z1= .inl y1∧Sb ⟨T [],G []⟩ s) ?_ ?_))))))))))))
 refine A7 (I0 (N5 p1 v7) (fun (x1:(Int×Int)) (g2:Unit)=>⟨T [(2,(.ptr (2,u1) 0)),(6,(di x1.1)),(50,(dl A5 v7)),(51,(di (v7.length:Int))),(52,(di x1.2))],G [((2,u1),some (.box 28 (A1v p1)))]⟩) (v6,0) () _ hz1 (sbr rfl rfl) ?_)
 intro x1 g2 z2 hz2 ez2
 unfold N5 at hz2
 refine lr (fun u9 hu9=>sv rfl (A3 (A8 (cc rfl hz2 (fun c3 hz2=> ?_) (fun c3 hz2=> ?_)))))
 refine B3 (A8 (A7 (lr (fun u10 hu10=>bs hz2 fun v8 hv8 hz2=>sd rfl (J8 rfl rfl hv8 rfl) (sd rfl (F4 rfl hv8 rfl) (sv rfl (A3 (A8 (lr (fun u11 hu11=>sp rfl rfl (sl rfl G_hit rfl (sv rfl (bs hz2 fun v9 hv9 hz2=>sd rfl (J8 rfl rfl hv9 rfl) (sv rfl (sd rfl (F4 rfl hv9 rfl) (sv rfl (bs hz2 fun v10 hv10 hz2=>C9 rfl rfl A4 (U5 _ _ _ hv10) (.inl rfl) (E2 (.d (bo (!v10))) rfl rfl (A3 (cc rfl hz2 (fun c4 hz2=> ?_) (fun c4 hz2=> ?_)))))))))))))))))))))
 refine lr (fun u12 hu12=>sv rfl (A3 (D5 ?_)))
 cases hz2
 obtain rfl:=ez2 _ rfl
 refine ⟨nofun,J9 ?_⟩
 rw [Sum.elim_inr]at h
 cases h
 exact B0 (.inr rfl) (E4 (E1 rfl) N9) (.refl _)
 refine B3 (D1 fun u13 hu13=>sv rfl (sv rfl (A3 (I5 (D1 fun u14 hu14=>sv rfl (sv rfl (A3 (J2 ?_))))))))
 cases hz2
 exact ⟨rfl,(),(sbr rfl rfl)⟩
 refine E5 rfl ?_
 cases hz2
 obtain rfl:=ez2 _ rfl
 refine ⟨nofun,E3 rfl (l_j ?_)⟩
 exact ⟨_,(),rfl,(sbr rfl rfl)⟩
 rintro _ ⟨y1,g1,rfl,q1⟩
 rw [Sum.elim_inl]at h
 refine A9 q1 (lr (fun u15 hu15=>sv rfl (A3 (D5 ?_))))
 cases h
 exact B0 (.inr rfl) (E4 (E1 rfl) N9) (.refl _)
noncomputable def U1 (p1:Map)(p2:(List Int))(x1:(Int×RoadsWay)):Option (Stp (Int×RoadsWay) RoadsWay):=
  cond (decide (x1.1< (p2.length:Int))) ((F3 p2 x1.1).bind fun v2=>(B0m x1.2.starts [x1.2.length]).bind fun v3=>(Z9 p1 v2).bind fun v4=>some (.go ((w64 (x1.1+1)),(RoadsWay.mk x1.2.Map_ x1.2.lanes v3 (w64 (x1.2.length+v4)))))) (some (.out x1.2))
noncomputable def Z7 (p1:Map)(p2:(List Int)):Option RoadsWay:=
  (X7 p1 p2).bind fun v1=>cond (v1 !=0) (some (RoadsWay.mk (Map.mk 0 [] [] [] []) [] [] 0)) ((loop (U1 p1 p2) (0,(RoadsWay.mk p1 p2 [] 0))).bind fun y1=>some y1)
theorem A44 (p1:Map)(p2:(List Int))(r:RoadsWay)(h:Z7 p1 p2=some r):PCall Try.prog 52 [(.agg (A27 p1)),(.list (List.map A5 p2))] (.agg (C57 r)):=by
 refine G2 (fk Try.func52 Try.ntmps52 (fun r=>if r==7 then [1004]else []) (by with_unfolding_all rfl)) (nl rfl) ?_
 unfold Z7 at h
 refine A9 (s0:=⟨T [(0,(.d _)),(1,(.d _))],G []⟩) (sbr rfl rfl) ?_
 refine lr (fun u1 hu1=>sn rfl rfl (sn rfl rfl (A3 (A8 (lr (fun u2 hu2=>sd rfl (E0 rfl (gq rfl) rfl rfl) (sv rfl (bs h fun v1 hv1 h=>C9 rfl rfl A4 (B12 _ _ _ hv1) (.inl rfl) (sv rfl (A3 (cc rfl h (fun c1 h=> ?_) (fun c1 h=> ?_))))))))))))
 refine lr (fun u3 hu3=>sv rfl (sst rfl G_hit [(di 0),(.d .nilS),(.d .nilS),(.d .nilS),(.d .nilS),(.d .nilS),(.d .nilS),(di 0)] rfl (A3 (D5 ?_))))
 cases h
 exact B0 (.inr rfl) (E4 (A1q rfl G_hit (nl rfl) rfl) N9) (.agg (ca rfl (.cons ⟨DLe.nil,rfl⟩ (.cons ⟨DLe.nil,rfl⟩ (.cons ⟨DLe.nil,rfl⟩ (.cons ⟨DLe.nil,rfl⟩ (.cons ⟨DLe.nil,rfl⟩ (.cons ⟨DLe.nil,rfl⟩ (cz rfl)))))))))
 refine B3 (lr (fun u4 hu4=>sd rfl (E0 rfl (gq rfl) rfl rfl) (sv rfl (sv rfl (sn rfl rfl (sst rfl G_hit ((A1v p1)++ [(dl A5 p2),(.d .nilS),(di 0)]) rfl (A3 (A8 (lr (fun u5 hu5=>sv rfl (sd rfl (K5 rfl) (sv rfl (A3 (bs h fun y1 hy1 h=>H8 (fun s=> ∃g1:Nat,Sb ⟨T [(4,(.ptr (4,u1) 0)),(5,(.ptr (5,u4) 0))],G [((4,u1),some (.box 92 [(di 0),(.d .nilS),(.d .nilS),(.d .nilS),(.d .nilS),(.d .nilS),(.d .nilS),(di 0)])),((5,u4),some (.box 92 ((V6 y1).set 6 (oS y1.starts (27,g1))))),((27,g1),oB 2 1 A5 y1.starts)]⟩ s) ?_ ?_))))))))))))))
 refine A7 (I0 (U1 p1 p2) (fun (x1:(Int×RoadsWay)) (g2:Nat)=>⟨T [(2,(.ptr (2,u1) 0)),(4,(.ptr (4,u1) 0)),(5,(.ptr (5,u4) 0)),(16,(dl A5 p2)),(17,(di (p2.length:Int))),(18,(di x1.1))],G [((2,u1),some (.box 28 (A1v p1))),((4,u1),some (.box 92 [(di 0),(.d .nilS),(.d .nilS),(.d .nilS),(.d .nilS),(.d .nilS),(.d .nilS),(di 0)])),((5,u4),some (.box 92 ((V6 x1.2).set 6 (oS x1.2.starts (27,g2))))),((27,g2),oB 2 1 A5 x1.2.starts)]⟩) (0,(RoadsWay.mk p1 p2 [] 0)) 0 _ hy1 (H9 ⟨.of rfl, .of rfl, .of rfl, .of rfl, .of rfl, .of rfl,trivial⟩ (sg rfl (sg rfl (B5 G_hit (.of rfl) (X6 trivial))))) ?_)
 intro x1 g2 z1 hz1 ez1
 unfold U1 at hz1
 refine lr (fun u6 hu6=>sv rfl (A3 (A8 (cc rfl hz1 (fun c2 hz1=> ?_) (fun c2 hz1=> ?_)))))
 refine B3 (A8 (A7 (lr (fun u7 hu7=>bs hz1 fun v2 hv2 hz1=>sd rfl (J8 rfl rfl hv2 rfl) (sd rfl (F4 rfl hv2 rfl) (sv rfl (A3 (lr (fun u8 hu8=>sp rfl rfl (E2 (oS x1.2.starts (27,g2)) rfl (B1n rfl (gq rfl) rfl) (sp rfl rfl (sl rfl (gq rfl) rfl (E2 (dl A5 [x1.2.length]) rfl rfl (bs hz1 fun v3 hv3 hz1=>A02 A5 (27,g2) x1.2.starts x1.2.length [] _ (U7 (fun _=>rfl)) rfl (gq rfl) hv3 (sp rfl rfl (sst rfl (gq rfl) ((V6 x1.2).set 6 (.sl (27,u8))) rfl (A3 (A9 (s0:=⟨T [(2,(.ptr _ _)),(4,(.ptr _ _)),(5,(.ptr _ _)),(7,(.d _)),(16,(.d _)),(17,(.d _)),(18,(.d _))],G [((2,u1),some (.box 28 _)),((4,u1),some (.box 92 _)),((5,u4),some (.box 92 _)),((27,u8),some _)]⟩) (sbr rfl rfl) ?_))))))))))))))))))
 refine Z6 rfl fun u9 hu9=>sp rfl rfl (sl rfl (gq rfl) rfl (sd rfl (E0 rfl G_hit rfl rfl) (sv rfl (bs hz1 fun v4 hv4 hz1=>C9 rfl rfl A4 (A2y _ _ _ hv4) (.inl rfl) (sv rfl (sp rfl rfl (sst rfl (gq rfl) (((V6 x1.2).set 6 (.sl (27,u8))).set 7 (di (w64 (x1.2.length+v4)))) rfl (A3 (I5 (D1 fun u10 hu10=>sv rfl (sv rfl (A3 (J2 ?_)))))))))))))
 cases hz1
 exact ⟨rfl,u8,(H9 ⟨.of rfl, .of rfl, .of rfl, .of rfl, .of rfl, .of rfl,trivial⟩ (sg rfl (sg rfl (B5 G_hit (.box (cv (cv (cv (cv (cv (cv (.cons (.of (A34 (A3l hv3)).symm) cw)))))))) (R5 (gq rfl) trivial)))))⟩
 refine E5 rfl ?_
 cases hz1
 obtain rfl:=ez1 _ rfl
 refine ⟨nofun,E3 rfl (l_j ?_)⟩
 exact ⟨g2,(H9 ⟨.of rfl, .of rfl,trivial⟩ (sg rfl (sg rfl (I9 (gq rfl) trivial))))⟩
 rintro _ ⟨g1,q1⟩
 refine A9 q1 (lr (fun u11 hu11=>E2 (A4w ((V6 y1).set 6 (oS y1.starts (27,g1)))) rfl (E0 rfl (gq rfl) rfl rfl) (B10 _ _ _ _ _ (A4z _) rfl rfl G_hit (nl rfl) ((V6 y1).set 6 (oS y1.starts (27,g1))) rfl (A3 (D5 ?_)))))
 cases h
 exact B0 (.inr rfl) (E4 (A1q rfl G_hit (nl rfl) rfl) (B1m (rD (rD (rD (rD (rD (rD (Q3 (A77 (gq rfl)) (rD Q0)))))))))) (.agg (ca rfl (ca rfl (ca rfl (ca rfl (ca rfl (ca rfl (.cons ⟨A76,rfl⟩ (cz rfl)))))))))
noncomputable def A14 (p1:Map)(p2:(List Int)):Option Int:=
  (Z7 p1 p2).bind fun v1=>some v1.length
theorem B07 (p1:Map)(p2:(List Int))(r:Int)(h:A14 p1 p2=some r):PCall Try.prog 32 [(.agg (A27 p1)),(.list (List.map A5 p2))] (i64 r):=by
 refine G2 (fk Try.func32 Try.ntmps32 m0 (by with_unfolding_all rfl)) (nl rfl) ?_
 unfold A14 at h
 refine A9 (s0:=⟨T [(0,(.d _)),(1,(.d _))],G []⟩) (sbr rfl rfl) ?_
 refine lr (fun u1 hu1=>sn rfl rfl (sv rfl (A3 (lr (fun u2 hu2=>sd rfl (E0 rfl G_hit rfl rfl) (sv rfl (bs h fun v1 hv1 h=>C9 rfl rfl A4 (A44 _ _ _ hv1) (.inl rfl) (sv rfl (sv rfl (A3 (D5 ?_)))))))))))
 cases h
 exact B0 (.inr rfl) (E4 (E1 rfl) N9) (.refl _)
noncomputable def A55 (p1:Map)(p2:(List Int)):Option (List Int):=
  (Z7 p1 p2).bind fun v1=>some v1.starts
theorem B53 (p1:Map)(p2:(List Int))(r:(List Int))(h:A55 p1 p2=some r):PCall Try.prog 33 [(.agg (A27 p1)),(.list (List.map A5 p2))] (.list (List.map A5 r)):=by
 refine G2 (fk Try.func33 Try.ntmps33 m0 (by with_unfolding_all rfl)) (nl rfl) ?_
 unfold A55 at h
 refine A9 (s0:=⟨T [(0,(.d _)),(1,(.d _))],G []⟩) (sbr rfl rfl) ?_
 refine lr (fun u1 hu1=>sn rfl rfl (sv rfl (A3 (lr (fun u2 hu2=>sd rfl (E0 rfl G_hit rfl rfl) (sv rfl (bs h fun v1 hv1 h=>C9 rfl rfl A4 (A44 _ _ _ hv1) (.inl rfl) (sv rfl (sv rfl (A3 (D5 ?_)))))))))))
 cases h
 exact B0 (.inr rfl) (E4 (E1 rfl) N9) (.refl _)
noncomputable def A9b (p1:Int)(p2:Int):Option Int:=
  (C4q p1 p2).bind fun v1=>cond (decide (v1<0)) (some (w64 (v1+p2))) (some v1)
theorem B94 (p1:Int)(p2:Int)(r:Int)(h:A9b p1 p2=some r):PCall Try.prog 11 [(i64 p1),(i64 p2)] (i64 r):=by
 refine G2 (fk Try.func11 Try.ntmps11 m0 (by with_unfolding_all rfl)) (nl rfl) ?_
 unfold A9b at h
 refine A9 (s0:=⟨T [(0,(.d _)),(1,(.d _))],G []⟩) (sbr rfl rfl) ?_
 refine lr (fun u1 hu1=>sv rfl (A3 (lr (fun u2 hu2=>sv rfl (sv rfl (bs h fun v1 hv1 h=>sd rfl (C79 rfl rfl hv1) (sv rfl (A3 (A8 (lr (fun u3 hu3=>sv rfl (sv rfl (A3 (cc rfl h (fun c1 h=> ?_) (fun c1 h=> ?_)))))))))))))))
 refine D1 fun u4 hu4=>sv rfl (sv rfl (sv rfl (sv rfl (A3 (lr (fun u5 hu5=>sv rfl (sv rfl (A3 (D5 ?_)))))))))
 cases h
 exact B0 (.inr rfl) (E4 (E1 rfl) N9) (.refl _)
 refine B3 (lr (fun u6 hu6=>sv rfl (sv rfl (A3 (D5 ?_)))))
 cases h
 exact B0 (.inr rfl) (E4 (E1 rfl) N9) (.refl _)
noncomputable def V4 (p3:Int)(v1:RoadsWay)(x1:Int):Option (Stp Int Int):=
  (F3 v1.starts x1).bind fun v3=>cond (decide (v3>p3)) (some (.go (w64 (x1 - 1)))) (some (.out x1))
noncomputable def A1k (p1:Map)(p2:(List Int))(p3:Int):Option (Int×Int×Bool):=
  (Z7 p1 p2).bind fun v1=>((cond (!((v1.lanes.length:Int)==0)) (P5 p3 0 v1.length) (some default))).bind fun v2=>cond (((v1.lanes.length:Int)==0)||(!v2)) (some (0,0,false)) ((loop (V4 p3 v1) (w64 ((v1.lanes.length:Int) - 1))).bind fun y1=>(F3 v1.lanes y1).bind fun v4=>(F3 v1.starts y1).bind fun v5=>some (v4,(w64 (p3 - v5)),true))
theorem A7a (p1:Map)(p2:(List Int))(p3:Int)(r:(Int×Int×Bool))(h:A1k p1 p2 p3=some r):PCall Try.prog 34 [(.agg (A27 p1)),(.list (List.map A5 p2)),(i64 p3)] (.tup [(i64 r.1),(i64 r.2.1),(bo r.2.2)]):=by
 refine G2 (fk Try.func34 Try.ntmps34 m0 (by with_unfolding_all rfl)) (nl rfl) ?_
 unfold A1k at h
 refine A9 (s0:=⟨T [(0,(.d _)),(1,(.d _)),(2,(.d _))],G []⟩) (sbr rfl rfl) ?_
 refine lr (fun u1 hu1=>sn rfl rfl (sv rfl (sv rfl (sv rfl (A3 (lr (fun u2 hu2=>sd rfl (E0 rfl G_hit rfl rfl) (sv rfl (bs h fun v1 hv1 h=>C9 rfl rfl A4 (A44 _ _ _ hv1) (.inl rfl) (sn rfl rfl (sst rfl G_hit (V6 v1) rfl (A3 (A8 (lr (fun u3 hu3=>sp rfl rfl (sl rfl G_hit rfl (sd rfl (K5 rfl) (sv rfl (sv rfl (gf rfl (fun _=>rfl) (gp rfl (A4i rfl) (fun _=>rfl) (gf rfl (vl rfl G_hit rfl) (bs h fun v2 hv2 h=> ?_)))))))))))))))))))))))
 refine A0v _ (bo v2) (A4i rfl) (fun w4=>⟨_,[(di p3),(di 0),(di v1.length)],_,_,(by simp only [A6 w4];rfl),rfl,A4,R7 _ _ _ _ (G6 w4 hv2),(.inl rfl)⟩) ?_
 refine A3b _ (.d (bo (!v2))) rfl (A4i rfl) (fun w5=>(by simp only [A6 w5];rfl)) ?_
 refine sd rfl (A7y rfl rfl (fun hc=>A6 (A1g hc))) (A3 (cc rfl h (fun c1 h=> ?_) (fun c1 h=> ?_)))
 refine A8 (A9 (s0:=⟨T [],G []⟩) (sbr rfl rfl) ?_)
 refine D1 fun u4 hu4=>sv rfl (sv rfl (sv rfl (A3 (D5 ?_))))
 cases h
 exact B0 (.inr rfl) (C75 (E1 rfl) (E1 rfl) (E1 rfl) N9 N9 N9) (.refl _)
 refine B3 (A8 (A9 (s0:=⟨T [(2,(.d _)),(9,(.ptr _ _))],G [((9,u2),some (.box 92 _))]⟩) (sbr rfl rfl) ?_))
 refine D1 fun u5 hu5=>sp rfl rfl (sl rfl G_hit rfl (sd rfl (K5 rfl) (sv rfl (sv rfl (A3 (A8 (bs h fun y1 hy1 h=>H8 (fun s=> ∃g1:Unit,Sb ⟨T [(2,(di p3)),(9,(.ptr (9,u2) 0)),(10,(di y1))],G [((9,u2),some (.box 92 (V6 v1)))]⟩ s) ?_ ?_)))))))
 refine A7 (I0 (V4 p3 v1) (fun (x1:Int) (g2:Unit)=>⟨T [(2,(di p3)),(9,(.ptr (9,u2) 0)),(10,(di x1))],G [((9,u2),some (.box 92 (V6 v1)))]⟩) (w64 ((v1.lanes.length:Int) - 1)) () _ hy1 (sbr rfl rfl) ?_)
 intro x1 g2 z1 hz1 ez1
 unfold V4 at hz1
 refine A8 (lr (fun u6 hu6=>sp rfl rfl (sl rfl G_hit rfl (sv rfl (bs hz1 fun v3 hv3 hz1=>sd rfl (J8 rfl rfl hv3 rfl) (sd rfl (F4 rfl hv3 rfl) (sv rfl (sv rfl (A3 (cc rfl hz1 (fun c2 hz1=> ?_) (fun c2 hz1=> ?_)))))))))))
 refine B3 (A7 (D1 fun u7 hu7=>sv rfl (sv rfl (sv rfl (A3 (I5 (J2 ?_)))))))
 cases hz1
 exact ⟨rfl,(),(sbr rfl rfl)⟩
 refine E5 rfl ?_
 cases hz1
 obtain rfl:=ez1 _ rfl
 refine ⟨nofun,E3 rfl (l_j ?_)⟩
 exact ⟨(),(sbr rfl rfl)⟩
 rintro _ ⟨g1,q1⟩
 refine A9 q1 (A8 (Z6 rfl fun u8 hu8=>sp rfl rfl (sl rfl G_hit rfl (sv rfl (bs h fun v4 hv4 h=>sd rfl (J8 rfl rfl hv4 rfl) (sd rfl (F4 rfl hv4 rfl) (sv rfl (sp rfl rfl (sl rfl G_hit rfl (sv rfl (bs h fun v5 hv5 h=>sd rfl (J8 rfl rfl hv5 rfl) (sd rfl (F4 rfl hv5 rfl) (sv rfl (sv rfl (sv rfl (sv rfl (A3 (D5 ?_))))))))))))))))))
 cases h
 exact B0 (.inr rfl) (C75 (E1 rfl) (E1 rfl) (E1 rfl) N9 N9 N9) (.refl _)
noncomputable def A71 (p1:Map)(p2:Int):Option Bool:=
  ((cond ((decide (p2≥0))&& (decide (p2< (p1.Lanes.length:Int)))) (A0s p1) (some default))).bind fun v1=>some (((decide (p2≥0))&& (decide (p2< (p1.Lanes.length:Int))))&& (v1==0))
theorem B54 (p1:Map)(p2:Int)(r:Bool)(h:A71 p1 p2=some r):PCall Try.prog 40 [(.agg (A27 p1)),(i64 p2)] (bo r):=by
 refine G2 (fk Try.func40 Try.ntmps40 m0 (by with_unfolding_all rfl)) (nl rfl) ?_
 unfold A71 at h
 refine A9 (s0:=⟨T [(0,(.d _)),(1,(.d _))],G []⟩) (sbr rfl rfl) ?_
 refine lr (fun u1 hu1=>sn rfl rfl (sv rfl (A3 (lr (fun u2 hu2=>sv rfl (sv rfl (sv rfl (gt rfl (fun _=>rfl) (gp rfl (A62 rfl) (fun _=>rfl) (gt rfl (vl rfl G_hit rfl) (gt rfl (fun w4=>(K5 (A6 w4))) (gt rfl (fun w5=>(A1w (A6 w5) (A6 w5) rfl)) (sa rfl rfl rfl (sv rfl (gt rfl (fun w6=>(E0 rfl G_hit rfl rfl)) (bs h fun v1 hv1 h=> ?_))))))))))))))))
 refine A0v _ (i64 v1) (A62 rfl) (fun w7=>⟨_,[(.d (.agg (A27 p1)))],_,_,(by simp only [A6 w7];rfl),rfl,A4,A4u _ _ (G6 w7 hv1),(.inl rfl)⟩) ?_
 refine gt rfl (vb rfl rfl rfl) (sa rfl rfl rfl (sv rfl (A3 (D5 ?_))))
 cases h
 exact B0 (.inr rfl) (E4 (E1 rfl) N9) (.refl _)
noncomputable def V9 (p1:Map)(p2:Int):Option Int:=
  (A71 p1 p2).bind fun v1=>cond (!v1) (some 0) ((Z9 p1 p2).bind fun v2=>some v2)
theorem A6a (p1:Map)(p2:Int)(r:Int)(h:V9 p1 p2=some r):PCall Try.prog 10 [(.agg (A27 p1)),(i64 p2)] (i64 r):=by
 refine G2 (fk Try.func10 Try.ntmps10 m0 (by with_unfolding_all rfl)) (nl rfl) ?_
 unfold V9 at h
 refine A9 (s0:=⟨T [(0,(.d _)),(1,(.d _))],G []⟩) (sbr rfl rfl) ?_
 refine lr (fun u1 hu1=>sn rfl rfl (sv rfl (A3 (A8 (lr (fun u2 hu2=>sd rfl (E0 rfl G_hit rfl rfl) (sv rfl (bs h fun v1 hv1 h=>C9 rfl rfl A4 (B54 _ _ _ hv1) (.inl rfl) (E2 (.d (bo (!v1))) rfl rfl (A3 (cc rfl h (fun c1 h=> ?_) (fun c1 h=> ?_))))))))))))
 refine lr (fun u3 hu3=>sv rfl (A3 (D5 ?_)))
 cases h
 exact B0 (.inr rfl) (E4 (E1 rfl) N9) (.refl _)
 refine B3 (lr (fun u4 hu4=>sd rfl (E0 rfl G_hit rfl rfl) (sv rfl (bs h fun v2 hv2 h=>C9 rfl rfl A4 (A2y _ _ _ hv2) (.inl rfl) (sv rfl (A3 (D5 ?_)))))))
 cases h
 exact B0 (.inr rfl) (E4 (E1 rfl) N9) (.refl _)
noncomputable def A15 (p1:Int):Option Bool:=
  some (p1 !=p1)
theorem A72 (p1:Int)(r:Bool)(h:A15 p1=some r):PCall Try.prog 98 [(i64 p1)] (bo r):=by
 refine G2 (fk Try.func98 Try.ntmps98 m0 (by with_unfolding_all rfl)) (nl rfl) ?_
 unfold A15 at h
 refine A9 (s0:=⟨T [(0,(.d _))],G []⟩) (sbr rfl rfl) ?_
 refine lr (fun u1 hu1=>sv rfl (A3 (lr (fun u2 hu2=>sv rfl (sv rfl (sv rfl (sv rfl (A3 (D5 ?_)))))))))
 cases h
 exact B0 (.inr rfl) (E4 (E1 rfl) N9) (.refl _)
noncomputable def A16 (p1:Int)(p2:Int):Option Int:=
  (A15 p1).bind fun v1=>(A15 p2).bind fun v2=>cond v1 (cond v2 (some 0) (some (-1))) (cond v2 (some 1) (cond (decide (p1<p2)) (some (-1)) (cond (decide (p1>p2)) (some 1) (some 0))))
theorem B08 (p1:Int)(p2:Int)(r:Int)(h:A16 p1 p2=some r):PCall Try.prog 69 [(i64 p1),(i64 p2)] (i64 r):=by
 refine G2 (fk Try.func69 Try.ntmps69 m0 (by with_unfolding_all rfl)) (nl rfl) ?_
 unfold A16 at h
 refine A9 (s0:=⟨T [(0,(.d _)),(1,(.d _))],G []⟩) (sbr rfl rfl) ?_
 refine lr (fun u1 hu1=>sv rfl (A3 (lr (fun u2 hu2=>sv rfl (bs h fun v1 hv1 h=>C9 rfl rfl A4 (A72 _ _ hv1) (.inl rfl) (sv rfl (A3 (lr (fun u3 hu3=>sv rfl (bs h fun v2 hv2 h=>C9 rfl rfl A4 (A72 _ _ hv2) (.inl rfl) (sv rfl (A3 (A8 (lr (fun u4 hu4=>sv rfl (A3 (cc rfl h (fun c1 h=> ?_) (fun c1 h=> ?_))))))))))))))))))
 refine A8 (lr (fun u5 hu5=>sv rfl (A3 (cc rfl h (fun c2 h=> ?_) (fun c2 h=> ?_)))))
 refine lr (fun u6 hu6=>sv rfl (A3 (D5 ?_)))
 cases h
 exact B0 (.inr rfl) (E4 (E1 rfl) N9) (.refl _)
 refine B3 (lr (fun u7 hu7=>sv rfl (A3 (D5 ?_))))
 cases h
 exact B0 (.inr rfl) (E4 (E1 rfl) N9) (.refl _)
 refine B3 (A8 (lr (fun u8 hu8=>sv rfl (A3 (cc rfl h (fun c3 h=> ?_) (fun c3 h=> ?_))))))
 refine lr (fun u9 hu9=>sv rfl (A3 (D5 ?_)))
 cases h
 exact B0 (.inr rfl) (E4 (E1 rfl) N9) (.refl _)
 refine B3 (A8 (lr (fun u10 hu10=>sv rfl (sv rfl (sv rfl (A3 (cc rfl h (fun c4 h=> ?_) (fun c4 h=> ?_))))))))
 refine lr (fun u11 hu11=>sv rfl (A3 (D5 ?_)))
 cases h
 exact B0 (.inr rfl) (E4 (E1 rfl) N9) (.refl _)
 refine B3 (A8 (lr (fun u12 hu12=>sv rfl (sv rfl (sv rfl (A3 (cc rfl h (fun c5 h=> ?_) (fun c5 h=> ?_))))))))
 refine lr (fun u13 hu13=>sv rfl (A3 (D5 ?_)))
 cases h
 exact B0 (.inr rfl) (E4 (E1 rfl) N9) (.refl _)
 refine B3 (lr (fun u14 hu14=>sv rfl (A3 (D5 ?_))))
 cases h
 exact B0 (.inr rfl) (E4 (E1 rfl) N9) (.refl _)
noncomputable def A2z (p1:Int):Option Bool:=
  some (p1 !=p1)
theorem A8v (p1:Int)(r:Bool)(h:A2z p1=some r):PCall Try.prog 99 [(i64 p1)] (bo r):=by
 refine G2 (fk Try.func99 Try.ntmps99 m0 (by with_unfolding_all rfl)) (nl rfl) ?_
 unfold A2z at h
 refine A9 (s0:=⟨T [(0,(.d _))],G []⟩) (sbr rfl rfl) ?_
 refine lr (fun u1 hu1=>sv rfl (A3 (lr (fun u2 hu2=>sv rfl (sv rfl (sv rfl (sv rfl (A3 (D5 ?_)))))))))
 cases h
 exact B0 (.inr rfl) (E4 (E1 rfl) N9) (.refl _)
noncomputable def A2e (p1:Int)(p2:Int):Option Int:=
  (A2z p1).bind fun v1=>(A2z p2).bind fun v2=>cond v1 (cond v2 (some 0) (some (-1))) (cond v2 (some 1) (cond (decide (p1<p2)) (some (-1)) (cond (decide (p1>p2)) (some 1) (some 0))))
theorem B1t (p1:Int)(p2:Int)(r:Int)(h:A2e p1 p2=some r):PCall Try.prog 70 [(i64 p1),(i64 p2)] (i64 r):=by
 refine G2 (fk Try.func70 Try.ntmps70 m0 (by with_unfolding_all rfl)) (nl rfl) ?_
 unfold A2e at h
 refine A9 (s0:=⟨T [(0,(.d _)),(1,(.d _))],G []⟩) (sbr rfl rfl) ?_
 refine lr (fun u1 hu1=>sv rfl (A3 (lr (fun u2 hu2=>sv rfl (bs h fun v1 hv1 h=>C9 rfl rfl A4 (A8v _ _ hv1) (.inl rfl) (sv rfl (A3 (lr (fun u3 hu3=>sv rfl (bs h fun v2 hv2 h=>C9 rfl rfl A4 (A8v _ _ hv2) (.inl rfl) (sv rfl (A3 (A8 (lr (fun u4 hu4=>sv rfl (A3 (cc rfl h (fun c1 h=> ?_) (fun c1 h=> ?_))))))))))))))))))
 refine A8 (lr (fun u5 hu5=>sv rfl (A3 (cc rfl h (fun c2 h=> ?_) (fun c2 h=> ?_)))))
 refine lr (fun u6 hu6=>sv rfl (A3 (D5 ?_)))
 cases h
 exact B0 (.inr rfl) (E4 (E1 rfl) N9) (.refl _)
 refine B3 (lr (fun u7 hu7=>sv rfl (A3 (D5 ?_))))
 cases h
 exact B0 (.inr rfl) (E4 (E1 rfl) N9) (.refl _)
 refine B3 (A8 (lr (fun u8 hu8=>sv rfl (A3 (cc rfl h (fun c3 h=> ?_) (fun c3 h=> ?_))))))
 refine lr (fun u9 hu9=>sv rfl (A3 (D5 ?_)))
 cases h
 exact B0 (.inr rfl) (E4 (E1 rfl) N9) (.refl _)
 refine B3 (A8 (lr (fun u10 hu10=>sv rfl (sv rfl (sv rfl (A3 (cc rfl h (fun c4 h=> ?_) (fun c4 h=> ?_))))))))
 refine lr (fun u11 hu11=>sv rfl (A3 (D5 ?_)))
 cases h
 exact B0 (.inr rfl) (E4 (E1 rfl) N9) (.refl _)
 refine B3 (A8 (lr (fun u12 hu12=>sv rfl (sv rfl (sv rfl (A3 (cc rfl h (fun c5 h=> ?_) (fun c5 h=> ?_))))))))
 refine lr (fun u13 hu13=>sv rfl (A3 (D5 ?_)))
 cases h
 exact B0 (.inr rfl) (E4 (E1 rfl) N9) (.refl _)
 refine B3 (lr (fun u14 hu14=>sv rfl (A3 (D5 ?_))))
 cases h
 exact B0 (.inr rfl) (E4 (E1 rfl) N9) (.refl _)
end Go.Abs.Roads
