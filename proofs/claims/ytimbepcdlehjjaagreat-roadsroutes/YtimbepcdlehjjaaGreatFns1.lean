/-
  The Go functions that RoadsRoutes reaches, as plain Lean functions, and the proofs that the program computes them.
-/
import Derived.Test.YtimbepcdlehjjaaGreatCoreD
import Derived.Test.YtimbepcdlehjjaaGreatProg
import Derived.KernelRfl
import Derived.IntWalk
set_option maxRecDepth 20000
set_option maxHeartbeats 4000000
set_option linter.unusedVariables false
namespace Go.Abs.Roadsz
open Go Go.Abs Go.Proofs
attribute [local irreducible] A01 C73 AWL
structure Spot where
  X:Int
  Y:Int
  deriving Inhabited
structure CurveVector where
  x:Int
  y:Int
  deriving Inhabited
structure CurvePiece where
  p:Spot
  v:CurveVector
  l:Int
  start:Int
  deriving Inhabited
abbrev A2x:Spot→List D:=fun x=> [(i64 x.X),(i64 x.Y)]
structure Curve where
  Pts:(List Spot)
  deriving Inhabited
abbrev D1d:Curve→List D:=fun x=> [(.list (List.map A2x x.Pts))]
abbrev A5:Int→List D:=fun x=> [.v (.int .i64 x)]
structure Part where
  Lane_:Int
  From:Int
  To:Int
  Rank:Int
  deriving Inhabited
abbrev R3:Part→List D:=fun x=> [(i64 x.Lane_),(i64 x.From),(i64 x.To),(i64 x.Rank)]
structure Phase where
  Ticks:Int
  Green:(List Int)
  deriving Inhabited
abbrev A5k:Phase→List D:=fun x=> [(i64 x.Ticks),(.list (List.map A5 x.Green))]
structure Lane where
  Kind:Int
  Curve_:Curve
  Half:Int
  Limit:Int
  Next:(List Int)
  deriving Inhabited
structure Zone where
  Parts:(List Part)
  Signal_:Int
  deriving Inhabited
structure Signal where
  Offset:Int
  Phases:(List Phase)
  deriving Inhabited
structure Work where
  Lane_:Int
  From:Int
  To:Int
  Begin:Int
  End:Int
  Limit:Int
  deriving Inhabited
structure Map where
  Version:Int
  Lanes:(List Lane)
  Zones:(List Zone)
  Signals:(List Signal)
  Works:(List Work)
  deriving Inhabited
abbrev B1d:Lane→List D:=fun x=> [(i64 x.Kind),(.list (List.map A2x x.Curve_.Pts)),(i64 x.Half),(i64 x.Limit),(.list (List.map A5 x.Next))]
abbrev A0g:Zone→List D:=fun x=> [(.list (List.map R3 x.Parts)),(i64 x.Signal_)]
abbrev B04:Signal→List D:=fun x=> [(i64 x.Offset),(.list (List.map A5k x.Phases))]
abbrev B7b:Work→List D:=fun x=> [(i64 x.Lane_),(i64 x.From),(i64 x.To),(i64 x.Begin),(i64 x.End),(i64 x.Limit)]
abbrev A0s:Map→List D:=fun x=> [(i64 x.Version),(.list (List.map B1d x.Lanes)),(.list (List.map A0g x.Zones)),(.list (List.map B04 x.Signals)),(.list (List.map B7b x.Works))]
abbrev D2x:(List Lane)→List D:=fun x=> [.list (List.map B1d x)]
abbrev D2y:(List Spot)→List D:=fun x=> [.list (List.map A2x x)]
abbrev C5z:(List Int)→List D:=fun x=> [.list (List.map A5 x)]
abbrev D2z:(List Zone)→List D:=fun x=> [.list (List.map A0g x)]
abbrev D30:(List Part)→List D:=fun x=> [.list (List.map R3 x)]
abbrev C85:(List Signal)→List D:=fun x=> [.list (List.map B04 x)]
abbrev D0c:(List Phase)→List D:=fun x=> [.list (List.map A5k x)]
abbrev D31:(List Work)→List D:=fun x=> [.list (List.map B7b x)]
structure RoadsWay where
  Map_:Map
  lanes:(List Int)
  starts:(List Int)
  length:Int
  deriving Inhabited
abbrev eFn:Nat→List D:=fun x=> [.fn (.func x) [] []]
structure RoadsCheck where
  Map_:Map
  deriving Inhabited
abbrev D5n:(Int×Int×Int)→List D:=fun x=> [(i64 x.1),(i64 x.2.1),(i64 x.2.2)]
structure Clash where
  Kind:Int
  Zone_:Int
  A:Int
  B:Int
  deriving Inhabited
abbrev M8:Clash→List D:=fun x=> [(i64 x.Kind),(i64 x.Zone_),(i64 x.A),(i64 x.B)]
structure Pass where
  Zone_:Int
  Part_:Int
  From:Int
  To:Int
  deriving Inhabited
abbrev J1:Pass→List D:=fun x=> [(i64 x.Zone_),(i64 x.Part_),(i64 x.From),(i64 x.To)]
structure Anon7 where
  x:Int
  y:Int
  signed:Bool
  code:Int
  deriving Inhabited
structure RuntimeBoundsError where
  x:Int
  y:Int
  signed:Bool
  code:Int
  deriving Inhabited
structure Anon13 where
  msg:ByteArray
  addr:Int
  deriving Inhabited
structure RuntimeErrorAddressString where
  msg:ByteArray
  addr:Int
  deriving Inhabited
structure Anon26 where
  Version:Int
  Lanes:(List Lane)
  Zones:(List Zone)
  Signals:(List Signal)
  Works:(List Work)
  deriving Inhabited
structure Edit where
  Kind:Int
  Table:Int
  At:Int
  Lane_:Lane
  Zone_:Zone
  Signal_:Signal
  Work_:Work
  deriving Inhabited
structure Anon35 where
  Base:Int
  Edits:(List Edit)
  deriving Inhabited
structure Patch where
  Base:Int
  Edits:(List Edit)
  deriving Inhabited
structure Anon38 where
  Pts:(List Spot)
  deriving Inhabited
structure Anon41 where
  Kind:Int
  Curve_:Curve
  Half:Int
  Limit:Int
  Next:(List Int)
  deriving Inhabited
structure Anon44 where
  Parts:(List Part)
  Signal_:Int
  deriving Inhabited
structure Anon47 where
  Offset:Int
  Phases:(List Phase)
  deriving Inhabited
structure Anon49 where
  Lane_:Int
  From:Int
  To:Int
  Begin:Int
  End:Int
  Limit:Int
  deriving Inhabited
structure Anon51 where
  Kind:Int
  Table:Int
  At:Int
  Lane_:Lane
  Zone_:Zone
  Signal_:Signal
  Work_:Work
  deriving Inhabited
structure Anon90 where
  Lane_:Int
  From:Int
  To:Int
  Rank:Int
  deriving Inhabited
structure Anon92 where
  Kind:Int
  Zone_:Int
  A:Int
  B:Int
  deriving Inhabited
structure Anon94 where
  Zone_:Int
  Part_:Int
  From:Int
  To:Int
  deriving Inhabited
structure Anon96 where
  Ticks:Int
  Green:(List Int)
  deriving Inhabited
structure Anon104 where
  Map_:Map
  deriving Inhabited
structure Anon144 where
  b:(List Int)
  deriving Inhabited
structure RoadsWriter where
  b:(List Int)
  deriving Inhabited
structure Anon147 where
  X:Int
  Y:Int
  deriving Inhabited
structure Anon153 where
  s:ByteArray
  short:Bool
  deriving Inhabited
structure RoadsReader where
  s:ByteArray
  short:Bool
  deriving Inhabited
structure Anon168 where
  Map_:Map
  lanes:(List Int)
  starts:(List Int)
  length:Int
  deriving Inhabited
structure Anon186 where
  s:ByteArray
  bad:Bool
  deriving Inhabited
structure Ref03Reader where
  s:ByteArray
  bad:Bool
  deriving Inhabited
structure Anon225 where
  FromA:Int
  ToA:Int
  FromB:Int
  ToB:Int
  deriving Inhabited
structure Cross where
  FromA:Int
  ToA:Int
  FromB:Int
  ToB:Int
  deriving Inhabited
structure Anon252 where
  x:Int
  y:Int
  deriving Inhabited
structure Anon279 where
  p:Spot
  v:CurveVector
  l:Int
  start:Int
  deriving Inhabited
structure Anon282 where
  piece:CurvePiece
  half:Int
  ends:(Int×Int)
  deriving Inhabited
structure CurveCorridor where
  piece:CurvePiece
  half:Int
  ends:(Int×Int)
  deriving Inhabited
structure Anon290 where
  p:Spot
  v:Spot
  l:Int
  h:Int
  s:Int
  t:Int
  deriving Inhabited
structure Ref01Stripe where
  p:Spot
  v:Spot
  l:Int
  h:Int
  s:Int
  t:Int
  deriving Inhabited
abbrev C86:RoadsWay→List D:=fun x=> [(i64 x.Map_.Version),(.list (List.map B1d x.Map_.Lanes)),(.list (List.map A0g x.Map_.Zones)),(.list (List.map B04 x.Map_.Signals)),(.list (List.map B7b x.Map_.Works)),(.list (List.map A5 x.lanes)),(.list (List.map A5 x.starts)),(i64 x.length)]
abbrev W5:RoadsWay→List AV:=fun x=> [(.d (i64 x.Map_.Version)),(.d (.list (List.map B1d x.Map_.Lanes))),(.d (.list (List.map A0g x.Map_.Zones))),(.d (.list (List.map B04 x.Map_.Signals))),(.d (.list (List.map B7b x.Map_.Works))),(.d (.list (List.map A5 x.lanes))),(.d (.list (List.map A5 x.starts))),(.d (i64 x.length))]
abbrev D4u:Work→List AV:=fun x=> [(.d (i64 x.Lane_)),(.d (i64 x.From)),(.d (i64 x.To)),(.d (i64 x.Begin)),(.d (i64 x.End)),(.d (i64 x.Limit))]
abbrev C3g:CurvePiece→List D:=fun x=> [(i64 x.p.X),(i64 x.p.Y),(i64 x.v.x),(i64 x.v.y),(i64 x.l),(i64 x.start)]
abbrev C3h:CurvePiece→List AV:=fun x=> [(.d (i64 x.p.X)),(.d (i64 x.p.Y)),(.d (i64 x.v.x)),(.d (i64 x.v.y)),(.d (i64 x.l)),(.d (i64 x.start))]
abbrev A09:Map→List AV:=fun x=> [(.d (i64 x.Version)),(.d (.list (List.map B1d x.Lanes))),(.d (.list (List.map A0g x.Zones))),(.d (.list (List.map B04 x.Signals))),(.d (.list (List.map B7b x.Works)))]
abbrev B1e:Lane→List AV:=fun x=> [(.d (i64 x.Kind)),(.d (.list (List.map A2x x.Curve_.Pts))),(.d (i64 x.Half)),(.d (i64 x.Limit)),(.d (.list (List.map A5 x.Next)))]
abbrev B10:Part→List AV:=fun x=> [(.d (i64 x.Lane_)),(.d (i64 x.From)),(.d (i64 x.To)),(.d (i64 x.Rank))]
noncomputable def A6o (p1:Map)(x3:Int)(x4:Int):Option (Stp Int (Sum Unit Bool)):=
  (F3 p1.Signals x3).bind fun v5=>cond (decide (x4< (v5.Phases.length:Int))) ((F3 p1.Signals x3).bind fun v6=>(F3 v6.Phases x4).bind fun v7=>cond (decide ((v7.Green.length:Int)>14)) (some (.out (.inr false))) (some (.go (w64 (x4+1))))) (some (.out (.inl ())))
noncomputable def A6p (p1:Map)(x3:Int):Option (Stp Int (Sum Unit Bool)):=
  cond (decide (x3< (p1.Signals.length:Int))) ((F3 p1.Signals x3).bind fun v4=>cond (decide ((v4.Phases.length:Int)>8)) (some (.out (.inr false))) (thenS (loop (A6o p1 x3) 0) (fun _=>some (.go (w64 (x3+1)))) (fun r=>some (.out (.inr r))))) (some (.out (.inl ())))
noncomputable def A6q (p1:Map)(x2:Int):Option (Stp Int (Sum Unit Bool)):=
  cond (decide (x2< (p1.Zones.length:Int))) ((F3 p1.Zones x2).bind fun v3=>cond (decide ((v3.Parts.length:Int)>8)) (some (.out (.inr false))) (some (.go (w64 (x2+1))))) (some (.out (.inl ())))
noncomputable def A6r (p1:Map)(x1:Int):Option (Stp Int (Sum Unit Bool)):=
  cond (decide (x1< (p1.Lanes.length:Int))) ((F3 p1.Lanes x1).bind fun v1=>((cond (!(decide ((v1.Curve_.Pts.length:Int)>18))) (F3 p1.Lanes x1) (some default))).bind fun v2=>cond ((decide ((v1.Curve_.Pts.length:Int)>18))||(decide ((v2.Next.length:Int)>5))) (some (.out (.inr false))) (some (.go (w64 (x1+1))))) (some (.out (.inl ())))
noncomputable def B1f (p1:Map):Option Bool:=
  cond ((((decide ((p1.Lanes.length:Int)>14))||(decide ((p1.Zones.length:Int)>14)))||(decide ((p1.Signals.length:Int)>6)))||(decide ((p1.Works.length:Int)>10))) (some false) (thenS (loop (A6r p1) 0) (fun _=>thenS (loop (A6q p1) 0) (fun _=>thenS (loop (A6p p1) 0) (fun _=>some true) (fun r=>some r)) (fun r=>some r)) (fun r=>some r))
theorem C27 (p1:Map)(r:Bool)(h:B1f p1=some r):PCall Tryz.prog 13 [(.agg (A0s p1))] (bo r):=by
 refine E1 (fk Tryz.func13 Tryz.ntmps13 m0 (by with_unfolding_all rfl)) (nl rfl) ?_
 unfold B1f at h
 refine A9 (s0:=⟨T [(0,(.d _))],G []⟩) (sbr rfl rfl) ?_
 refine lr (fun u1 hu1=>sn rfl rfl (sv rfl (A3 (A7 (lr (fun u2 hu2=>sp rfl rfl (sl rfl G_hit rfl (sd rfl (F1 rfl) (sv rfl (sv rfl (gp rfl (A0f rfl) (fun _=>rfl) (gf rfl (vl rfl G_hit rfl) (gf rfl (fun w3=>(F1 (A6 w3))) (gf rfl (vb rfl rfl rfl) (sd rfl (A4j rfl rfl (fun hc=>A6 (R5 hc))) (sv rfl (gp rfl (A0f rfl) (fun _=>rfl) (gf rfl (vl rfl G_hit rfl) (gf rfl (fun w7=>(F1 (A6 w7))) (gf rfl (vb rfl rfl rfl) (sd rfl (A4j rfl rfl (fun hc=>A6 (R5 hc))) (sv rfl (gp rfl (A0f rfl) (fun _=>rfl) (gf rfl (vl rfl G_hit rfl) (gf rfl (fun w11=>(F1 (A6 w11))) (gf rfl (vb rfl rfl rfl) (sd rfl (A4j rfl rfl (fun hc=>A6 (R5 hc))) (A3 (cc rfl h (fun c1 h=> ?_) (fun c1 h=> ?_))))))))))))))))))))))))))))))
 refine A7 (A9 (s0:=⟨T [],G []⟩) (sbr rfl rfl) ?_)
 refine B8 fun u3 hu3=>sv rfl (A3 (B5 ?_))
 cases h
 exact B0 (.inr rfl) (C1 (B4 rfl) I6) (.refl _)
 refine B3 (A7 (A7 (A9 (s0:=⟨T [(1,(.ptr _ _))],G [((1,u1),some (.box 27 _))]⟩) (sbr rfl rfl) ?_)))
 refine B8 fun u4 hu4=>sv rfl (A3 (js h fun z1 hz1 h=>F2 (fun s=> ∃(y1:Unit) (g1:Unit),z1= .inl y1∧Sb ⟨T [(1,(.ptr (1,u1) 0))],G [((1,u1),some (.box 27 (A09 p1)))]⟩ s) ?_ ?_))
 refine A8 (F0 (A6r p1) (fun (x1:Int) (g2:Unit)=>⟨T [(1,(.ptr (1,u1) 0)),(3,(di x1))],G [((1,u1),some (.box 27 (A09 p1)))]⟩) 0 () _ hz1 (sbr rfl rfl) ?_)
 intro x1 g2 z2 hz2 ez2
 unfold A6r at hz2
 refine A7 (lr (fun u5 hu5=>sv rfl (sp rfl rfl (sl rfl G_hit rfl (sd rfl (F1 rfl) (sv rfl (A3 (cc rfl hz2 (fun c2 hz2=> ?_) (fun c2 hz2=> ?_)))))))))
 refine B3 (A7 (A8 (lr (fun u6 hu6=>sp rfl rfl (sl rfl G_hit rfl (sv rfl (bs hz2 fun v1 hv1 hz2=>sd rfl (G6 rfl rfl hv1 rfl) (sv rfl (sv rfl (sd rfl (E9 rfl hv1 rfl) (sd rfl (F1 rfl) (sv rfl (sv rfl (gp rfl (A0f rfl) (fun _=>rfl) (gf rfl (vl rfl G_hit rfl) (gf rfl (fun _=>rfl) (bs hz2 fun v2 hv2 hz2=>gf rfl (fun w16=>(G6 (A6 w16) (A6 w16) (E8 w16 hv2) rfl)) ?_)))))))))))))))))
 refine gf rfl (fun w17=>(by simp only [A6 w17];rfl)) ?_
 refine gf rfl (fun w18=>(E9 (A6 w18) (E8 w18 hv2) rfl)) (gf rfl (fun w19=>(F1 (A6 w19))) (gf rfl (vb rfl rfl rfl) (sd rfl (A4j rfl rfl (fun hc=>A6 (R5 hc))) (A3 (cc rfl hz2 (fun c3 hz2=> ?_) (fun c3 hz2=> ?_))))))
 refine A7 (A9 (s0:=⟨T [],G []⟩) (sbr rfl rfl) ?_)
 refine B8 fun u7 hu7=>sv rfl (A3 (B5 ?_))
 cases hz2
 obtain rfl:=ez2 _ rfl
 refine ⟨nofun,F8 ?_⟩
 rw [Sum.elim_inr]at h
 cases h
 exact B0 (.inr rfl) (C1 (B4 rfl) I6) (.refl _)
 refine B3 (H9 (A9 (s0:=⟨T [(1,(.ptr _ _)),(3,(.d _))],G [((1,u1),some (.box 27 _))]⟩) (sbr rfl rfl) ?_))
 refine B8 fun u8 hu8=>sv rfl (sv rfl (sv rfl (A3 (H4 ?_))))
 cases hz2
 exact ⟨rfl,(),(sbr rfl rfl)⟩
 refine C6 rfl ?_
 cases hz2
 obtain rfl:=ez2 _ rfl
 refine ⟨nofun,C2 rfl (l_j ?_)⟩
 exact ⟨_,(),rfl,(sbr rfl rfl)⟩
 rintro _ ⟨y1,g1,rfl,q1⟩
 rw [Sum.elim_inl]at h
 refine A9 q1 (A7 (lr (fun u9 hu9=>sv rfl (A3 (js h fun z3 hz3 h=>F2 (fun s=> ∃(y2:Unit) (g3:Unit),z3= .inl y2∧Sb ⟨T [(1,(.ptr (1,u1) 0))],G [((1,u1),some (.box 27 (A09 p1)))]⟩ s) ?_ ?_)))))
 refine A8 (F0 (A6q p1) (fun (x2:Int) (g4:Unit)=>⟨T [(1,(.ptr (1,u1) 0)),(4,(di x2))],G [((1,u1),some (.box 27 (A09 p1)))]⟩) 0 () _ hz3 (sbr rfl rfl) ?_)
 intro x2 g4 z4 hz4 ez4
 unfold A6q at hz4
 refine A7 (lr (fun u10 hu10=>sv rfl (sp rfl rfl (sl rfl G_hit rfl (sd rfl (F1 rfl) (sv rfl (A3 (cc rfl hz4 (fun c4 hz4=> ?_) (fun c4 hz4=> ?_)))))))))
 refine B3 (A7 (A8 (lr (fun u11 hu11=>sp rfl rfl (sl rfl G_hit rfl (sv rfl (bs hz4 fun v3 hv3 hz4=>sd rfl (G6 rfl rfl hv3 rfl) (sv rfl (sd rfl (E9 rfl hv3 rfl) (sd rfl (F1 rfl) (sv rfl (A3 (cc rfl hz4 (fun c5 hz4=> ?_) (fun c5 hz4=> ?_))))))))))))))
 refine lr (fun u12 hu12=>sv rfl (A3 (B5 ?_)))
 cases hz4
 obtain rfl:=ez4 _ rfl
 refine ⟨nofun,F8 ?_⟩
 rw [Sum.elim_inr]at h
 cases h
 exact B0 (.inr rfl) (C1 (B4 rfl) I6) (.refl _)
 refine B3 (H9 (B8 fun u13 hu13=>sv rfl (sv rfl (sv rfl (A3 (H4 ?_))))))
 cases hz4
 exact ⟨rfl,(),(sbr rfl rfl)⟩
 refine C6 rfl ?_
 cases hz4
 obtain rfl:=ez4 _ rfl
 refine ⟨nofun,C2 rfl (l_j ?_)⟩
 exact ⟨_,(),rfl,(sbr rfl rfl)⟩
 rintro _ ⟨y2,g3,rfl,q2⟩
 rw [Sum.elim_inl]at h
 refine A9 q2 (A7 (lr (fun u14 hu14=>sv rfl (A3 (js h fun z5 hz5 h=>F2 (fun s=> ∃(y3:Unit) (g5:Unit),z5= .inl y3∧Sb ⟨T [],G []⟩ s) ?_ ?_)))))
 refine A8 (F0 (A6p p1) (fun (x3:Int) (g6:Unit)=>⟨T [(1,(.ptr (1,u1) 0)),(5,(di x3))],G [((1,u1),some (.box 27 (A09 p1)))]⟩) 0 () _ hz5 (sbr rfl rfl) ?_)
 intro x3 g6 z6 hz6 ez6
 unfold A6p at hz6
 refine A7 (lr (fun u15 hu15=>sv rfl (sp rfl rfl (sl rfl G_hit rfl (sd rfl (F1 rfl) (sv rfl (A3 (cc rfl hz6 (fun c6 hz6=> ?_) (fun c6 hz6=> ?_)))))))))
 refine B3 (A7 (A8 (A7 (lr (fun u16 hu16=>sp rfl rfl (sl rfl G_hit rfl (sv rfl (bs hz6 fun v4 hv4 hz6=>sd rfl (G6 rfl rfl hv4 rfl) (sv rfl (sd rfl (E9 rfl hv4 rfl) (sd rfl (F1 rfl) (sv rfl (A3 (cc rfl hz6 (fun c7 hz6=> ?_) (fun c7 hz6=> ?_)))))))))))))))
 refine lr (fun u17 hu17=>sv rfl (A3 (B5 ?_)))
 cases hz6
 obtain rfl:=ez6 _ rfl
 refine ⟨nofun,F8 ?_⟩
 rw [Sum.elim_inr]at h
 cases h
 exact B0 (.inr rfl) (C1 (B4 rfl) I6) (.refl _)
 refine B3 (lr (fun u18 hu18=>sv rfl (A3 (js hz6 fun z7 hz7 hz6=>F2 (fun s=> ∃(y4:Unit) (g7:Unit),z7= .inl y4∧Sb ⟨T [(1,(.ptr (1,u1) 0)),(5,(di x3))],G [((1,u1),some (.box 27 (A09 p1)))]⟩ s) ?_ ?_))))
 refine A8 (F0 (A6o p1 x3) (fun (x4:Int) (g8:Unit)=>⟨T [(1,(.ptr (1,u1) 0)),(5,(di x3)),(6,(di x4))],G [((1,u1),some (.box 27 (A09 p1)))]⟩) 0 () _ hz7 (sbr rfl rfl) ?_)
 intro x4 g8 z8 hz8 ez8
 unfold A6o at hz8
 refine A7 (lr (fun u19 hu19=>sv rfl (sp rfl rfl (sl rfl G_hit rfl (sv rfl (bs hz8 fun v5 hv5 hz8=>sd rfl (G6 rfl rfl hv5 rfl) (sv rfl (sd rfl (E9 rfl hv5 rfl) (sd rfl (F1 rfl) (sv rfl (A3 (cc rfl hz8 (fun c8 hz8=> ?_) (fun c8 hz8=> ?_)))))))))))))
 refine B3 (A7 (A8 (lr (fun u20 hu20=>sp rfl rfl (sl rfl G_hit rfl (sv rfl (bs hz8 fun v6 hv6 hz8=>sd rfl (G6 rfl rfl hv6 rfl) (sv rfl (sd rfl (E9 rfl hv6 rfl) (sv rfl (bs hz8 fun v7 hv7 hz8=>sd rfl (G6 rfl rfl hv7 rfl) (sv rfl (sd rfl (E9 rfl hv7 rfl) (sd rfl (F1 rfl) (sv rfl (A3 (cc rfl hz8 (fun c9 hz8=> ?_) (fun c9 hz8=> ?_))))))))))))))))))
 refine A7 (A9 (s0:=⟨T [],G []⟩) (sbr rfl rfl) ?_)
 refine B8 fun u21 hu21=>sv rfl (A3 (B5 ?_))
 cases hz8
 obtain rfl:=ez8 _ rfl
 refine ⟨nofun,F8 ?_⟩
 rw [Sum.elim_inr]at hz6
 cases hz6
 obtain rfl:=ez6 _ rfl
 refine ⟨nofun,F8 ?_⟩
 rw [Sum.elim_inr]at h
 cases h
 exact B0 (.inr rfl) (C1 (B4 rfl) I6) (.refl _)
 refine B3 (H9 (A9 (s0:=⟨T [(1,(.ptr _ _)),(5,(.d _)),(6,(.d _))],G [((1,u1),some (.box 27 _))]⟩) (sbr rfl rfl) ?_))
 refine B8 fun u22 hu22=>sv rfl (sv rfl (sv rfl (A3 (H4 ?_))))
 cases hz8
 exact ⟨rfl,(),(sbr rfl rfl)⟩
 refine C6 rfl ?_
 cases hz8
 obtain rfl:=ez8 _ rfl
 refine ⟨nofun,C2 rfl (l_j ?_)⟩
 exact ⟨_,(),rfl,(sbr rfl rfl)⟩
 rintro _ ⟨y4,g7,rfl,q3⟩
 rw [Sum.elim_inl]at hz6
 refine H9 (A9 q3 (B8 fun u23 hu23=>sv rfl (sv rfl (sv rfl (A3 (H4 ?_))))))
 cases hz6
 exact ⟨rfl,(),(sbr rfl rfl)⟩
 refine C6 rfl ?_
 cases hz6
 obtain rfl:=ez6 _ rfl
 refine ⟨nofun,C2 rfl (l_j ?_)⟩
 exact ⟨_,(),rfl,(sbr rfl rfl)⟩
 rintro _ ⟨y3,g5,rfl,q4⟩
 rw [Sum.elim_inl]at h
 refine A9 q4 (lr (fun u24 hu24=>sv rfl (A3 (B5 ?_))))
 cases h
 exact B0 (.inr rfl) (C1 (B4 rfl) I6) (.refl _)
noncomputable def A7y (p4:(List Int))(x1:(Int×Lane)):Option (Stp (Int×Lane) Lane):=
  cond (decide ((w64 (x1.1+1))< (p4.length:Int))) ((F3 p4 x1.1).bind fun v1=>(F3 p4 (w64 (x1.1+1))).bind fun v2=>(B18 x1.2.Curve_.Pts [(Spot.mk v1 v2)]).bind fun v3=>some (.go ((w64 (x1.1+2)),(Lane.mk x1.2.Kind (Curve.mk v3) x1.2.Half x1.2.Limit x1.2.Next)))) (some (.out x1.2))
noncomputable def B27 (p1:Int)(p2:Int)(p3:(List Int))(p4:(List Int)):Option Lane:=
  (loop (A7y p4) (0,(Lane.mk p1 (Curve.mk []) 1500 p2 p3))).bind fun y1=>cond (p1==3) (some (Lane.mk y1.Kind y1.Curve_ 500 y1.Limit y1.Next)) (some y1)
theorem B7c (p1:Int)(p2:Int)(p3:(List Int))(p4:(List Int))(r:Lane)(h:B27 p1 p2 p3 p4=some r):PCall Tryz.prog 115 [(i64 p1),(i64 p2),(.list (List.map A5 p3)),(.list (List.map A5 p4))] (.agg (B1d r)):=by
 refine E1 (fk Tryz.func115 Tryz.ntmps115 (fun r=>if r==5 then [1013]else []) (by with_unfolding_all rfl)) (nl rfl) ?_
 unfold B27 at h
 refine A9 (s0:=⟨T [(0,(.d _)),(1,(.d _)),(2,(.d _)),(3,(.d _))],G []⟩) (sbr rfl rfl) ?_
 refine lr (fun u1 hu1=>sn rfl rfl (A3 (lr (fun u2 hu2=>sv rfl (sv rfl (sv rfl (sv rfl (sn rfl rfl (sst rfl G_hit [(di p1),(.d .nilS),(di 1500),(di p2),(dl A5 p3)] rfl (A3 (A7 (lr (fun u3 hu3=>sv rfl (A3 (bs h fun y1 hy1 h=>F2 (fun s=> ∃g1:Nat,Sb ⟨T [(0,(di p1)),(8,(.ptr (8,u1) 0)),(9,(.ptr (9,u2) 0))],G [((8,u1),some (.box 42 (((zs 4).set 1 (.d .nilS))++ [(.d .nilS)]))),((9,u2),some (.box 42 ((B1e y1).set 1 (oS y1.Curve_.Pts (36,g1))))),((36,g1),oB 148 2 A2x y1.Curve_.Pts)]⟩ s) ?_ ?_)))))))))))))))
 refine A8 (F0 (A7y p4) (fun (x1:(Int×Lane)) (g2:Nat)=>⟨T [(0,(di p1)),(3,(dl A5 p4)),(8,(.ptr (8,u1) 0)),(9,(.ptr (9,u2) 0)),(10,(di x1.1))],G [((8,u1),some (.box 42 (((zs 4).set 1 (.d .nilS))++ [(.d .nilS)]))),((9,u2),some (.box 42 ((B1e x1.2).set 1 (oS x1.2.Curve_.Pts (36,g2))))),((36,g2),oB 148 2 A2x x1.2.Curve_.Pts)]⟩) (0,(Lane.mk p1 (Curve.mk []) 1500 p2 p3)) 0 _ hy1 (J0 ⟨.of rfl, .of rfl, .of rfl, .of rfl, .of rfl,trivial⟩ (sg rfl (B6 G_hit (.of rfl) (A3f trivial)))) ?_)
 intro x1 g2 z1 hz1 ez1
 unfold A7y at hz1
 refine A7 (lr (fun u4 hu4=>sv rfl (sv rfl (sv rfl (sd rfl (F1 rfl) (sv rfl (A3 (cc rfl hz1 (fun c1 hz1=> ?_) (fun c1 hz1=> ?_)))))))))
 refine B3 (A7 (A8 (N6 rfl fun u5 hu5=>sp rfl rfl (sp rfl rfl (F4 (oS x1.2.Curve_.Pts (36,g2)) rfl (B75 rfl (gq rfl) rfl) (sv rfl (sv rfl (bs hz1 fun v1 hv1 hz1=>sd rfl (G6 rfl rfl hv1 rfl) (sd rfl (E9 rfl hv1 rfl) (sv rfl (sv rfl (sv rfl (bs hz1 fun v2 hv2 hz1=>sd rfl (G6 rfl rfl hv2 rfl) (sd rfl (E9 rfl hv2 rfl) (sv rfl (F4 (dl A2x [(Spot.mk v1 v2)]) rfl rfl (bs hz1 fun v3 hv3 hz1=>X6 A2x (36,g2) x1.2.Curve_.Pts (Spot.mk v1 v2) [] _ (S7 (fun _=>rfl)) rfl (gq rfl) hv3 (sp rfl rfl (sp rfl rfl (sst rfl (gq rfl) ((B1e x1.2).set 1 (.sl (36,u5))) rfl (A3 (H9 (A9 (s0:=⟨T [(0,(.d _)),(3,(.d _)),(8,(.ptr _ _)),(9,(.ptr _ _)),(10,(.d _))],G [((8,u1),some (.box 42 _)),((9,u2),some (.box 42 _)),((36,u5),some _)]⟩) (sbr rfl rfl) ?_)))))))))))))))))))))))
 refine B8 fun u6 hu6=>sv rfl (sv rfl (sv rfl (A3 (H4 ?_))))
 cases hz1
 exact ⟨rfl,u5,(J0 ⟨.of rfl, .of rfl, .of rfl, .of rfl, .of rfl,trivial⟩ (B6 G_hit (.of rfl) (B6 (gq rfl) (.box (cv (.cons (.of (A93 (A3e hv3)).symm) cw))) (A36 (gq rfl) trivial))))⟩
 refine C6 rfl ?_
 cases hz1
 obtain rfl:=ez1 _ rfl
 refine ⟨nofun,C2 rfl (l_j ?_)⟩
 exact ⟨g2,(J0 ⟨.of rfl, .of rfl, .of rfl,trivial⟩ (B6 G_hit (.of rfl) (sg rfl (I7 (gq rfl) trivial))))⟩
 rintro _ ⟨g1,q1⟩
 refine A9 q1 (A7 (lr (fun u7 hu7=>sv rfl (sv rfl (A3 (cc rfl h (fun c2 h=> ?_) (fun c2 h=> ?_)))))))
 refine B8 fun u8 hu8=>sp rfl rfl (sst rfl (gq rfl) (((B1e y1).set 1 (oS y1.Curve_.Pts (36,g1))).set 2 (di 500)) rfl (A3 (lr (fun u9 hu9=>F4 (A7n (((B1e y1).set 1 (oS y1.Curve_.Pts (36,g1))).set 2 (di 500))) rfl (B9 rfl G_hit rfl rfl) (B74 _ _ _ _ _ (B1c _) rfl rfl (gq rfl) (nl rfl) (((B1e y1).set 1 (oS y1.Curve_.Pts (36,g1))).set 2 (di 500)) rfl (A3 (B5 ?_)))))))
 cases h
 exact B0 (.inr rfl) (C1 (A2w rfl G_hit (nl rfl) rfl) (C0g (rD (Q5 (B1b (gq rfl)) (rD (rD (rD N0))))))) (.agg (ca rfl (.cons ⟨B1a,rfl⟩ (cz rfl))))
 refine B3 (lr (fun u10 hu10=>F4 (A7n ((B1e y1).set 1 (oS y1.Curve_.Pts (36,g1)))) rfl (B9 rfl (gq rfl) rfl rfl) (B74 _ _ _ _ _ (B1c _) rfl rfl G_hit (nl rfl) ((B1e y1).set 1 (oS y1.Curve_.Pts (36,g1))) rfl (A3 (B5 ?_)))))
 cases h
 exact B0 (.inr rfl) (C1 (A2w rfl G_hit (nl rfl) rfl) (C0g (rD (Q5 (B1b (gq rfl)) (rD (rD (rD N0))))))) (.agg (ca rfl (.cons ⟨B1a,rfl⟩ (cz rfl))))
noncomputable def B1g:Option Map:=
  (B27 1 1500 [] [0,0,100000,0]).bind fun v1=>(B27 1 1500 [] [50000,(-50000),50000,50000]).bind fun v2=>some (Map.mk 0 [v1,v2] [(Zone.mk [(Part.mk 0 48000 52000 1),(Part.mk 1 48000 52000 0)] 0)] [] [])
theorem C28 (r:Map)(h:B1g=some r):PCall Tryz.prog 58 [] (.agg (A0s r)):=by
 refine E1 (fk Tryz.func58 Tryz.ntmps58 (fun r=>if r==1 then [1000,1002,1004,1007,1009]else []) (by with_unfolding_all rfl)) (nl rfl) ?_
 unfold B1g at h
 refine A9 (s0:=⟨T [],G []⟩) (sbr rfl rfl) ?_
 refine lr (fun u1 hu1=>sn rfl rfl (A3 (lr (fun u2 hu2=>F4 (dl A5 [0,0,100000,0]) rfl rfl (bs h fun v1 hv1 h=>C4 rfl rfl (.cons (.refl _) (.cons (.refl _) (.cons DLe.nil A4))) (B7c _ _ _ _ _ hv1) (.inl rfl) (F4 (dl A5 [50000,(-50000),50000,50000]) rfl rfl (bs h fun v2 hv2 h=>C4 rfl rfl (.cons (.refl _) (.cons (.refl _) (.cons DLe.nil A4))) (B7c _ _ _ _ _ hv2) (.inl rfl) (F4 (dl B1d [v1,v2]) rfl (C7x B1d ([v1,v2]:List Lane) (fun _=>rfl) rfl rfl ⟨rfl,rfl,rfl,rfl,rfl,rfl,trivial⟩ (fun _=>rfl)) (sv rfl (sv rfl (F4 (dl R3 [(Part.mk 0 48000 52000 1),(Part.mk 1 48000 52000 0)]) rfl rfl (sv rfl (F4 (dl A0g [(Zone.mk [(Part.mk 0 48000 52000 1),(Part.mk 1 48000 52000 0)] 0)]) rfl rfl (sv rfl (sst rfl G_hit [(di 0),(dl B1d [v1,v2]),(dl A0g [(Zone.mk [(Part.mk 0 48000 52000 1),(Part.mk 1 48000 52000 0)] 0)]),(.d .nilS),(.d .nilS)] rfl (A3 (B5 ?_)))))))))))))))))
 cases h
 exact B0 (.inr rfl) (C1 (A2w rfl G_hit (nl rfl) rfl) I6) (.agg (ca rfl (ca rfl (ca rfl (.cons ⟨DLe.nil,rfl⟩ (.cons ⟨DLe.nil,rfl⟩ .nil))))))
noncomputable def Q6 (p1:Int)(p2:Int)(p3:Int):Option Bool:=
  some ((decide (p2≤p1))&& (decide (p1≤p3)))
theorem S9 (p1:Int)(p2:Int)(p3:Int)(r:Bool)(h:Q6 p1 p2 p3=some r):PCall Tryz.prog 134 [(i64 p1),(i64 p2),(i64 p3)] (bo r):=by
 refine E1 (fk Tryz.func134 Tryz.ntmps134 m0 (by with_unfolding_all rfl)) (nl rfl) ?_
 unfold Q6 at h
 refine A9 (s0:=⟨T [(0,(.d _)),(1,(.d _)),(2,(.d _))],G []⟩) (sbr rfl rfl) ?_
 refine lr (fun u1 hu1=>sv rfl (A3 (lr (fun u2 hu2=>sv rfl (sv rfl (sv rfl (sv rfl (gt rfl (fun _=>rfl) (gt rfl (fun _=>rfl) (gt rfl (fun w3=>(A1q (A6 w3) (A6 w3) rfl)) (sa rfl rfl rfl (sv rfl (A3 (B5 ?_))))))))))))))
 cases h
 exact B0 (.inr rfl) (C1 (B4 rfl) I6) (.refl _)
noncomputable def Q7 (p1:RoadsCheck):Option Int:=
  (Q6 p1.Map_.Version 0 1099511627776).bind fun v1=>cond (!v1) (some 2) (cond ((p1.Map_.Lanes.length:Int)==0) (some 6) (cond ((((decide ((p1.Map_.Lanes.length:Int)>12))||(decide ((p1.Map_.Zones.length:Int)>12)))||(decide ((p1.Map_.Signals.length:Int)>4)))||(decide ((p1.Map_.Works.length:Int)>8))) (some 8) (some 0)))
theorem B11 (p1:RoadsCheck)(r:Int)(h:Q7 p1=some r):PCall Tryz.prog 65 [(.agg (A0s p1.Map_))] (i64 r):=by
 refine E1 (fk Tryz.func65 Tryz.ntmps65 m0 (by with_unfolding_all rfl)) (nl rfl) ?_
 unfold Q7 at h
 refine A9 (s0:=⟨T [(0,(.d _))],G []⟩) (sbr rfl rfl) ?_
 refine lr (fun u1 hu1=>sn rfl rfl (sv rfl (A3 (A7 (A8 (lr (fun u2 hu2=>sp rfl rfl (sp rfl rfl (sl rfl G_hit rfl (bs h fun v1 hv1 h=>C4 rfl rfl A4 (S9 _ _ _ _ hv1) (.inl rfl) (F4 (.d (bo (!v1))) rfl rfl (sv rfl (A3 (cc rfl h (fun c1 h=> ?_) (fun c1 h=> ?_)))))))))))))))
 refine lr (fun u3 hu3=>sv rfl (A3 (B5 ?_)))
 cases h
 exact B0 (.inr rfl) (C1 (B4 rfl) I6) (.refl _)
 refine lr (fun u4 hu4=>sp rfl rfl (sp rfl rfl (sl rfl G_hit rfl (sd rfl (F1 rfl) (sv rfl (sv rfl (A3 (cc rfl h (fun c2 h=> ?_) (fun c2 h=> ?_)))))))))
 refine lr (fun u5 hu5=>sv rfl (A3 (B5 ?_)))
 cases h
 exact B0 (.inr rfl) (C1 (B4 rfl) I6) (.refl _)
 refine lr (fun u6 hu6=>sp rfl rfl (sp rfl rfl (sl rfl G_hit rfl (sd rfl (F1 rfl) (sv rfl (sv rfl (gp rfl (A0f rfl) (fun _=>rfl) ?_)))))))
 refine X7 _ (.ptr _ _) rfl (A0f rfl) (fun w2=>(by simp only [A6 w2];rfl)) ?_
 refine gf rfl (vl rfl G_hit rfl) (gf rfl (fun w4=>(F1 (A6 w4))) (gf rfl (vb rfl rfl rfl) (sd rfl (A4j rfl rfl (fun hc=>A6 (R5 hc))) (sv rfl (gp rfl (A0f rfl) (fun _=>rfl) ?_)))))
 refine X7 _ (.ptr _ _) rfl (A0f rfl) (fun w7=>(by simp only [A6 w7];rfl)) ?_
 refine gf rfl (vl rfl G_hit rfl) (gf rfl (fun w9=>(F1 (A6 w9))) (gf rfl (vb rfl rfl rfl) (sd rfl (A4j rfl rfl (fun hc=>A6 (R5 hc))) (sv rfl (gp rfl (A0f rfl) (fun _=>rfl) ?_)))))
 refine X7 _ (.ptr _ _) rfl (A0f rfl) (fun w12=>(by simp only [A6 w12];rfl)) ?_
 refine gf rfl (vl rfl G_hit rfl) (gf rfl (fun w14=>(F1 (A6 w14))) (gf rfl (vb rfl rfl rfl) (sd rfl (A4j rfl rfl (fun hc=>A6 (R5 hc))) (sv rfl (A3 (cc rfl h (fun c3 h=> ?_) (fun c3 h=> ?_)))))))
 refine A7 (A9 (s0:=⟨T [],G []⟩) (sbr rfl rfl) ?_)
 refine B8 fun u7 hu7=>sv rfl (A3 (B5 ?_))
 cases h
 exact B0 (.inr rfl) (C1 (B4 rfl) I6) (.refl _)
 refine B3 (H9 (A7 (A9 (s0:=⟨T [],G []⟩) (sbr rfl rfl) ?_)))
 refine B8 fun u8 hu8=>sv rfl (A3 (B5 ?_))
 cases h
 exact B0 (.inr rfl) (C1 (B4 rfl) I6) (.refl _)
noncomputable def A2k (p1:Int):Option (Int×Int×Int):=
  cond ((decide (p1<0))||(decide (p1≥4))) (some (0,0,0)) ((F3 ([(0,0,0),(2000,30,90),(1000,20,60),(300,100,300)]:List (Int×Int×Int)) p1).bind fun v1=>some (v1.1,v1.2.1,v1.2.2))
theorem B1h (p1:Int)(r:(Int×Int×Int))(h:A2k p1=some r):PCall Tryz.prog 169 [(i64 p1)] (.tup [(i64 r.1),(i64 r.2.1),(i64 r.2.2)]):=by
 refine E1 (fk Tryz.func169 Tryz.ntmps169 m0 (by with_unfolding_all rfl)) (nl rfl) ?_
 unfold A2k at h
 refine A9 (s0:=⟨T [(0,(.d _))],G []⟩) (sbr rfl rfl) ?_
 refine lr (fun u1 hu1=>sv rfl (sv rfl (sv rfl (A3 (lr (fun u2 hu2=>sv rfl (sv rfl (sv rfl (sv rfl (sn rfl rfl (sst rfl G_hit [(di 0),(di 0),(di 0),(di 2000),(di 30),(di 90),(di 1000),(di 20),(di 60),(di 300),(di 100),(di 300)] rfl (A3 (A7 (lr (fun u3 hu3=>sv rfl (sv rfl (sv rfl (gf rfl (fun _=>rfl) (gf rfl (vb rfl rfl rfl) (sd rfl (A4j rfl rfl (fun hc=>A6 (R5 hc))) (A3 (cc rfl h (fun c1 h=> ?_) (fun c1 h=> ?_)))))))))))))))))))))))
 refine lr (fun u4 hu4=>sv rfl (sv rfl (sv rfl (A3 (B5 ?_)))))
 cases h
 exact B0 (.inr rfl) (B8q (B4 rfl) (B4 rfl) (B4 rfl) I6 I6 I6) (.refl _)
 refine B3 (lr (fun u5 hu5=>sv rfl (bs h fun v1 hv1 h=>sp rfl (B7a rfl rfl hv1 rfl) (sd rfl (D0a (f:=D5n) rfl G_hit hv1 (fun _=>rfl) rfl rfl) (sn rfl rfl (sst rfl G_hit [(di v1.1),(di v1.2.1),(di v1.2.2)] rfl (A3 (A7 (A9 (s0:=⟨T [(6,(.ptr _ _))],G [((6,u5),some (.box 249 _))]⟩) (sbr rfl rfl) ?_)))))))))
 refine N6 rfl fun u6 hu6=>sp rfl rfl (sl rfl G_hit rfl (sp rfl rfl (sl rfl G_hit rfl (sp rfl rfl (sl rfl G_hit rfl (sv rfl (sv rfl (sv rfl (A3 (B5 ?_))))))))))
 cases h
 exact B0 (.inr rfl) (B8q (B4 rfl) (B4 rfl) (B4 rfl) I6 I6 I6) (.refl _)
noncomputable def A0h (p1:(List Spot))(x1:Int):Option (Stp Int (Sum Unit Bool)):=
  cond (decide (x1< (p1.length:Int))) ((F3 p1 x1).bind fun v1=>cond ((decide ((mm2 false v1.X v1.Y)< (-16777216)))||(decide ((mm2 true v1.X v1.Y)>16777216))) (some (.out (.inr false))) (some (.go (w64 (x1+1))))) (some (.out (.inl ())))
noncomputable def A64 (p1:(List Spot)):Option Bool:=
  thenS (loop (A0h p1) 0) (fun _=>some true) (fun r=>some r)
theorem C0m (p1:(List Spot))(r:Bool)(h:A64 p1=some r):PCall Tryz.prog 233 [(.list (List.map A2x p1))] (bo r):=by
 refine E1 (fk Tryz.func233 Tryz.ntmps233 m0 (by with_unfolding_all rfl)) (nl rfl) ?_
 unfold A64 at h
 refine A9 (s0:=⟨T [(0,(.d _))],G []⟩) (sbr rfl rfl) ?_
 refine lr (fun u1 hu1=>sv rfl (A3 (A7 (lr (fun u2 hu2=>sv rfl (sd rfl (F1 rfl) (sv rfl (A3 (js h fun z1 hz1 h=>F2 (fun s=> ∃(y1:Unit) (g1:Unit),z1= .inl y1∧Sb ⟨T [],G []⟩ s) ?_ ?_)))))))))
 refine A8 (F0 (A0h p1) (fun (x1:Int) (g2:Unit)=>⟨T [(5,(dl A2x p1)),(6,(di (p1.length:Int))),(7,(di x1))],G []⟩) 0 () _ hz1 (sbr rfl rfl) ?_)
 intro x1 g2 z2 hz2 ez2
 unfold A0h at hz2
 refine lr (fun u3 hu3=>sv rfl (A3 (A7 (cc rfl hz2 (fun c1 hz2=> ?_) (fun c1 hz2=> ?_)))))
 refine B3 (A7 (A8 (lr (fun u4 hu4=>bs hz2 fun v1 hv1 hz2=>sd rfl (G6 rfl rfl hv1 rfl) (sd rfl (F7 rfl hv1 rfl rfl) (sn rfl rfl (sst rfl G_hit [(di v1.X),(di v1.Y)] rfl (A3 (lr (fun u5 hu5=>sp rfl rfl (sl rfl G_hit rfl (sp rfl rfl (sl rfl G_hit rfl (sv rfl (sv rfl (sv rfl (gp rfl (A0f rfl) (fun _=>rfl) (gf rfl (vl rfl G_hit rfl) (gp rfl (A0f rfl) (fun _=>rfl) (gf rfl (vl rfl G_hit rfl) ?_))))))))))))))))))))
 refine gf rfl (fun w5=>(by simp only [A6 w5];rfl)) ?_
 refine gf rfl (vb rfl rfl rfl) (sd rfl (A4j rfl rfl (fun hc=>A6 (R5 hc))) (A3 (cc rfl hz2 (fun c2 hz2=> ?_) (fun c2 hz2=> ?_))))
 refine A7 (A9 (s0:=⟨T [],G []⟩) (sbr rfl rfl) ?_)
 refine B8 fun u6 hu6=>sv rfl (A3 (B5 ?_))
 cases hz2
 obtain rfl:=ez2 _ rfl
 refine ⟨nofun,F8 ?_⟩
 rw [Sum.elim_inr]at h
 cases h
 exact B0 (.inr rfl) (C1 (B4 rfl) I6) (.refl _)
 refine B3 (H9 (A9 (s0:=⟨T [(5,(.d _)),(6,(.d _)),(7,(.d _))],G []⟩) (sbr rfl rfl) ?_))
 refine B8 fun u7 hu7=>sv rfl (sv rfl (A3 (H4 ?_)))
 cases hz2
 exact ⟨rfl,(),(sbr rfl rfl)⟩
 refine C6 rfl ?_
 cases hz2
 obtain rfl:=ez2 _ rfl
 refine ⟨nofun,C2 rfl (l_j ?_)⟩
 exact ⟨_,(),rfl,(sbr rfl rfl)⟩
 rintro _ ⟨y1,g1,rfl,q1⟩
 rw [Sum.elim_inl]at h
 refine A9 q1 (lr (fun u8 hu8=>sv rfl (A3 (B5 ?_))))
 cases h
 exact B0 (.inr rfl) (C1 (B4 rfl) I6) (.refl _)
noncomputable def A57 (p1:Spot)(p2:Spot):Option CurveVector:=
  some (CurveVector.mk (w64 (p2.X - p1.X)) (w64 (p2.Y - p1.Y)))
theorem B45 (p1:Spot)(p2:Spot)(r:CurveVector)(h:A57 p1 p2=some r):PCall Tryz.prog 234 [(.agg [(i64 p1.X),(i64 p1.Y)]),(.agg [(i64 p2.X),(i64 p2.Y)])] (.agg [(i64 r.x),(i64 r.y)]):=by
 refine E1 (fk Tryz.func234 Tryz.ntmps234 m0 (by with_unfolding_all rfl)) (nl rfl) ?_
 unfold A57 at h
 refine A9 (s0:=⟨T [(0,(.d _)),(1,(.d _))],G []⟩) (sbr rfl rfl) ?_
 refine lr (fun u1 hu1=>sn rfl rfl (sn rfl rfl (sn rfl rfl (A3 (lr (fun u2 hu2=>sp rfl rfl (sl rfl (gq rfl) rfl (sp rfl rfl (sl rfl (gq rfl) rfl (sv rfl (sp rfl rfl (sl rfl (gq rfl) rfl (sp rfl rfl (sl rfl (gq rfl) rfl (sv rfl (sv rfl (sst rfl G_hit [(di (w64 (p2.X - p1.X))),(di (w64 (p2.Y - p1.Y)))] rfl (A3 (B5 ?_)))))))))))))))))))
 cases h
 exact B0 (.inr rfl) (C1 (A2w rfl G_hit (nl rfl) rfl) I6) (.refl _)
noncomputable def T7 (p1:CurveVector)(p2:CurveVector):Option Int:=
  some (w64 ((w64 (p1.x*p2.x))+ (w64 (p1.y*p2.y))))
theorem A4z (p1:CurveVector)(p2:CurveVector)(r:Int)(h:T7 p1 p2=some r):PCall Tryz.prog 236 [(.agg [(i64 p1.x),(i64 p1.y)]),(.agg [(i64 p2.x),(i64 p2.y)])] (i64 r):=by
 refine E1 (fk Tryz.func236 Tryz.ntmps236 m0 (by with_unfolding_all rfl)) (nl rfl) ?_
 unfold T7 at h
 refine A9 (s0:=⟨T [(0,(.d _)),(1,(.d _))],G []⟩) (sbr rfl rfl) ?_
 refine lr (fun u1 hu1=>sn rfl rfl (sn rfl rfl (sv rfl (A3 (lr (fun u2 hu2=>sp rfl rfl (sl rfl (gq rfl) rfl (sp rfl rfl (sl rfl G_hit rfl (sv rfl (sp rfl rfl (sl rfl (gq rfl) rfl (sp rfl rfl (sl rfl G_hit rfl (sv rfl (sv rfl (sv rfl (A3 (B5 ?_)))))))))))))))))))
 cases h
 exact B0 (.inr rfl) (C1 (B4 rfl) I6) (.refl _)
noncomputable def A2n (p1:Int)(x1:(Int×Int)):Option (Stp (Int×Int) Int):=
  cond (decide (x1.1<x1.2)) (cond (decide ((w64 ((w64 ((w64 (x1.1+x1.2)).tdiv 2))* (w64 ((w64 (x1.1+x1.2)).tdiv 2))))<p1)) (some (.go ((w64 ((w64 ((w64 (x1.1+x1.2)).tdiv 2))+1)),x1.2))) (some (.go (x1.1,(w64 ((w64 (x1.1+x1.2)).tdiv 2)))))) (some (.out x1.1))
noncomputable def A4b (p1:Int):Option (Int×Bool):=
  (loop (A2n p1) (0,67108864)).bind fun y1=>some (y1,((w64 (y1*y1))==p1))
theorem B46 (p1:Int)(r:(Int×Bool))(h:A4b p1=some r):PCall Tryz.prog 235 [(i64 p1)] (.tup [(i64 r.1),(bo r.2)]):=by
 refine E1 (fk Tryz.func235 Tryz.ntmps235 m0 (by with_unfolding_all rfl)) (nl rfl) ?_
 unfold A4b at h
 refine A9 (s0:=⟨T [(0,(.d _))],G []⟩) (sbr rfl rfl) ?_
 refine lr (fun u1 hu1=>sv rfl (sv rfl (A3 (lr (fun u2 hu2=>sv rfl (sv rfl (A3 (A7 (bs h fun y1 hy1 h=>F2 (fun s=> ∃g1:Unit,Sb ⟨T [(0,(di p1)),(4,(di y1))],G []⟩ s) ?_ ?_)))))))))
 refine A8 (F0 (A2n p1) (fun (x1:(Int×Int)) (g2:Unit)=>⟨T [(0,(di p1)),(4,(di x1.1)),(5,(di x1.2))],G []⟩) (0,67108864) () _ hy1 (sbr rfl rfl) ?_)
 intro x1 g2 z1 hz1 ez1
 unfold A2n at hz1
 refine A7 (lr (fun u3 hu3=>sv rfl (sv rfl (sv rfl (A3 (cc rfl hz1 (fun c1 hz1=> ?_) (fun c1 hz1=> ?_)))))))
 refine B3 (A8 (lr (fun u4 hu4=>sv rfl (sv rfl (sv rfl (sv rfl (sv rfl (A3 (lr (fun u5 hu5=>sv rfl (sv rfl (sv rfl (sv rfl (sv rfl (A3 (cc rfl hz1 (fun c2 hz1=> ?_) (fun c2 hz1=> ?_)))))))))))))))))
 refine B8 fun u6 hu6=>sv rfl (sv rfl (sv rfl (A3 (H9 (H4 ?_)))))
 cases hz1
 exact ⟨rfl,(),(sbr rfl rfl)⟩
 refine B8 fun u7 hu7=>sv rfl (sv rfl (A3 (H9 (H4 ?_))))
 cases hz1
 exact ⟨rfl,(),(sbr rfl rfl)⟩
 refine C6 rfl ?_
 cases hz1
 obtain rfl:=ez1 _ rfl
 refine ⟨nofun,C2 rfl (l_j ?_)⟩
 exact ⟨(),(sbr rfl rfl)⟩
 rintro _ ⟨g1,q1⟩
 refine A9 q1 (lr (fun u8 hu8=>sv rfl (sv rfl (sv rfl (sv rfl (sv rfl (sv rfl (sv rfl (sv rfl (A3 (B5 ?_)))))))))))
 cases h
 exact B0 (.inr rfl) (C5v (B4 rfl) (B4 rfl) I6 I6) (.refl _)
noncomputable def X3 (p1:Curve)(x1:(Int×CurveVector)):Option (Stp (Int×CurveVector) (Sum Unit Int)):=
  cond (decide (x1.1< (w64 ((p1.Pts.length:Int) - 1)))) ((F3 p1.Pts x1.1).bind fun v2=>(F3 p1.Pts (w64 (x1.1+1))).bind fun v3=>(A57 v2 v3).bind fun v4=>(T7 v4 v4).bind fun v5=>(A4b v5).bind fun v6=>cond (!v6.2) (some (.out (.inr 3))) (cond ((decide (v6.1<1000))||(decide (v6.1>1048576))) (some (.out (.inr 2))) (((cond (decide (x1.1>0)) (T7 x1.2 v4) (some default))).bind fun v7=>cond ((decide (x1.1>0))&& (decide (v7≤0))) (some (.out (.inr 12))) (some (.go ((w64 (x1.1+1)),v4)))))) (some (.out (.inl ())))
noncomputable def A3g (p1:Curve):Option Int:=
  cond (decide ((p1.Pts.length:Int)<2)) (some 6) (cond (decide ((p1.Pts.length:Int)>16)) (some 5) ((A64 p1.Pts).bind fun v1=>cond (!v1) (some 2) (thenS (loop (X3 p1) (0,(CurveVector.mk 0 0))) (fun _=>some 0) (fun r=>some r))))
theorem B30 (p1:Curve)(r:Int)(h:A3g p1=some r):PCall Tryz.prog 170 [(.agg [(.list (List.map A2x p1.Pts))])] (i64 r):=by
 refine E1 (fk Tryz.func170 Tryz.ntmps170 m0 (by with_unfolding_all rfl)) (nl rfl) ?_
 unfold A3g at h
 refine A9 (s0:=⟨T [(0,(.d _))],G []⟩) (sbr rfl rfl) ?_
 refine lr (fun u1 hu1=>sn rfl rfl (sv rfl (A3 (A7 (A8 (lr (fun u2 hu2=>sp rfl rfl (sl rfl G_hit rfl (sd rfl (F1 rfl) (sv rfl (sv rfl (A3 (cc rfl h (fun c1 h=> ?_) (fun c1 h=> ?_))))))))))))))
 refine lr (fun u3 hu3=>sv rfl (A3 (B5 ?_)))
 cases h
 exact B0 (.inr rfl) (C1 (B4 rfl) I6) (.refl _)
 refine lr (fun u4 hu4=>sp rfl rfl (sl rfl G_hit rfl (sd rfl (F1 rfl) (sv rfl (sv rfl (A3 (cc rfl h (fun c2 h=> ?_) (fun c2 h=> ?_))))))))
 refine lr (fun u5 hu5=>sv rfl (A3 (B5 ?_)))
 cases h
 exact B0 (.inr rfl) (C1 (B4 rfl) I6) (.refl _)
 refine lr (fun u6 hu6=>sp rfl rfl (sl rfl G_hit rfl (bs h fun v1 hv1 h=>C4 rfl rfl A4 (C0m _ _ hv1) (.inl rfl) (F4 (.d (bo (!v1))) rfl rfl (sv rfl (A3 (cc rfl h (fun c3 h=> ?_) (fun c3 h=> ?_))))))))
 refine lr (fun u7 hu7=>sv rfl (A3 (B5 ?_)))
 cases h
 exact B0 (.inr rfl) (C1 (B4 rfl) I6) (.refl _)
 refine B3 (H9 (lr (fun u8 hu8=>sn rfl rfl (A3 (A7 (lr (fun u9 hu9=>sp rfl rfl (sl rfl (gq rfl) rfl (sd rfl (F1 rfl) (sv rfl (sv rfl (A3 (js h fun z1 hz1 h=>F2 (fun s=> ∃(y1:Unit) (g1:Unit),z1= .inl y1∧Sb ⟨T [],G []⟩ s) ?_ ?_)))))))))))))
 refine A8 (F0 (X3 p1) (fun (x1:(Int×CurveVector)) (g2:Unit)=>⟨T [(1,(.ptr (1,u1) 0)),(3,(.ptr (3,u8) 0)),(26,(di (w64 ((p1.Pts.length:Int) - 1)))),(27,(di x1.1))],G [((1,u1),some (.box 39 [(dl A2x p1.Pts)])),((3,u8),some (.box 253 [(di x1.2.x),(di x1.2.y)]))]⟩) (0,(CurveVector.mk 0 0)) () _ hz1 (sbr rfl rfl) ?_)
 intro x1 g2 z2 hz2 ez2
 unfold X3 at hz2
 refine lr (fun u10 hu10=>sv rfl (A3 (A7 (cc rfl hz2 (fun c4 hz2=> ?_) (fun c4 hz2=> ?_)))))
 refine B3 (A7 (A8 (lr (fun u11 hu11=>sv rfl (sv rfl (A3 (A7 (N6 rfl fun u12 hu12=>sp rfl rfl (sl rfl G_hit rfl (sv rfl (bs hz2 fun v2 hv2 hz2=>sd rfl (G6 rfl rfl hv2 rfl) (sd rfl (F7 rfl hv2 rfl rfl) (sp rfl rfl (sl rfl G_hit rfl (sv rfl (sv rfl (bs hz2 fun v3 hv3 hz2=>sd rfl (G6 rfl rfl hv3 rfl) (sd rfl (F7 rfl hv3 rfl rfl) (bs hz2 fun v4 hv4 hz2=>C4 rfl rfl A4 (B45 _ _ _ hv4) (.inl rfl) (sn rfl rfl (sst rfl G_hit [(di v4.x),(di v4.y)] rfl (A3 (A7 (A9 (s0:=⟨T [(1,(.ptr _ _)),(3,(.ptr _ _)),(4,(.d _)),(5,(.ptr _ _)),(26,(.d _)),(27,(.d _))],G [((1,u1),some (.box 39 _)),((3,u8),some (.box 253 _)),((5,u12),some (.box 253 _))]⟩) (sbr rfl rfl) ?_))))))))))))))))))))))))
 refine B8 fun u13 hu13=>sd rfl (B9 rfl (gq rfl) rfl rfl) (sd rfl (B9 rfl (gq rfl) rfl rfl) (bs hz2 fun v5 hv5 hz2=>C4 rfl rfl A4 (A4z _ _ _ hv5) (.inl rfl) (bs hz2 fun v6 hv6 hz2=>C4 rfl rfl A4 (B46 _ _ hv6) (.inl rfl) (sv rfl (sv rfl (sv rfl (sv rfl (sv rfl (A3 (A7 (A8 (lr (fun u14 hu14=>sv rfl (F4 (.d (bo (!v6.2))) rfl rfl (sv rfl (A3 (cc rfl hz2 (fun c5 hz2=> ?_) (fun c5 hz2=> ?_))))))))))))))))))
 refine lr (fun u15 hu15=>sv rfl (A3 (B5 ?_)))
 cases hz2
 obtain rfl:=ez2 _ rfl
 refine ⟨nofun,F8 ?_⟩
 rw [Sum.elim_inr]at h
 cases h
 exact B0 (.inr rfl) (C1 (B4 rfl) I6) (.refl _)
 refine lr (fun u16 hu16=>sv rfl (sv rfl (sv rfl (gf rfl (fun _=>rfl) (gf rfl (vb rfl rfl rfl) (sd rfl (A4j rfl rfl (fun hc=>A6 (R5 hc))) (sv rfl (A3 (cc rfl hz2 (fun c6 hz2=> ?_) (fun c6 hz2=> ?_))))))))))
 refine A7 (A9 (s0:=⟨T [],G []⟩) (sbr rfl rfl) ?_)
 refine B8 fun u17 hu17=>sv rfl (A3 (B5 ?_))
 cases hz2
 obtain rfl:=ez2 _ rfl
 refine ⟨nofun,F8 ?_⟩
 rw [Sum.elim_inr]at h
 cases h
 exact B0 (.inr rfl) (C1 (B4 rfl) I6) (.refl _)
 refine A7 (A9 (s0:=⟨T [(1,(.ptr _ _)),(3,(.ptr _ _)),(4,(.d _)),(5,(.ptr _ _)),(26,(.d _)),(27,(.d _))],G [((1,u1),some (.box 39 _)),((3,u8),some (.box 253 _)),((5,u12),some (.box 253 _))]⟩) (sbr rfl rfl) ?_)
 refine B8 fun u18 hu18=>sv rfl (sv rfl (sv rfl (gt rfl (fun w3=>(B9 rfl (gq rfl) rfl rfl)) (gt rfl (fun w4=>(B9 rfl (gq rfl) rfl rfl)) (bs hz2 fun v7 hv7 hz2=> ?_)))))
 refine U1 _ (i64 v7) (A4y rfl) (fun w5=>⟨_,[(.d (.agg [(i64 x1.2.x),(i64 x1.2.y)])),(.d (.agg [(i64 v4.x),(i64 v4.y)]))],_,_,(by simp only [A6 w5];rfl),rfl,A4,A4z _ _ _ (E8 w5 hv7),(.inl rfl)⟩) ?_
 refine gt rfl (vb rfl rfl rfl) (sa rfl rfl rfl (sv rfl (A3 (cc rfl hz2 (fun c7 hz2=> ?_) (fun c7 hz2=> ?_)))))
 refine lr (fun u19 hu19=>sv rfl (A3 (B5 ?_)))
 cases hz2
 obtain rfl:=ez2 _ rfl
 refine ⟨nofun,F8 ?_⟩
 rw [Sum.elim_inr]at h
 cases h
 exact B0 (.inr rfl) (C1 (B4 rfl) I6) (.refl _)
 refine B3 (H9 (B8 fun u20 hu20=>sd rfl (B9 rfl (gq rfl) rfl rfl) (sst rfl (gq rfl) [(di v4.x),(di v4.y)] rfl (A3 (H9 (B8 fun u21 hu21=>sv rfl (sv rfl (A3 (H4 ?_)))))))))
 cases hz2
 exact ⟨rfl,(),(sbr rfl rfl)⟩
 refine C6 rfl ?_
 cases hz2
 obtain rfl:=ez2 _ rfl
 refine ⟨nofun,C2 rfl (l_j ?_)⟩
 exact ⟨_,(),rfl,(sbr rfl rfl)⟩
 rintro _ ⟨y1,g1,rfl,q1⟩
 rw [Sum.elim_inl]at h
 refine A9 q1 (lr (fun u22 hu22=>sv rfl (A3 (B5 ?_))))
 cases h
 exact B0 (.inr rfl) (C1 (B4 rfl) I6) (.refl _)
noncomputable def V4 (p1:(List Int))(p3:Int)(x1:(Int×Int)):Option (Stp (Int×Int) (Sum Unit Bool)):=
  cond (decide (x1.2< (p1.length:Int))) ((F3 p1 x1.2).bind fun v1=>cond ((decide (v1<x1.1))||(decide (v1≥p3))) (some (.out (.inr false))) (some (.go ((w64 (v1+1)),(w64 (x1.2+1)))))) (some (.out (.inl ())))
noncomputable def A1i (p1:(List Int))(p2:Int)(p3:Int):Option Bool:=
  thenS (loop (V4 p1 p3) (p2,0)) (fun _=>some true) (fun r=>some r)
theorem A7z (p1:(List Int))(p2:Int)(p3:Int)(r:Bool)(h:A1i p1 p2 p3=some r):PCall Tryz.prog 171 [(.list (List.map A5 p1)),(i64 p2),(i64 p3)] (bo r):=by
 refine E1 (fk Tryz.func171 Tryz.ntmps171 m0 (by with_unfolding_all rfl)) (nl rfl) ?_
 unfold A1i at h
 refine A9 (s0:=⟨T [(0,(.d _)),(1,(.d _)),(2,(.d _))],G []⟩) (sbr rfl rfl) ?_
 refine lr (fun u1 hu1=>sv rfl (A3 (A7 (lr (fun u2 hu2=>sv rfl (sd rfl (F1 rfl) (sv rfl (A3 (js h fun z1 hz1 h=>F2 (fun s=> ∃(y1:Unit) (g1:Unit),z1= .inl y1∧Sb ⟨T [],G []⟩ s) ?_ ?_)))))))))
 refine A8 (F0 (V4 p1 p3) (fun (x1:(Int×Int)) (g2:Unit)=>⟨T [(1,(di x1.1)),(2,(di p3)),(9,(dl A5 p1)),(10,(di (p1.length:Int))),(11,(di x1.2))],G []⟩) (p2,0) () _ hz1 (sbr rfl rfl) ?_)
 intro x1 g2 z2 hz2 ez2
 unfold V4 at hz2
 refine lr (fun u3 hu3=>sv rfl (A3 (A7 (cc rfl hz2 (fun c1 hz2=> ?_) (fun c1 hz2=> ?_)))))
 refine B3 (A7 (A8 (lr (fun u4 hu4=>bs hz2 fun v1 hv1 hz2=>sd rfl (G6 rfl rfl hv1 rfl) (sd rfl (E9 rfl hv1 rfl) (sv rfl (A3 (A7 (lr (fun u5 hu5=>sv rfl (sv rfl (sv rfl (sv rfl (gf rfl (fun _=>rfl) (gf rfl (fun _=>rfl) (gf rfl (fun w3=>(A1q (A6 w3) (A6 w3) rfl)) (sd rfl (A4j rfl rfl (fun hc=>A6 (R5 hc))) (A3 (cc rfl hz2 (fun c2 hz2=> ?_) (fun c2 hz2=> ?_))))))))))))))))))))
 refine lr (fun u6 hu6=>sv rfl (A3 (B5 ?_)))
 cases hz2
 obtain rfl:=ez2 _ rfl
 refine ⟨nofun,F8 ?_⟩
 rw [Sum.elim_inr]at h
 cases h
 exact B0 (.inr rfl) (C1 (B4 rfl) I6) (.refl _)
 refine B3 (B8 fun u7 hu7=>sv rfl (sv rfl (sv rfl (A3 (H9 (B8 fun u8 hu8=>sv rfl (sv rfl (A3 (H4 ?_)))))))))
 cases hz2
 exact ⟨rfl,(),(sbr rfl rfl)⟩
 refine C6 rfl ?_
 cases hz2
 obtain rfl:=ez2 _ rfl
 refine ⟨nofun,C2 rfl (l_j ?_)⟩
 exact ⟨_,(),rfl,(sbr rfl rfl)⟩
 rintro _ ⟨y1,g1,rfl,q1⟩
 rw [Sum.elim_inl]at h
 refine A9 q1 (lr (fun u9 hu9=>sv rfl (A3 (B5 ?_))))
 cases h
 exact B0 (.inr rfl) (C1 (B4 rfl) I6) (.refl _)
noncomputable def O8 (p1:RoadsCheck)(x1:Int):Option (Stp Int (Sum Unit Int)):=
  cond (decide (x1< (p1.Map_.Lanes.length:Int))) ((F3 p1.Map_.Lanes x1).bind fun v1=>(A2k v1.Kind).bind fun v2=>cond (v2.1==0) (some (.out (.inr 4))) ((A3g v1.Curve_).bind fun v3=>cond (v3 !=0) (some (.out (.inr v3))) ((Q6 v1.Half 200 4000).bind fun v4=>((cond (!(!v4)) (Q6 v1.Limit 1 v2.1) (some default))).bind fun v5=>cond ((!v4)||(!v5)) (some (.out (.inr 2))) (cond (decide ((v1.Next.length:Int)>3)) (some (.out (.inr 8))) ((A1i v1.Next (w64 (x1+1)) (p1.Map_.Lanes.length:Int)).bind fun v6=>cond (!v6) (some (.out (.inr 11))) (some (.go (w64 (x1+1))))))))) (some (.out (.inl ())))
noncomputable def U5 (p1:RoadsCheck):Option Int:=
  thenS (loop (O8 p1) 0) (fun _=>some 0) (fun r=>some r)
theorem B2f (p1:RoadsCheck)(r:Int)(h:U5 p1=some r):PCall Tryz.prog 66 [(.agg (A0s p1.Map_))] (i64 r):=by
 refine E1 (fk Tryz.func66 Tryz.ntmps66 m0 (by with_unfolding_all rfl)) (nl rfl) ?_
 unfold U5 at h
 refine A9 (s0:=⟨T [(0,(.d _))],G []⟩) (sbr rfl rfl) ?_
 refine lr (fun u1 hu1=>sn rfl rfl (sv rfl (A3 (A7 (lr (fun u2 hu2=>sp rfl rfl (sp rfl rfl (sl rfl G_hit rfl (sd rfl (F1 rfl) (sv rfl (A3 (js h fun z1 hz1 h=>F2 (fun s=> ∃(y1:Unit) (g1:Unit),z1= .inl y1∧Sb ⟨T [],G []⟩ s) ?_ ?_))))))))))))
 refine A8 (F0 (O8 p1) (fun (x1:Int) (g2:Unit)=>⟨T [(1,(.ptr (1,u1) 0)),(11,(dl B1d p1.Map_.Lanes)),(12,(di (p1.Map_.Lanes.length:Int))),(13,(di x1))],G [((1,u1),some (.box 105 (A09 p1.Map_)))]⟩) 0 () _ hz1 (sbr rfl rfl) ?_)
 intro x1 g2 z2 hz2 ez2
 unfold O8 at hz2
 refine lr (fun u3 hu3=>sv rfl (A3 (A7 (cc rfl hz2 (fun c1 hz2=> ?_) (fun c1 hz2=> ?_)))))
 refine B3 (A7 (A8 (lr (fun u4 hu4=>sv rfl (bs hz2 fun v1 hv1 hz2=>sd rfl (G6 rfl rfl hv1 rfl) (sd rfl (F7 rfl hv1 rfl rfl) (sn rfl rfl (sv rfl (sst rfl G_hit (B1e v1) rfl (A3 (lr (fun u5 hu5=>sp rfl rfl (sl rfl G_hit rfl (bs hz2 fun v2 hv2 hz2=>C4 rfl rfl A4 (B1h _ _ hv2) (.inl rfl) (sv rfl (sv rfl (sv rfl (sv rfl (sv rfl (sv rfl (sv rfl (A3 (A7 (A7 (A9 (s0:=⟨T [(1,(.ptr _ _)),(3,(.d _)),(4,(.ptr _ _)),(5,(.d _)),(11,(.d _)),(12,(.d _)),(13,(.d _))],G [((1,u1),some (.box 105 _)),((4,u4),some (.box 42 _))]⟩) (sbr rfl rfl) ?_)))))))))))))))))))))))))
 refine B8 fun u6 hu6=>sv rfl (sv rfl (A3 (cc rfl hz2 (fun c2 hz2=> ?_) (fun c2 hz2=> ?_))))
 refine lr (fun u7 hu7=>sv rfl (A3 (B5 ?_)))
 cases hz2
 obtain rfl:=ez2 _ rfl
 refine ⟨nofun,F8 ?_⟩
 rw [Sum.elim_inr]at h
 cases h
 exact B0 (.inr rfl) (C1 (B4 rfl) I6) (.refl _)
 refine B3 (A7 (lr (fun u8 hu8=>sp rfl rfl (sd rfl (B9 rfl (gq rfl) rfl rfl) (bs hz2 fun v3 hv3 hz2=>C4 rfl rfl A4 (B30 _ _ hv3) (.inl rfl) (sv rfl (A3 (lr (fun u9 hu9=>sv rfl (sv rfl (A3 (cc rfl hz2 (fun c3 hz2=> ?_) (fun c3 hz2=> ?_)))))))))))))
 refine lr (fun u10 hu10=>sv rfl (sv rfl (A3 (B5 ?_))))
 cases hz2
 obtain rfl:=ez2 _ rfl
 refine ⟨nofun,F8 ?_⟩
 rw [Sum.elim_inr]at h
 cases h
 exact B0 (.inr rfl) (C1 (B4 rfl) I6) (.refl _)
 refine B3 (A8 (lr (fun u11 hu11=>sp rfl rfl (sl rfl (gq rfl) rfl (bs hz2 fun v4 hv4 hz2=>C4 rfl rfl A4 (S9 _ _ _ _ hv4) (.inl rfl) (F4 (.d (bo (!v4))) rfl rfl (sv rfl (gp rfl (A0f rfl) (fun _=>rfl) (gf rfl (vl rfl (gq rfl) rfl) (gf rfl (fun _=>rfl) (bs hz2 fun v5 hv5 hz2=> ?_)))))))))))
 refine U1 _ (bo v5) (A0f rfl) (fun w4=>⟨_,[(di v1.Limit),(di 1),(di v2.1)],_,_,(by simp only [A6 w4];rfl),rfl,A4,S9 _ _ _ _ (E8 w4 hv5),(.inl rfl)⟩) ?_
 refine X7 _ (.d (bo (!v5))) rfl (A0f rfl) (fun w5=>(by simp only [A6 w5];rfl)) ?_
 refine sd rfl (A4j rfl rfl (fun hc=>A6 (R5 hc))) (sv rfl (A3 (cc rfl hz2 (fun c4 hz2=> ?_) (fun c4 hz2=> ?_))))
 refine A7 (A9 (s0:=⟨T [],G []⟩) (sbr rfl rfl) ?_)
 refine B8 fun u12 hu12=>sv rfl (A3 (B5 ?_))
 cases hz2
 obtain rfl:=ez2 _ rfl
 refine ⟨nofun,F8 ?_⟩
 rw [Sum.elim_inr]at h
 cases h
 exact B0 (.inr rfl) (C1 (B4 rfl) I6) (.refl _)
 refine A7 (A9 (s0:=⟨T [(1,(.ptr _ _)),(3,(.d _)),(4,(.ptr _ _)),(11,(.d _)),(12,(.d _)),(13,(.d _))],G [((1,u1),some (.box 105 _)),((4,u4),some (.box 42 _))]⟩) (sbr rfl rfl) ?_)
 refine B8 fun u13 hu13=>sp rfl rfl (sl rfl (gq rfl) rfl (sd rfl (F1 rfl) (sv rfl (sv rfl (A3 (cc rfl hz2 (fun c5 hz2=> ?_) (fun c5 hz2=> ?_)))))))
 refine lr (fun u14 hu14=>sv rfl (A3 (B5 ?_)))
 cases hz2
 obtain rfl:=ez2 _ rfl
 refine ⟨nofun,F8 ?_⟩
 rw [Sum.elim_inr]at h
 cases h
 exact B0 (.inr rfl) (C1 (B4 rfl) I6) (.refl _)
 refine lr (fun u15 hu15=>sp rfl rfl (sl rfl (gq rfl) rfl (sv rfl (sv rfl (sp rfl rfl (sp rfl rfl (sl rfl G_hit rfl (sd rfl (F1 rfl) (bs hz2 fun v6 hv6 hz2=>C4 rfl rfl A4 (A7z _ _ _ _ hv6) (.inl rfl) (F4 (.d (bo (!v6))) rfl rfl (sv rfl (A3 (cc rfl hz2 (fun c6 hz2=> ?_) (fun c6 hz2=> ?_))))))))))))))
 refine A7 (A9 (s0:=⟨T [],G []⟩) (sbr rfl rfl) ?_)
 refine B8 fun u16 hu16=>sv rfl (A3 (B5 ?_))
 cases hz2
 obtain rfl:=ez2 _ rfl
 refine ⟨nofun,F8 ?_⟩
 rw [Sum.elim_inr]at h
 cases h
 exact B0 (.inr rfl) (C1 (B4 rfl) I6) (.refl _)
 refine B3 (H9 (H9 (A9 (s0:=⟨T [(1,(.ptr _ _)),(11,(.d _)),(12,(.d _)),(13,(.d _))],G [((1,u1),some (.box 105 _))]⟩) (sbr rfl rfl) ?_)))
 refine B8 fun u17 hu17=>sv rfl (sv rfl (A3 (H4 ?_)))
 cases hz2
 exact ⟨rfl,(),(sbr rfl rfl)⟩
 refine C6 rfl ?_
 cases hz2
 obtain rfl:=ez2 _ rfl
 refine ⟨nofun,C2 rfl (l_j ?_)⟩
 exact ⟨_,(),rfl,(sbr rfl rfl)⟩
 rintro _ ⟨y1,g1,rfl,q1⟩
 rw [Sum.elim_inl]at h
 refine A9 q1 (lr (fun u18 hu18=>sv rfl (A3 (B5 ?_))))
 cases h
 exact B0 (.inr rfl) (C1 (B4 rfl) I6) (.refl _)
noncomputable def N7 (p1:RoadsCheck)(v1:Lane)(v2:Spot)(x2:Int):Option (Stp Int (Sum Unit Int)):=
  cond (decide (x2< (v1.Next.length:Int))) ((F3 v1.Next x2).bind fun v3=>(F3 p1.Map_.Lanes v3).bind fun v4=>cond (v4.Kind !=v1.Kind) (some (.out (.inr 4))) ((F3 p1.Map_.Lanes v3).bind fun v5=>(F3 v5.Curve_.Pts 0).bind fun v6=>cond (!(v6.X==v2.X&& (v6.Y==v2.Y&&true))) (some (.out (.inr 3))) (some (.go (w64 (x2+1)))))) (some (.out (.inl ())))
noncomputable def N8 (p1:RoadsCheck)(x1:Int):Option (Stp Int (Sum Unit Int)):=
  cond (decide (x1< (p1.Map_.Lanes.length:Int))) ((F3 p1.Map_.Lanes x1).bind fun v1=>(F3 v1.Curve_.Pts (w64 ((v1.Curve_.Pts.length:Int) - 1))).bind fun v2=>thenS (loop (N7 p1 v1 v2) 0) (fun _=>some (.go (w64 (x1+1)))) (fun r=>some (.out (.inr r)))) (some (.out (.inl ())))
noncomputable def S6 (p1:RoadsCheck):Option Int:=
  thenS (loop (N8 p1) 0) (fun _=>some 0) (fun r=>some r)
theorem B1i (p1:RoadsCheck)(r:Int)(h:S6 p1=some r):PCall Tryz.prog 67 [(.agg (A0s p1.Map_))] (i64 r):=by
 refine E1 (fk Tryz.func67 Tryz.ntmps67 m0 (by with_unfolding_all rfl)) (nl rfl) ?_
 unfold S6 at h
 refine A9 (s0:=⟨T [(0,(.d _))],G []⟩) (sbr rfl rfl) ?_
 refine lr (fun u1 hu1=>sn rfl rfl (sv rfl (A3 (A7 (lr (fun u2 hu2=>sp rfl rfl (sp rfl rfl (sl rfl G_hit rfl (sd rfl (F1 rfl) (sv rfl (A3 (js h fun z1 hz1 h=>F2 (fun s=> ∃(y1:Unit) (g1:Unit),z1= .inl y1∧Sb ⟨T [],G []⟩ s) ?_ ?_))))))))))))
 refine A8 (F0 (N8 p1) (fun (x1:Int) (g2:Unit)=>⟨T [(1,(.ptr (1,u1) 0)),(10,(dl B1d p1.Map_.Lanes)),(11,(di (p1.Map_.Lanes.length:Int))),(12,(di x1))],G [((1,u1),some (.box 105 (A09 p1.Map_)))]⟩) 0 () _ hz1 (sbr rfl rfl) ?_)
 intro x1 g2 z2 hz2 ez2
 unfold N8 at hz2
 refine lr (fun u3 hu3=>sv rfl (A3 (A7 (cc rfl hz2 (fun c1 hz2=> ?_) (fun c1 hz2=> ?_)))))
 refine B3 (A7 (A8 (lr (fun u4 hu4=>bs hz2 fun v1 hv1 hz2=>sd rfl (G6 rfl rfl hv1 rfl) (sd rfl (F7 rfl hv1 rfl rfl) (sn rfl rfl (sst rfl G_hit (B1e v1) rfl (A3 (lr (fun u5 hu5=>sp rfl rfl (sp rfl rfl (sl rfl G_hit rfl (sp rfl rfl (sp rfl rfl (sl rfl G_hit rfl (sd rfl (F1 rfl) (sv rfl (bs hz2 fun v2 hv2 hz2=>sd rfl (G6 rfl rfl hv2 rfl) (sd rfl (F7 rfl hv2 rfl rfl) (sn rfl rfl (sst rfl G_hit [(di v2.X),(di v2.Y)] rfl (A3 (A7 (A9 (s0:=⟨T [(1,(.ptr _ _)),(4,(.ptr _ _)),(5,(.ptr _ _)),(10,(.d _)),(11,(.d _)),(12,(.d _))],G [((1,u1),some (.box 105 _)),((4,u4),some (.box 42 _)),((5,u5),some (.box 148 _))]⟩) (sbr rfl rfl) ?_))))))))))))))))))))))))
 refine B8 fun u6 hu6=>sp rfl rfl (sl rfl (gq rfl) rfl (sd rfl (F1 rfl) (sv rfl (A3 (js hz2 fun z3 hz3 hz2=>F2 (fun s=> ∃(y2:Unit) (g3:Unit),z3= .inl y2∧Sb ⟨T [(1,(.ptr (1,u1) 0)),(10,(dl B1d p1.Map_.Lanes)),(11,(di (p1.Map_.Lanes.length:Int))),(12,(di x1))],G [((1,u1),some (.box 105 (A09 p1.Map_)))]⟩ s) ?_ ?_)))))
 refine A8 (F0 (N7 p1 v1 v2) (fun (x2:Int) (g4:Unit)=>⟨T [(1,(.ptr (1,u1) 0)),(4,(.ptr (4,u4) 0)),(5,(.ptr (5,u5) 0)),(10,(dl B1d p1.Map_.Lanes)),(11,(di (p1.Map_.Lanes.length:Int))),(12,(di x1)),(27,(dl A5 v1.Next)),(28,(di (v1.Next.length:Int))),(29,(di x2))],G [((1,u1),some (.box 105 (A09 p1.Map_))),((4,u4),some (.box 42 (B1e v1))),((5,u5),some (.box 148 [(di v2.X),(di v2.Y)]))]⟩) 0 () _ hz3 (sbr rfl rfl) ?_)
 intro x2 g4 z4 hz4 ez4
 unfold N7 at hz4
 refine lr (fun u7 hu7=>sv rfl (A3 (A7 (cc rfl hz4 (fun c2 hz4=> ?_) (fun c2 hz4=> ?_)))))
 refine B3 (A7 (A8 (lr (fun u8 hu8=>bs hz4 fun v3 hv3 hz4=>sd rfl (G6 rfl rfl hv3 rfl) (sd rfl (E9 rfl hv3 rfl) (sv rfl (A3 (A7 (A7 (N6 rfl fun u9 hu9=>sp rfl rfl (sp rfl rfl (sl rfl G_hit rfl (sv rfl (bs hz4 fun v4 hv4 hz4=>sd rfl (G6 rfl rfl hv4 rfl) (sv rfl (sd rfl (E9 rfl hv4 rfl) (sp rfl rfl (sl rfl (gq rfl) rfl (sv rfl (A3 (cc rfl hz4 (fun c3 hz4=> ?_) (fun c3 hz4=> ?_))))))))))))))))))))))
 refine A7 (A9 (s0:=⟨T [],G []⟩) (sbr rfl rfl) ?_)
 refine B8 fun u10 hu10=>sv rfl (A3 (B5 ?_))
 cases hz4
 obtain rfl:=ez4 _ rfl
 refine ⟨nofun,F8 ?_⟩
 rw [Sum.elim_inr]at hz2
 cases hz2
 obtain rfl:=ez2 _ rfl
 refine ⟨nofun,F8 ?_⟩
 rw [Sum.elim_inr]at h
 cases h
 exact B0 (.inr rfl) (C1 (B4 rfl) I6) (.refl _)
 refine B3 (A7 (A9 (s0:=⟨T [(1,(.ptr _ _)),(4,(.ptr _ _)),(5,(.ptr _ _)),(7,(.d _)),(10,(.d _)),(11,(.d _)),(12,(.d _)),(27,(.d _)),(28,(.d _)),(29,(.d _))],G [((1,u1),some (.box 105 _)),((4,u4),some (.box 42 _)),((5,u5),some (.box 148 _))]⟩) (sbr rfl rfl) ?_))
 refine N6 rfl fun u11 hu11=>sp rfl rfl (sp rfl rfl (sl rfl G_hit rfl (sv rfl (bs hz4 fun v5 hv5 hz4=>sd rfl (G6 rfl rfl hv5 rfl) (sv rfl (sv rfl (sd rfl (E9 rfl hv5 rfl) (bs hz4 fun v6 hv6 hz4=>sd rfl (G6 rfl rfl hv6 rfl) (sd rfl (F7 rfl hv6 rfl rfl) (sd rfl (B9 rfl (gq rfl) rfl rfl) (F4 (.d (bo (!(v6.X==v2.X&& (v6.Y==v2.Y&&true))))) rfl rfl (A3 (cc rfl hz4 (fun c4 hz4=> ?_) (fun c4 hz4=> ?_))))))))))))))
 refine A7 (A9 (s0:=⟨T [],G []⟩) (sbr rfl rfl) ?_)
 refine B8 fun u12 hu12=>sv rfl (A3 (B5 ?_))
 cases hz4
 obtain rfl:=ez4 _ rfl
 refine ⟨nofun,F8 ?_⟩
 rw [Sum.elim_inr]at hz2
 cases hz2
 obtain rfl:=ez2 _ rfl
 refine ⟨nofun,F8 ?_⟩
 rw [Sum.elim_inr]at h
 cases h
 exact B0 (.inr rfl) (C1 (B4 rfl) I6) (.refl _)
 refine B3 (H9 (A9 (s0:=⟨T [(1,(.ptr _ _)),(4,(.ptr _ _)),(5,(.ptr _ _)),(10,(.d _)),(11,(.d _)),(12,(.d _)),(27,(.d _)),(28,(.d _)),(29,(.d _))],G [((1,u1),some (.box 105 _)),((4,u4),some (.box 42 _)),((5,u5),some (.box 148 _))]⟩) (sbr rfl rfl) ?_))
 refine B8 fun u13 hu13=>sv rfl (sv rfl (A3 (H4 ?_)))
 cases hz4
 exact ⟨rfl,(),(sbr rfl rfl)⟩
 refine C6 rfl ?_
 cases hz4
 obtain rfl:=ez4 _ rfl
 refine ⟨nofun,C2 rfl (l_j ?_)⟩
 exact ⟨_,(),rfl,(sbr rfl rfl)⟩
 rintro _ ⟨y2,g3,rfl,q1⟩
 rw [Sum.elim_inl]at hz2
 refine H9 (A9 q1 (B8 fun u14 hu14=>sv rfl (sv rfl (A3 (H4 ?_)))))
 cases hz2
 exact ⟨rfl,(),(sbr rfl rfl)⟩
 refine C6 rfl ?_
 cases hz2
 obtain rfl:=ez2 _ rfl
 refine ⟨nofun,C2 rfl (l_j ?_)⟩
 exact ⟨_,(),rfl,(sbr rfl rfl)⟩
 rintro _ ⟨y1,g1,rfl,q2⟩
 rw [Sum.elim_inl]at h
 refine A9 q2 (lr (fun u15 hu15=>sv rfl (A3 (B5 ?_))))
 cases h
 exact B0 (.inr rfl) (C1 (B4 rfl) I6) (.refl _)
noncomputable def U6 (p1:Phase):Option Bool:=
  (Q6 p1.Ticks 1 10000).bind fun v1=>some (!v1)
theorem A9o (p1:Phase)(r:Bool)(h:U6 p1=some r):PCall Tryz.prog 173 [(.agg [(i64 p1.Ticks),(.list (List.map A5 p1.Green))])] (bo r):=by
 refine E1 (fk Tryz.func173 Tryz.ntmps173 m0 (by with_unfolding_all rfl)) (nl rfl) ?_
 unfold U6 at h
 refine A9 (s0:=⟨T [(0,(.d _))],G []⟩) (sbr rfl rfl) ?_
 refine lr (fun u1 hu1=>sn rfl rfl (sv rfl (A3 (lr (fun u2 hu2=>sp rfl rfl (sl rfl G_hit rfl (bs h fun v1 hv1 h=>C4 rfl rfl A4 (S9 _ _ _ _ hv1) (.inl rfl) (F4 (.d (bo (!v1))) rfl rfl (sv rfl (A3 (B5 ?_)))))))))))
 cases h
 exact B0 (.inr rfl) (C1 (B4 rfl) I6) (.refl _)
noncomputable def C9 (p1:(List Phase))(x1:Int):Option (Stp Int (Sum Unit Int)):=
  cond (decide (x1< (p1.length:Int))) ((F3 p1 x1).bind fun v1=>(U6 v1).bind fun v2=>cond v2 (some (.out (.inr x1))) (some (.go (w64 (x1+1))))) (some (.out (.inl ())))
noncomputable def E2 (p1:(List Phase)):Option Int:=
  thenS (loop (C9 p1) 0) (fun _=>some (-1)) (fun r=>some r)
theorem A0i (p1:(List Phase))(r:Int)(h:E2 p1=some r):PCall Tryz.prog 237 [(.list (List.map A5k p1)),(.fn (.func 173) [] [])] (i64 r):=by
 refine E1 (fk Tryz.func237 Tryz.ntmps237 m0 (by with_unfolding_all rfl)) (nl rfl) ?_
 unfold E2 at h
 refine A9 (s0:=⟨T [(0,(.d _)),(1,(.d _))],G []⟩) (sbr rfl rfl) ?_
 refine lr (fun u1 hu1=>sv rfl (A3 (A7 (lr (fun u2 hu2=>sv rfl (sd rfl (F1 rfl) (sv rfl (A3 (js h fun z1 hz1 h=>F2 (fun s=> ∃(y1:Unit) (g1:Unit),z1= .inl y1∧Sb ⟨T [],G []⟩ s) ?_ ?_)))))))))
 refine A8 (F0 (C9 p1) (fun (x1:Int) (g2:Unit)=>⟨T [(0,(dl A5k p1)),(1,(.d (.fn (.func 173) [] []))),(7,(di (p1.length:Int))),(8,(di x1))],G []⟩) 0 () _ hz1 (sbr rfl rfl) ?_)
 intro x1 g2 z2 hz2 ez2
 unfold C9 at hz2
 refine lr (fun u3 hu3=>sv rfl (A3 (A7 (cc rfl hz2 (fun c1 hz2=> ?_) (fun c1 hz2=> ?_)))))
 refine B3 (A7 (A8 (lr (fun u4 hu4=>sv rfl (sv rfl (A3 (lr (fun u5 hu5=>sv rfl (sv rfl (sv rfl (bs hz2 fun v1 hv1 hz2=>sd rfl (G6 rfl rfl hv1 rfl) (sd rfl (F7 rfl hv1 rfl rfl) (bs hz2 fun v2 hv2 hz2=>C4 rfl rfl A4 (A9o _ _ hv2) (.inl rfl) (A3 (cc rfl hz2 (fun c2 hz2=> ?_) (fun c2 hz2=> ?_))))))))))))))))
 refine lr (fun u6 hu6=>sv rfl (sv rfl (A3 (B5 ?_))))
 cases hz2
 obtain rfl:=ez2 _ rfl
 refine ⟨nofun,F8 ?_⟩
 rw [Sum.elim_inr]at h
 cases h
 exact B0 (.inr rfl) (C1 (B4 rfl) I6) (.refl _)
 refine B3 (H9 (B8 fun u7 hu7=>sv rfl (sv rfl (A3 (H4 ?_)))))
 cases hz2
 exact ⟨rfl,(),(sbr rfl rfl)⟩
 refine C6 rfl ?_
 cases hz2
 obtain rfl:=ez2 _ rfl
 refine ⟨nofun,C2 rfl (l_j ?_)⟩
 exact ⟨_,(),rfl,(sbr rfl rfl)⟩
 rintro _ ⟨y1,g1,rfl,q1⟩
 rw [Sum.elim_inl]at h
 refine A9 q1 (lr (fun u8 hu8=>sv rfl (A3 (B5 ?_))))
 cases h
 exact B0 (.inr rfl) (C1 (B4 rfl) I6) (.refl _)
noncomputable def D0 (p1:(List Phase)):Option Bool:=
  (E2 p1).bind fun v1=>some (decide (v1≥0))
theorem Z8 (p1:(List Phase))(r:Bool)(h:D0 p1=some r):PCall Tryz.prog 172 [(.list (List.map A5k p1)),(.fn (.func 173) [] [])] (bo r):=by
 refine E1 (fk Tryz.func172 Tryz.ntmps172 m0 (by with_unfolding_all rfl)) (nl rfl) ?_
 unfold D0 at h
 refine A9 (s0:=⟨T [(0,(.d _)),(1,(.d _))],G []⟩) (sbr rfl rfl) ?_
 refine lr (fun u1 hu1=>sv rfl (A3 (lr (fun u2 hu2=>sv rfl (sv rfl (bs h fun v1 hv1 h=>C4 rfl rfl A4 (A0i _ _ hv1) (.inl rfl) (sv rfl (sv rfl (A3 (B5 ?_))))))))))
 cases h
 exact B0 (.inr rfl) (C1 (B4 rfl) I6) (.refl _)
noncomputable def R4 (p1:Phase)(p2:RoadsCheck):Option Bool:=
  (A1i p1.Green 0 (p2.Map_.Lanes.length:Int)).bind fun v1=>some (!v1)
theorem A8p (p1:Phase)(p2:RoadsCheck)(r:Bool)(h:R4 p1 p2=some r):PCall Tryz.prog 174 [(.agg [(i64 p1.Ticks),(.list (List.map A5 p1.Green))]),(.bp (A0s p2.Map_) 0)] (bo r):=by
 refine E1 (fk Tryz.func174 Tryz.ntmps174 m0 (by with_unfolding_all rfl)) (nl rfl) ?_
 unfold R4 at h
 refine A9 (s0:=⟨T [(0,(.d _)),(1,(.d _))],G []⟩) (sbr rfl rfl) ?_
 refine lr (fun u1 hu1=>sn rfl rfl (sv rfl (A3 (lr (fun u2 hu2=>sp rfl rfl (sl rfl G_hit rfl (sv rfl (sv rfl (sv rfl (sd rfl (F1 rfl) (bs h fun v1 hv1 h=>C4 rfl rfl A4 (A7z _ _ _ _ hv1) (.inl rfl) (F4 (.d (bo (!v1))) rfl rfl (sv rfl (A3 (B5 ?_)))))))))))))))
 cases h
 exact B0 (.inr rfl) (C1 (B4 rfl) I6) (.refl _)
noncomputable def C7 (p1:(List Phase))(p2:RoadsCheck)(x1:Int):Option (Stp Int (Sum Unit Int)):=
  cond (decide (x1< (p1.length:Int))) ((F3 p1 x1).bind fun v1=>(R4 v1 p2).bind fun v2=>cond v2 (some (.out (.inr x1))) (some (.go (w64 (x1+1))))) (some (.out (.inl ())))
noncomputable def D9 (p1:(List Phase))(p2:RoadsCheck):Option Int:=
  thenS (loop (C7 p1 p2) 0) (fun _=>some (-1)) (fun r=>some r)
theorem A0a (p1:(List Phase))(p2:RoadsCheck)(r:Int)(h:D9 p1 p2=some r):PCall Tryz.prog 237 [(.list (List.map A5k p1)),(.fn (.func 174) [] [(.bp (A0s p2.Map_) 0)])] (i64 r):=by
 refine E1 (fk Tryz.func237 Tryz.ntmps237 m0 (by with_unfolding_all rfl)) (nl rfl) ?_
 unfold D9 at h
 refine A9 (s0:=⟨T [(0,(.d _)),(1,(.d _))],G []⟩) (sbr rfl rfl) ?_
 refine lr (fun u1 hu1=>sv rfl (A3 (A7 (lr (fun u2 hu2=>sv rfl (sd rfl (F1 rfl) (sv rfl (A3 (js h fun z1 hz1 h=>F2 (fun s=> ∃(y1:Unit) (g1:Unit),z1= .inl y1∧Sb ⟨T [],G []⟩ s) ?_ ?_)))))))))
 refine A8 (F0 (C7 p1 p2) (fun (x1:Int) (g2:Unit)=>⟨T [(0,(dl A5k p1)),(1,(.d (.fn (.func 174) [] [(.bp (A0s p2.Map_) 0)]))),(7,(di (p1.length:Int))),(8,(di x1))],G []⟩) 0 () _ hz1 (sbr rfl rfl) ?_)
 intro x1 g2 z2 hz2 ez2
 unfold C7 at hz2
 refine lr (fun u3 hu3=>sv rfl (A3 (A7 (cc rfl hz2 (fun c1 hz2=> ?_) (fun c1 hz2=> ?_)))))
 refine B3 (A7 (A8 (lr (fun u4 hu4=>sv rfl (sv rfl (A3 (lr (fun u5 hu5=>sv rfl (sv rfl (sv rfl (bs hz2 fun v1 hv1 hz2=>sd rfl (G6 rfl rfl hv1 rfl) (sd rfl (F7 rfl hv1 rfl rfl) (bs hz2 fun v2 hv2 hz2=>C4 rfl rfl A4 (A8p _ _ _ hv2) (.inl rfl) (A3 (cc rfl hz2 (fun c2 hz2=> ?_) (fun c2 hz2=> ?_))))))))))))))))
 refine lr (fun u6 hu6=>sv rfl (sv rfl (A3 (B5 ?_))))
 cases hz2
 obtain rfl:=ez2 _ rfl
 refine ⟨nofun,F8 ?_⟩
 rw [Sum.elim_inr]at h
 cases h
 exact B0 (.inr rfl) (C1 (B4 rfl) I6) (.refl _)
 refine B3 (H9 (B8 fun u7 hu7=>sv rfl (sv rfl (A3 (H4 ?_)))))
 cases hz2
 exact ⟨rfl,(),(sbr rfl rfl)⟩
 refine C6 rfl ?_
 cases hz2
 obtain rfl:=ez2 _ rfl
 refine ⟨nofun,C2 rfl (l_j ?_)⟩
 exact ⟨_,(),rfl,(sbr rfl rfl)⟩
 rintro _ ⟨y1,g1,rfl,q1⟩
 rw [Sum.elim_inl]at h
 refine A9 q1 (lr (fun u8 hu8=>sv rfl (A3 (B5 ?_))))
 cases h
 exact B0 (.inr rfl) (C1 (B4 rfl) I6) (.refl _)
noncomputable def C8 (p1:(List Phase))(p2:RoadsCheck):Option Bool:=
  (D9 p1 p2).bind fun v1=>some (decide (v1≥0))
theorem X8 (p1:(List Phase))(p2:RoadsCheck)(r:Bool)(h:C8 p1 p2=some r):PCall Tryz.prog 172 [(.list (List.map A5k p1)),(.fn (.func 174) [] [(.bp (A0s p2.Map_) 0)])] (bo r):=by
 refine E1 (fk Tryz.func172 Tryz.ntmps172 m0 (by with_unfolding_all rfl)) (nl rfl) ?_
 unfold C8 at h
 refine A9 (s0:=⟨T [(0,(.d _)),(1,(.d _))],G []⟩) (sbr rfl rfl) ?_
 refine lr (fun u1 hu1=>sv rfl (A3 (lr (fun u2 hu2=>sv rfl (sv rfl (bs h fun v1 hv1 h=>C4 rfl rfl A4 (A0a _ _ _ hv1) (.inl rfl) (sv rfl (sv rfl (A3 (B5 ?_))))))))))
 cases h
 exact B0 (.inr rfl) (C1 (B4 rfl) I6) (.refl _)
noncomputable def M9 (p1:RoadsCheck)(x1:Int):Option (Stp Int (Sum Unit Int)):=
  cond (decide (x1< (p1.Map_.Signals.length:Int))) ((F3 p1.Map_.Signals x1).bind fun v1=>cond ((v1.Phases.length:Int)==0) (some (.out (.inr 6))) (cond (decide ((v1.Phases.length:Int)>6)) (some (.out (.inr 8))) ((Q6 v1.Offset 0 1099511627776).bind fun v2=>cond (!v2) (some (.out (.inr 2))) ((D0 v1.Phases).bind fun v3=>cond v3 (some (.out (.inr 2))) ((C8 v1.Phases p1).bind fun v4=>cond v4 (some (.out (.inr 11))) (some (.go (w64 (x1+1))))))))) (some (.out (.inl ())))
noncomputable def Q8 (p1:RoadsCheck):Option Int:=
  thenS (loop (M9 p1) 0) (fun _=>some 0) (fun r=>some r)
theorem B12 (p1:RoadsCheck)(r:Int)(h:Q8 p1=some r):PCall Tryz.prog 68 [(.agg (A0s p1.Map_))] (i64 r):=by
 refine E1 (fk Tryz.func68 Tryz.ntmps68 m0 (by with_unfolding_all rfl)) (nl rfl) ?_
 unfold Q8 at h
 refine A9 (s0:=⟨T [(0,(.d _))],G []⟩) (sbr rfl rfl) ?_
 refine lr (fun u1 hu1=>sn rfl rfl (sv rfl (A3 (A7 (lr (fun u2 hu2=>sp rfl rfl (sp rfl rfl (sl rfl G_hit rfl (sd rfl (F1 rfl) (sv rfl (A3 (js h fun z1 hz1 h=>F2 (fun s=> ∃(y1:Unit) (g1:Unit),z1= .inl y1∧Sb ⟨T [],G []⟩ s) ?_ ?_))))))))))))
 refine A8 (F0 (M9 p1) (fun (x1:Int) (g2:Unit)=>⟨T [(1,(.ptr (1,u1) 0)),(8,(dl B04 p1.Map_.Signals)),(9,(di (p1.Map_.Signals.length:Int))),(10,(di x1))],G [((1,u1),some (.box 105 (A09 p1.Map_)))]⟩) 0 () _ hz1 (sbr rfl rfl) ?_)
 intro x1 g2 z2 hz2 ez2
 unfold M9 at hz2
 refine lr (fun u3 hu3=>sv rfl (A3 (A7 (cc rfl hz2 (fun c1 hz2=> ?_) (fun c1 hz2=> ?_)))))
 refine B3 (A7 (A8 (lr (fun u4 hu4=>bs hz2 fun v1 hv1 hz2=>sd rfl (G6 rfl rfl hv1 rfl) (sd rfl (F7 rfl hv1 rfl rfl) (sn rfl rfl (sst rfl G_hit [(di v1.Offset),(dl A5k v1.Phases)] rfl (A3 (lr (fun u5 hu5=>sp rfl rfl (sl rfl G_hit rfl (sd rfl (F1 rfl) (sv rfl (A3 (A8 (lr (fun u6 hu6=>sv rfl (sv rfl (sv rfl (A3 (cc rfl hz2 (fun c2 hz2=> ?_) (fun c2 hz2=> ?_))))))))))))))))))))))
 refine lr (fun u7 hu7=>sv rfl (A3 (B5 ?_)))
 cases hz2
 obtain rfl:=ez2 _ rfl
 refine ⟨nofun,F8 ?_⟩
 rw [Sum.elim_inr]at h
 cases h
 exact B0 (.inr rfl) (C1 (B4 rfl) I6) (.refl _)
 refine lr (fun u8 hu8=>sv rfl (sv rfl (sv rfl (A3 (cc rfl hz2 (fun c3 hz2=> ?_) (fun c3 hz2=> ?_))))))
 refine lr (fun u9 hu9=>sv rfl (A3 (B5 ?_)))
 cases hz2
 obtain rfl:=ez2 _ rfl
 refine ⟨nofun,F8 ?_⟩
 rw [Sum.elim_inr]at h
 cases h
 exact B0 (.inr rfl) (C1 (B4 rfl) I6) (.refl _)
 refine lr (fun u10 hu10=>sp rfl rfl (sl rfl G_hit rfl (bs hz2 fun v2 hv2 hz2=>C4 rfl rfl A4 (S9 _ _ _ _ hv2) (.inl rfl) (F4 (.d (bo (!v2))) rfl rfl (sv rfl (A3 (cc rfl hz2 (fun c4 hz2=> ?_) (fun c4 hz2=> ?_))))))))
 refine A7 (A9 (s0:=⟨T [],G []⟩) (sbr rfl rfl) ?_)
 refine B8 fun u11 hu11=>sv rfl (A3 (B5 ?_))
 cases hz2
 obtain rfl:=ez2 _ rfl
 refine ⟨nofun,F8 ?_⟩
 rw [Sum.elim_inr]at h
 cases h
 exact B0 (.inr rfl) (C1 (B4 rfl) I6) (.refl _)
 refine A7 (A9 (s0:=⟨T [(1,(.ptr _ _)),(4,(.ptr _ _)),(8,(.d _)),(9,(.d _)),(10,(.d _))],G [((1,u1),some (.box 105 _)),((4,u4),some (.box 48 _))]⟩) (sbr rfl rfl) ?_)
 refine B8 fun u12 hu12=>sp rfl rfl (sl rfl (gq rfl) rfl (bs hz2 fun v3 hv3 hz2=>C4 rfl rfl A4 (Z8 _ _ hv3) (.inl rfl) (sv rfl (A3 (cc rfl hz2 (fun c5 hz2=> ?_) (fun c5 hz2=> ?_))))))
 refine lr (fun u13 hu13=>sv rfl (A3 (B5 ?_)))
 cases hz2
 obtain rfl:=ez2 _ rfl
 refine ⟨nofun,F8 ?_⟩
 rw [Sum.elim_inr]at h
 cases h
 exact B0 (.inr rfl) (C1 (B4 rfl) I6) (.refl _)
 refine lr (fun u14 hu14=>sp rfl rfl (sl rfl (gq rfl) rfl (F4 (.fn _ _ _) rfl rfl (bs hz2 fun v4 hv4 hz2=>C4 rfl (rD (Q5 (C3d N0 (Q5 (B0w G_hit (rD (rD (rD (rD (rD N0)))))) N0)) N0)) A4 (X8 _ _ _ hv4) (.inr rfl) (sv rfl (A3 (cc rfl hz2 (fun c6 hz2=> ?_) (fun c6 hz2=> ?_))))))))
 refine lr (fun u15 hu15=>sv rfl (A3 (B5 ?_)))
 cases hz2
 obtain rfl:=ez2 _ rfl
 refine ⟨nofun,F8 ?_⟩
 rw [Sum.elim_inr]at h
 cases h
 exact B0 (.inr rfl) (C1 (B4 rfl) I6) (.refl _)
 refine B3 (H9 (H9 (B8 fun u16 hu16=>sv rfl (sv rfl (A3 (H4 ?_))))))
 cases hz2
 exact ⟨rfl,(),(sbr rfl rfl)⟩
 refine C6 rfl ?_
 cases hz2
 obtain rfl:=ez2 _ rfl
 refine ⟨nofun,C2 rfl (l_j ?_)⟩
 exact ⟨_,(),rfl,(sbr rfl rfl)⟩
 rintro _ ⟨y1,g1,rfl,q1⟩
 rw [Sum.elim_inl]at h
 refine A9 q1 (lr (fun u17 hu17=>sv rfl (A3 (B5 ?_))))
 cases h
 exact B0 (.inr rfl) (C1 (B4 rfl) I6) (.refl _)
/-- kerbstone/curve.pieces$1 -/
def A9p:AC:=(.seq (.reg [oo 3 (.mv (ci 0))]) (.seq (.reg [oo 8 (.fieldA 0 (.t 1)),oo 9 (.load 1 false (.t 8)),oo 10 (.len (.t 9)),oo 11 (.bin .sub (.t 10) (ci 1)),oo 12 (.mv (ci 0))]) (.block 0 (.loop (.seq (.reg [oo 13 (.bin .lss (.t 12) (.t 11))]) (.seq (.cond (.t 13) .skip (.exit 0)) (.seq (.block 1 (.seq (.reg [oo 14 (.mv (.t 12)),oo 4 (.mv (.t 14))]) (.seq (.draw [oo 15 (.fieldA 0 (.t 1)),oo 16 (.load 1 false (.t 15)),oo 17 (.mv (.t 4)),oo 18 (.idxS 2 (.t 16) (.t 17)),oo 19 (.load 2 true (.t 18)),oo 20 (.fieldA 0 (.t 1)),oo 21 (.load 1 false (.t 20)),oo 22 (.mv (.t 4)),oo 23 (.bin .add (.t 22) (ci 1)),oo 24 (.idxS 2 (.t 21) (.t 23)),oo 25 (.load 2 true (.t 24)),oo 26 (.call (cf 234) [(.t 19),(.t 25)]),oo 5 (.alloc 253 [z0,z0]),oe (.store 2 (.t 5) (.t 26))] []) (.seq (.reg [oo 28 (.load 2 true (.t 5)),oo 29 (.load 2 true (.t 5)),oo 30 (.call (cf 236) [(.t 28),(.t 29)]),oo 31 (.call (cf 235) [(.t 30)]),oo 27 (.mv (.t 31)),oo 32 (.ext (.t 27) 0),oo 33 (.ext (.t 27) 1),oo 6 (.mv (.t 32)),oo 7 (.mv (.t 33))]) (.seq (.seq (.drawB [oo 34 (.mv (.t 0)),oo 35 (.mv (.t 4)),oo 36 (.fieldA 0 (.t 1)),oo 37 (.load 1 false (.t 36)),oo 38 (.mv (.t 4)),oo 39 (.idxS 2 (.t 37) (.t 38)),oo 40 (.load 2 true (.t 39)),oo 41 (.load 2 true (.t 5)),oo 42 (.mv (.t 6)),oo 43 (.mv (.t 3)),oo 44 (.build [z0,z0,z0,z0,z0,z0] [(0,2,(.t 40)),(2,2,(.t 41)),(4,1,(.t 42)),(5,1,(.t 43))]),oo 45 (.icall (.t 34) [(.t 35),(.t 44)]),oo 46 (.un .not (.t 45))] 11 []) (.cond (.t 46) .ret .skip)) (.reg [oo 47 (.mv (.t 3)),oo 48 (.mv (.t 6)),oo 49 (.bin .add (.t 47) (.t 48)),oo 3 (.mv (.t 49))])))))) (.reg [oo 50 (.bin .add (.t 12) (ci 1)),oo 12 (.mv (.t 50))]))))))))
theorem B54:FnOK Tryz.prog 271 51 [] A9p:=⟨_,_,Tryz.func271,rfl,Tryz.ntmps271,by kernel_rfl,⟨fun r=>if r==6 then [11]else [],by kernel_rfl⟩,by kernel_rfl⟩
/-- The pieces of a chain of points, from a number on. -/
noncomputable def A5l (pts:List Spot):Nat→Nat→Int→Option (List (Int×CurvePiece))
  |0,_,_=>some []
  |n+1,i,start=>(pts[i]?).bind fun p=>(pts[i+1]?).bind fun q=>(A57 p q).bind fun v=>(T7 v v).bind fun d=>(A4b d).bind fun r=>
   (A5l pts n (i+1) (w64 (start+r.1))).bind fun l=>some (((i:Int),CurvePiece.mk p v r.1 start)::l)
noncomputable def B3h (pts:List Spot):Option (List (Int×CurvePiece)):=if pts.length≤1000000 then A5l pts (pts.length - 1) 0 0 else none
/-- kerbstone/curve.pieces -/
def B1j:AC:=(.seq (.reg [oo 1 (.box 39 true (.t 0)),oo 2 (.mv (.c (.v .nilFunc)))]) (.seq (.reg [oo 3 (.mkfn (.func 271) [] [(.t 1)]),oo 2 (.mv (.t 3))]) .ret))
theorem B7d:FnOK Tryz.prog 257 4 [.t 2] B1j:=⟨_,_,Tryz.func257,rfl,Tryz.ntmps257,by kernel_rfl,⟨fun _=> [],by kernel_rfl⟩,by kernel_rfl⟩
abbrev C4v (a:Int×CurvePiece):List D:= [i64 a.1, .agg [i64 a.2.p.X,i64 a.2.p.Y,i64 a.2.v.x,i64 a.2.v.y,i64 a.2.l,i64 a.2.start]]
theorem C3i (c:Curve):PCall Tryz.prog 257 [.agg [.list (List.map A2x c.Pts)]] (.fn (.func 271) [] [.bp [.list (List.map A2x c.Pts)] 0]):=by
  refine C9w B7d (by simp) ?_
  unfold B1j
  refine A9l (B2x fun u hu=> ?_)
  refine C7j (.ptr _ _) _ rfl rfl ?_
  refine S4 (.d _) rfl rfl ?_
  refine A8v ?_
  refine A9l (B2x fun u' hu'=> ?_)
  refine S4 (.fn _ _ _) rfl rfl ?_
  refine S4 (.fn _ _ _) rfl rfl ?_
  refine A8v ?_
  refine C79 ⟨.inr rfl,?_⟩
  refine C1 (B4 (v:= .fn _ _ _) rfl) ?_
  exact C3d N0 (Q5 (B0w (by simp only [upd,if_true];rfl) (Q5 I6 N0)) N0)
theorem D0d (ps:List Spot)(n:Int)(i:Nat)(p:Spot)(hn:n=i)(h:ps[i]? =some p):(List.map A2x ps)[n.toNat]? =some (A2x p):=by
  subst hn
  rw [Int.toNat_natCast,List.getElem?_map,h];rfl
theorem C87 {n:Int}(h: -9223372036854775808≤n∧n≤9223372036854775807):w64 n=n:=Go.IntWalk.i64_in n h
theorem B7e (pts:List Spot): ∀n i s L,A5l pts n i s=some L→L.length=n:=by
  intro n
  induction n with
  |zero=>intro i s L h;cases h;rfl
  |succ n ih=>
   intro i s L h
   rw [A5l]at h
   obtain ⟨p,hp,h⟩:=bind_some h
   obtain ⟨q,hq,h⟩:=bind_some h
   obtain ⟨v,hv,h⟩:=bind_some h
   obtain ⟨d,hd,h⟩:=bind_some h
   obtain ⟨r,hr,h⟩:=bind_some h
   obtain ⟨l,hl,h⟩:=bind_some h
   cases h
   rw [List.length_cons,ih _ _ _ hl]
theorem C3j {pts:List Spot}{L:List (Int×CurvePiece)}(h:B3h pts=some L):D17 Tryz.prog (.fn (.func 271) [] [.bp [.list (List.map A2x pts)] 0]) (L.map C4v):=by
  unfold B3h at h
  split at h
  case isFalse=>cases h
  rename_i hlen
  refine ⟨271,[],_,rfl,?_⟩
  intro k h0 Inv Stop hi0 hy
  refine C9v B54 (by simp) ?_
  unfold A9p
  refine A9l (B2x fun u hu=> ?_)
  refine S4 (.d _) rfl rfl ?_
  refine A8v ?_
  refine A9l (B2x fun u hu=> ?_)
  refine S4 (.d _) rfl rfl ?_
  refine S4 (.d _) rfl rfl ?_
  refine S4 (.d (i64 pts.length)) rfl (F1 (f:=A2x) rfl) ?_
  refine S4 (.d _) rfl rfl ?_
  refine S4 (.d _) rfl rfl ?_
  refine A8v ?_
  refine C0c ?_
  refine C9x (α:=Nat×Int×J5) (fun x=>⟨T [(0, .yld k),(1, .d (.bp [.list (List.map A2x pts)] 0)),(3, .d (i64 x.2.1)),(11, .d (i64 (w64 (pts.length - 1)))),(12, .d (i64 x.1))],x.2.2⟩) (fun x=>pts.length - x.1)
    (fun x=>Inv x.1 x.2.2∧x.1≤pts.length - 1∧A5l pts (pts.length - 1 - x.1) x.1 x.2.1=some (L.drop x.1)) (0,0,h0) ⟨hi0,by omega,h⟩ (D14 ⟨rfl,rfl,rfl,rfl,rfl,trivial⟩ fun _ _ h=>h) ?_
  rintro ⟨i,start,hh⟩ ⟨hinv,hi,hgo⟩
  dsimp only at hinv hi hgo ⊢
  refine A9l (B2x fun u hu=> ?_)
  refine S4 (.d _) rfl rfl ?_
  refine A8v ?_
  refine A9l ?_
  refine C9y rfl (fun hlt=> ?_) (fun hlt=> ?_)
  ·refine C3a ?_
   have hlen1:w64 ((pts.length:Int) - 1)=pts.length - 1:=C87 (by omega)
   rw [hlen1]at hlt
   have hi1:i+1<pts.length:=by omega
   have hw1:IntKind.i64.wrap ((i:Int)+1)=(i:Int)+1:=C87 (by omega)
   obtain ⟨m,hm⟩: ∃m,pts.length - 1 - i=m+1:=⟨pts.length - 1 - i - 1,by omega⟩
   rw [hm,A5l]at hgo
   obtain ⟨p,hp,hgo⟩:=bind_some hgo
   obtain ⟨q,hq,hgo⟩:=bind_some hgo
   obtain ⟨v,hv,hgo⟩:=bind_some hgo
   obtain ⟨d,hd,hgo⟩:=bind_some hgo
   obtain ⟨r,hr,hgo⟩:=bind_some hgo
   obtain ⟨l,hl,hgo⟩:=bind_some hgo
   have hgo:((i:Int),CurvePiece.mk p v r.1 start)::l=L.drop i:=Option.some.inj hgo
   have hLi:L[i]? =some ((i:Int),CurvePiece.mk p v r.1 start):=by
     have:=congrArg (fun z=>z[0]?) hgo
     simpa using this.symm
   have hLd:L.drop (i+1)=l:=by
     have:=congrArg (fun z=>z.drop 1) hgo
     simpa using this.symm
   have hin: ∀(p:Spot) (n:Int) (j:Nat),n=j→pts[j]? =some p→(List.map A2x pts)[n.toNat]? =some (A2x p):=fun p n j=>D0d pts n j p
   refine A9l ?_
   refine C0c ?_
   refine A9l (B2x fun u hu=> ?_)
   refine S4 (.d _) rfl rfl ?_
   refine S4 (.d _) rfl rfl ?_
   refine A8v ?_
   refine A9l (C7d rfl fun u hu=> ?_)
   refine S4 (.d _) rfl rfl ?_
   refine S4 (.d _) rfl rfl ?_
   refine S4 (.d _) rfl rfl ?_
   refine C7l _ _ _ _ rfl rfl (Int.natCast_nonneg i) (hin p _ i rfl hp) rfl ?_
   refine B71 _ _ _ _ _ rfl (hin p _ i rfl hp) (by simp) rfl ?_
   refine S4 (.d _) rfl rfl ?_
   refine S4 (.d _) rfl rfl ?_
   refine S4 (.d _) rfl rfl ?_
   refine S4 (.d _) rfl rfl ?_
   refine C7l _ _ _ _ rfl rfl (by rw [hw1];omega) (hin q _ (i+1) (by rw [hw1];rfl) hq) rfl ?_
   refine B71 _ _ _ _ _ rfl (hin q _ (i+1) (by rw [hw1];rfl) hq) (by simp) rfl ?_
   refine C0f rfl rfl (B45 p q _ hv) (.inl rfl) ?_
   refine C7j (.ptr _ _) _ rfl rfl ?_
   refine C4f _ _ _ _ _ rfl rfl rfl (by simp only [upd,if_true];rfl) (by simp) ?_
   refine A8v ?_
   refine A9l (B2x fun u' hu'=> ?_)
   refine C0e _ _ _ _ (.d (.agg [i64 v.x,i64 v.y])) rfl (by simp only [upd,if_true];rfl) (by simp [B22]) rfl ?_
   refine C0e _ _ _ _ (.d (.agg [i64 v.x,i64 v.y])) rfl (by simp only [upd,if_true];rfl) (by simp [B22]) rfl ?_
   refine C0f rfl rfl (A4z v v _ hd) (.inl rfl) ?_
   refine C0f rfl rfl (B46 d _ hr) (.inl rfl) ?_
   refine S4 (.d _) rfl rfl ?_
   refine S4 (.d _) rfl rfl ?_
   refine S4 (.d _) rfl rfl ?_
   refine S4 (.d _) rfl rfl ?_
   refine S4 (.d _) rfl rfl ?_
   refine A8v ?_
   refine A9l (A9l ?_)
   refine C9u rfl fun u2 hu2=> ?_
   simp only [List.take,List.drop]
   refine S4 (.yld _) rfl rfl ?_
   refine S4 (.d _) rfl rfl ?_
   refine S4 (.d _) rfl rfl ?_
   refine S4 (.d _) rfl rfl ?_
   refine S4 (.d _) rfl rfl ?_
   refine C7l _ _ _ _ rfl rfl (Int.natCast_nonneg i) (hin p _ i rfl hp) rfl ?_
   refine B71 _ _ _ _ _ rfl (hin p _ i rfl hp) (by simp) rfl ?_
   refine C0e _ _ _ _ (.d (.agg [i64 v.x,i64 v.y])) rfl (by simp only [upd,if_true];rfl) (by simp [B22]) rfl ?_
   refine S4 (.d _) rfl rfl ?_
   refine S4 (.d _) rfl rfl ?_
   refine S4 (.d _) rfl rfl ?_
   refine A8v ?_
   intro u3 hu3
   refine D02 k ((C4v ((i:Int),CurvePiece.mk p v r.1 start)).map .d) rfl rfl ?_
   refine YCall.weak (C7n hu (C7n hu fun _ _ h=>h)) ((hy i hh _ (by rw [List.getElem?_map,hLi];rfl) hinv).mono ?_)
   rintro v' h' (⟨rfl,hin⟩|⟨rfl,hst⟩)
   ·intro u4 hu4
    refine S4 (.d _) rfl rfl ?_
    refine A8v ?_
    refine B6e (t:=false) rfl (fun h=>by cases h) (fun _=> ?_)
    refine C3a ?_
    refine B2x fun u hu=> ?_
    refine S4 (.d _) rfl rfl ?_
    refine S4 (.d _) rfl rfl ?_
    refine S4 (.d _) rfl rfl ?_
    refine S4 (.d _) rfl rfl ?_
    refine A8v ?_
    refine B2x fun u hu=> ?_
    refine S4 (.d _) rfl rfl ?_
    refine S4 (.d _) rfl rfl ?_
    refine A8v ?_
    refine ⟨(i+1,w64 (start+r.1),h'),⟨hin,by dsimp only;omega,?_⟩,by dsimp only;omega,D14 ⟨rfl,rfl,rfl,rfl,?_,trivial⟩ fun _ _ h=>h⟩
    ·dsimp only
     rw [hLd,show pts.length - 1 - (i+1)=m by omega];exact hl
    ·show AV.d (i64 (IntKind.i64.wrap ((i:Int)+1)))=_
     rw [hw1];rfl
   ·intro u4 hu4
    refine S4 (.d _) rfl rfl ?_
    refine A8v ?_
    refine B6e (t:=true) rfl (fun _=> ?_) (fun h=>by cases h)
    refine C79 ?_
    dsimp only
    exact ⟨Or.inr trivial,AV.tup [],rfl,Or.inr hst⟩
  ·refine C7a ?_
   have hlen1:1≤pts.length→w64 ((pts.length:Int) - 1)=pts.length - 1:=fun _=>C87 (by omega)
   have:i=pts.length - 1:=by
     by_cases h:1≤pts.length
     ·rw [hlen1 h]at hlt;omega
     ·omega
   subst this
   rw [Nat.sub_self,A5l]at hgo
   have hL:(L.map C4v).length=pts.length - 1:=by
     have h1:L.drop (pts.length - 1)= []:=(Option.some.inj hgo).symm
     have h2:=List.drop_eq_nil_iff.1 h1
     rw [List.length_map]
     refine Nat.le_antisymm h2 ?_
     exact Nat.le_of_eq (B7e _ _ _ _ _ h).symm
   exact ⟨.inl rfl,_,rfl, .inl (by rw [hL];exact hinv)⟩
noncomputable def X9 (x1:(List Int))(a1:(Int×CurvePiece)):Option (Stp (List Int) (List Int)):=
  (B18 x1 [a1.2.l]).bind fun v3=>some (.go v3)
noncomputable def A3h (p1:Curve):Option (List Int):=
  (A3g p1).bind fun v1=>cond (v1 !=0) (some []) (((B3h p1.Pts).bind fun v2=>loopL (X9) (fun (x1:(List Int))=>x1) v2 []).bind fun y1=>some y1)
theorem B7f (p1:Curve)(r:(List Int))(h:A3h p1=some r):PCall Tryz.prog 268 [(.agg [(.list (List.map A2x p1.Pts))])] (.list (List.map A5 r)):=by
 refine E1 (fk Tryz.func268 Tryz.ntmps268 (fun r=>if r==6 then [1003]else []) (by with_unfolding_all rfl)) (nl rfl) ?_
 unfold A3h at h
 refine A9 (s0:=⟨T [(0,(.d _))],G []⟩) (sbr rfl rfl) ?_
 refine lr (fun u1 hu1=>sn rfl rfl (sv rfl (A3 (A7 (lr (fun u2 hu2=>sd rfl (B9 rfl G_hit rfl rfl) (bs h fun v1 hv1 h=>C4 rfl rfl A4 (B30 _ _ hv1) (.inl rfl) (sv rfl (A3 (cc rfl h (fun c1 h=> ?_) (fun c1 h=> ?_)))))))))))
 refine lr (fun u3 hu3=>sv rfl (A3 (B5 ?_)))
 cases h
 exact B0 (.inr rfl) (C1 (B4 rfl) I6) DLe.nil
 refine B3 (lr (fun u4 hu4=>sn rfl rfl (A3 (A7 (lr (fun u5 hu5=>sd rfl (B9 rfl (gq rfl) rfl rfl) (C4 rfl rfl A4 (C3i p1) (.inl rfl) (A3 (bs h fun y1 hy1 h=>F2 (fun s=> ∃g1:Nat,Sb ⟨T [(3,(.ptr (3,u4) 0))],G [((3,u4),some (.box 75 [(oS y1 (17,g1))])),((17,g1),oB 2 1 A5 y1)]⟩ s) ?_ ?_)))))))))
 refine A8 (bs hy1 fun v2 hv2 hy1=>A9 (s0:=⟨T [(3,(.ptr _ _)),(10,(.d _))],G [((3,u4),some (.box 75 _))]⟩) (sbr rfl rfl) ?_)
 refine D03 (.fn (.func 271) [] [(.bp [(.list (List.map A2x p1.Pts))] 0)]) C4v v2 (X9) (fun (x1:(List Int))=>x1) (fun (x1:(List Int)) (g2:Nat)=> [((3,u4),some (.box 75 [(oS x1 (17,g2))])),((17,g2),oB 2 1 A5 x1)]) [] 0 _ rfl (C3j hv2) (fun _=>rfl) hy1 (J0 trivial (B6 G_hit (.of rfl) (A3f trivial))) nofun ?_ ?_
 intro u7 hu7 hku7
 refine ⟨fun x1 g2=>(A8w rfl (A8w rfl rfl)),?_⟩
 intro r1 x1 g2 a1 z1 hrr1 hz1 ez1
 unfold X9 at hz1
 show AWL _ _ _ _ _ _ ⟨T [(12,(.d (.agg (C3g a1.2)))),(11,(di a1.1)),(3,(.ptr (3,u4) 0)),(10,(.d (.fn (.func 271) [] [(.bp [(.list (List.map A2x p1.Pts))] 0)])))],G [((1000000,u7),some (.obj (T [(3,(.ptr (3,u4) 0)),(10,(.d (.fn (.func 271) [] [(.bp [(.list (List.map A2x p1.Pts))] 0)])))]) r1)),((3,u4),some (.box 75 [(oS x1 (17,g2))])),((17,g2),oB 2 1 A5 x1)]⟩
 refine B8 fun u8 hu8=>sn rfl rfl (sst rfl G_hit (C3h a1.2) rfl (A3 (l_j (D4c (gq rfl) ?_))))
 refine A8 (B8 fun u9 hu9=>F4 (oS x1 (17,g2)) rfl (B75 rfl (gq rfl) rfl) (sp rfl rfl (sl rfl (gq rfl) rfl (F4 (dl A5 [a1.2.l]) rfl rfl (bs hz1 fun v3 hv3 hz1=>X6 A5 (17,g2) x1 a1.2.l [] _ (S7 (fun _=>rfl)) rfl (gq rfl) hv3 (sst rfl (gq rfl) [(.sl (17,u9))] rfl (A3 (H9 (H4 ?_)))))))))
 cases hz1
 exact D4d (gq rfl) u9 (B6 G_hit (.box (.cons (.of (A93 (A3e hv3)).symm) .nil)) (A36 (gq rfl) trivial))
 rintro x1 g2 _ rfl qx1
 refine H9 (l_j ?_)
 exact ⟨g2,(Sb.after qx1 (J0 ⟨.of rfl,trivial⟩ (B6 G_hit (.of rfl) (I7 (gq rfl) trivial))))⟩
 rintro _ ⟨g1,q1⟩
 refine A9 q1 (lr (fun u10 hu10=>F4 (oS y1 (17,g1)) rfl (B75 rfl G_hit rfl) (F4 (oS y1 (17,g1)) rfl rfl (A3 (B5 ?_)))))
 cases h
 exact B0 (.inr rfl) (C1 (B4 rfl) (B1b (gq rfl))) B1a
noncomputable def T0 (v1:(List Int))(x1:(Int×Int)):Option (Stp (Int×Int) Int):=
  cond (decide (x1.2< (v1.length:Int))) ((F3 v1 x1.2).bind fun v2=>some (.go ((w64 (x1.1+v2)),(w64 (x1.2+1))))) (some (.out x1.1))
noncomputable def A3i (p1:Curve):Option Int:=
  (A3h p1).bind fun v1=>(loop (T0 v1) (0,0)).bind fun y1=>some y1
theorem B7g (p1:Curve)(r:Int)(h:A3i p1=some r):PCall Tryz.prog 232 [(.agg [(.list (List.map A2x p1.Pts))])] (i64 r):=by
 refine E1 (fk Tryz.func232 Tryz.ntmps232 m0 (by with_unfolding_all rfl)) (nl rfl) ?_
 unfold A3i at h
 refine A9 (s0:=⟨T [(0,(.d _))],G []⟩) (sbr rfl rfl) ?_
 refine lr (fun u1 hu1=>sn rfl rfl (sv rfl (A3 (lr (fun u2 hu2=>sv rfl (A3 (A7 (lr (fun u3 hu3=>sd rfl (B9 rfl G_hit rfl rfl) (bs h fun v1 hv1 h=>C4 rfl rfl A4 (B7f _ _ hv1) (.inl rfl) (sd rfl (F1 rfl) (sv rfl (A3 (bs h fun y1 hy1 h=>F2 (fun s=> ∃g1:Unit,Sb ⟨T [(3,(di y1))],G []⟩ s) ?_ ?_))))))))))))))
 refine A8 (F0 (T0 v1) (fun (x1:(Int×Int)) (g2:Unit)=>⟨T [(3,(di x1.1)),(7,(dl A5 v1)),(8,(di (v1.length:Int))),(9,(di x1.2))],G []⟩) (0,0) () _ hy1 (sbr rfl rfl) ?_)
 intro x1 g2 z1 hz1 ez1
 unfold T0 at hz1
 refine lr (fun u4 hu4=>sv rfl (A3 (A7 (cc rfl hz1 (fun c1 hz1=> ?_) (fun c1 hz1=> ?_)))))
 refine B3 (A7 (A8 (lr (fun u5 hu5=>bs hz1 fun v2 hv2 hz1=>sd rfl (G6 rfl rfl hv2 rfl) (sd rfl (E9 rfl hv2 rfl) (sv rfl (A3 (B8 fun u6 hu6=>sv rfl (sv rfl (sv rfl (sv rfl (A3 (H9 (B8 fun u7 hu7=>sv rfl (sv rfl (A3 (H4 ?_)))))))))))))))))
 cases hz1
 exact ⟨rfl,(),(sbr rfl rfl)⟩
 refine C6 rfl ?_
 cases hz1
 obtain rfl:=ez1 _ rfl
 refine ⟨nofun,C2 rfl (l_j ?_)⟩
 exact ⟨(),(sbr rfl rfl)⟩
 rintro _ ⟨g1,q1⟩
 refine A9 q1 (lr (fun u8 hu8=>sv rfl (sv rfl (A3 (B5 ?_)))))
 cases h
 exact B0 (.inr rfl) (C1 (B4 rfl) I6) (.refl _)
noncomputable def A0q (p1:Map)(p2:Int):Option Int:=
  (F3 p1.Lanes p2).bind fun v1=>(A3i v1.Curve_).bind fun v2=>some v2
theorem A4c (p1:Map)(p2:Int)(r:Int)(h:A0q p1 p2=some r):PCall Tryz.prog 165 [(.agg (A0s p1)),(i64 p2)] (i64 r):=by
 refine E1 (fk Tryz.func165 Tryz.ntmps165 m0 (by with_unfolding_all rfl)) (nl rfl) ?_
 unfold A0q at h
 refine A9 (s0:=⟨T [(0,(.d _)),(1,(.d _))],G []⟩) (sbr rfl rfl) ?_
 refine lr (fun u1 hu1=>sn rfl rfl (sv rfl (A3 (lr (fun u2 hu2=>sp rfl rfl (sl rfl G_hit rfl (sv rfl (bs h fun v1 hv1 h=>sd rfl (G6 rfl rfl hv1 rfl) (sv rfl (sd rfl (F7 rfl hv1 rfl rfl) (bs h fun v2 hv2 h=>C4 rfl rfl A4 (B7g _ _ hv2) (.inl rfl) (sv rfl (A3 (B5 ?_))))))))))))))
 cases h
 exact B0 (.inr rfl) (C1 (B4 rfl) I6) (.refl _)
noncomputable def O9 (p1:RoadsCheck)(v1:Zone)(x3:Int):Option (Stp Int (Sum Unit Int)):=
  cond (decide (x3< (v1.Parts.length:Int))) ((F3 v1.Parts x3).bind fun v5=>((cond (!((decide (v5.From<0))||(decide (v5.From≥v5.To)))) (A0q p1.Map_ v5.Lane_) (some default))).bind fun v6=>cond (((((decide (v5.From<0))||(decide (v5.From≥v5.To)))||(decide (v5.To>v6)))||(decide (v5.Rank<0)))||(decide (v5.Rank>100))) (some (.out (.inr 2))) (some (.go (w64 (x3+1))))) (some (.out (.inl ())))
noncomputable def V7 (v1:Zone)(x2:((List Int)×Int)):Option (Stp ((List Int)×Int) (List Int)):=
  cond (decide (x2.2< (v1.Parts.length:Int))) ((F3 v1.Parts x2.2).bind fun v2=>(B18 x2.1 [v2.Lane_]).bind fun v3=>some (.go (v3,(w64 (x2.2+1))))) (some (.out x2.1))
noncomputable def P0 (p1:RoadsCheck)(x1:Int):Option (Stp Int (Sum Unit Int)):=
  cond (decide (x1< (p1.Map_.Zones.length:Int))) ((F3 p1.Map_.Zones x1).bind fun v1=>cond (decide ((v1.Parts.length:Int)<2)) (some (.out (.inr 6))) (cond (decide ((v1.Parts.length:Int)>6)) (some (.out (.inr 8))) (cond ((decide (v1.Signal_<0))||(decide (v1.Signal_>(p1.Map_.Signals.length:Int)))) (some (.out (.inr 2))) ((loop (V7 v1) ([],0)).bind fun y2=>(A1i y2 0 (p1.Map_.Lanes.length:Int)).bind fun v4=>cond (!v4) (some (.out (.inr 11))) (thenS (loop (O9 p1 v1) 0) (fun _=>some (.go (w64 (x1+1)))) (fun r=>some (.out (.inr r)))))))) (some (.out (.inl ())))
noncomputable def U7 (p1:RoadsCheck):Option Int:=
  thenS (loop (P0 p1) 0) (fun _=>some 0) (fun r=>some r)
theorem B2g (p1:RoadsCheck)(r:Int)(h:U7 p1=some r):PCall Tryz.prog 69 [(.agg (A0s p1.Map_))] (i64 r):=by
 refine E1 (fk Tryz.func69 Tryz.ntmps69 (fun r=>if r==15 then [1003]else []) (by with_unfolding_all rfl)) (nl rfl) ?_
 unfold U7 at h
 refine A9 (s0:=⟨T [(0,(.d _))],G []⟩) (sbr rfl rfl) ?_
 refine lr (fun u1 hu1=>sn rfl rfl (sv rfl (A3 (A7 (lr (fun u2 hu2=>sp rfl rfl (sp rfl rfl (sl rfl G_hit rfl (sd rfl (F1 rfl) (sv rfl (A3 (js h fun z1 hz1 h=>F2 (fun s=> ∃(y1:Unit) (g1:Unit),z1= .inl y1∧Sb ⟨T [],G []⟩ s) ?_ ?_))))))))))))
 refine A8 (F0 (P0 p1) (fun (x1:Int) (g2:Unit)=>⟨T [(1,(.ptr (1,u1) 0)),(13,(dl A0g p1.Map_.Zones)),(14,(di (p1.Map_.Zones.length:Int))),(15,(di x1))],G [((1,u1),some (.box 105 (A09 p1.Map_)))]⟩) 0 () _ hz1 (sbr rfl rfl) ?_)
 intro x1 g2 z2 hz2 ez2
 unfold P0 at hz2
 refine lr (fun u3 hu3=>sv rfl (A3 (A7 (cc rfl hz2 (fun c1 hz2=> ?_) (fun c1 hz2=> ?_)))))
 refine B3 (A7 (A8 (lr (fun u4 hu4=>bs hz2 fun v1 hv1 hz2=>sd rfl (G6 rfl rfl hv1 rfl) (sd rfl (F7 rfl hv1 rfl rfl) (sn rfl rfl (sst rfl G_hit [(dl R3 v1.Parts),(di v1.Signal_)] rfl (A3 (A7 (lr (fun u5 hu5=>sp rfl rfl (sl rfl G_hit rfl (sd rfl (F1 rfl) (sv rfl (A3 (A8 (lr (fun u6 hu6=>sv rfl (sv rfl (sv rfl (A3 (cc rfl hz2 (fun c2 hz2=> ?_) (fun c2 hz2=> ?_)))))))))))))))))))))))
 refine lr (fun u7 hu7=>sv rfl (A3 (B5 ?_)))
 cases hz2
 obtain rfl:=ez2 _ rfl
 refine ⟨nofun,F8 ?_⟩
 rw [Sum.elim_inr]at h
 cases h
 exact B0 (.inr rfl) (C1 (B4 rfl) I6) (.refl _)
 refine lr (fun u8 hu8=>sv rfl (sv rfl (sv rfl (A3 (cc rfl hz2 (fun c3 hz2=> ?_) (fun c3 hz2=> ?_))))))
 refine lr (fun u9 hu9=>sv rfl (A3 (B5 ?_)))
 cases hz2
 obtain rfl:=ez2 _ rfl
 refine ⟨nofun,F8 ?_⟩
 rw [Sum.elim_inr]at h
 cases h
 exact B0 (.inr rfl) (C1 (B4 rfl) I6) (.refl _)
 refine lr (fun u10 hu10=>sp rfl rfl (sl rfl G_hit rfl (sv rfl (sv rfl (gp rfl (A0f rfl) (fun _=>rfl) (gf rfl (vl rfl G_hit rfl) (gp rfl (A0f rfl) (fun _=>rfl) ?_)))))))
 refine X7 _ (.ptr _ _) rfl (A0f rfl) (fun w4=>(by simp only [A6 w4];rfl)) ?_
 refine gf rfl (vl rfl (gq rfl) rfl) (gf rfl (fun w6=>(F1 (A6 w6))) (gf rfl (fun w7=>(A1q (A6 w7) (A6 w7) rfl)) (sd rfl (A4j rfl rfl (fun hc=>A6 (R5 hc))) (sv rfl (A3 (cc rfl hz2 (fun c4 hz2=> ?_) (fun c4 hz2=> ?_)))))))
 refine A7 (A9 (s0:=⟨T [],G []⟩) (sbr rfl rfl) ?_)
 refine B8 fun u11 hu11=>sv rfl (A3 (B5 ?_))
 cases hz2
 obtain rfl:=ez2 _ rfl
 refine ⟨nofun,F8 ?_⟩
 rw [Sum.elim_inr]at h
 cases h
 exact B0 (.inr rfl) (C1 (B4 rfl) I6) (.refl _)
 refine B3 (H9 (A7 (A9 (s0:=⟨T [(1,(.ptr _ _)),(4,(.ptr _ _)),(13,(.d _)),(14,(.d _)),(15,(.d _))],G [((1,u1),some (.box 105 _)),((4,u4),some (.box 45 _))]⟩) (sbr rfl rfl) ?_)))
 refine B8 fun u12 hu12=>sv rfl (A3 (A7 (lr (fun u13 hu13=>sp rfl rfl (sl rfl (gq rfl) rfl (sd rfl (F1 rfl) (sv rfl (A3 (bs hz2 fun y2 hy2 hz2=>F2 (fun s=> ∃g3:Nat,Sb ⟨T [(1,(.ptr (1,u1) 0)),(4,(.ptr (4,u4) 0)),(6,(oS y2 (52,g3))),(13,(dl A0g p1.Map_.Zones)),(14,(di (p1.Map_.Zones.length:Int))),(15,(di x1))],G [((1,u1),some (.box 105 (A09 p1.Map_))),((4,u4),some (.box 45 [(dl R3 v1.Parts),(di v1.Signal_)])),((52,g3),oB 3 1 A5 y2)]⟩ s) ?_ ?_)))))))))
 refine A8 (F0 (V7 v1) (fun (x2:((List Int)×Int)) (g4:Nat)=>⟨T [(1,(.ptr (1,u1) 0)),(4,(.ptr (4,u4) 0)),(6,(oS x2.1 (52,g4))),(13,(dl A0g p1.Map_.Zones)),(14,(di (p1.Map_.Zones.length:Int))),(15,(di x1)),(42,(dl R3 v1.Parts)),(43,(di (v1.Parts.length:Int))),(44,(di x2.2))],G [((1,u1),some (.box 105 (A09 p1.Map_))),((4,u4),some (.box 45 [(dl R3 v1.Parts),(di v1.Signal_)])),((52,g4),oB 3 1 A5 x2.1)]⟩) ([],0) 0 _ hy2 (J0 ⟨.of rfl, .of rfl, .of rfl, .of rfl, .of rfl, .of rfl, .of rfl, .of rfl, .of rfl,trivial⟩ (B6 G_hit (.of rfl) (sg rfl (A3f trivial)))) ?_)
 intro x2 g4 z3 hz3 ez3
 unfold V7 at hz3
 refine lr (fun u14 hu14=>sv rfl (A3 (A7 (cc rfl hz3 (fun c5 hz3=> ?_) (fun c5 hz3=> ?_)))))
 refine B3 (A7 (A8 (lr (fun u15 hu15=>bs hz3 fun v2 hv2 hz3=>sd rfl (G6 rfl rfl hv2 rfl) (sd rfl (F7 rfl hv2 rfl rfl) (sn rfl rfl (sst rfl G_hit (B10 v2) rfl (A3 (B8 fun u16 hu16=>F4 (oS x2.1 (52,g4)) rfl rfl (sp rfl rfl (sl rfl G_hit rfl (F4 (dl A5 [v2.Lane_]) rfl rfl (bs hz3 fun v3 hv3 hz3=>X6 A5 (52,g4) x2.1 v2.Lane_ [] _ (S7 (fun _=>rfl)) rfl (gq rfl) hv3 (ss rfl (A3 (H9 (A9 (s0:=⟨T [(1,(.ptr _ _)),(4,(.ptr _ _)),(6,(.sl _)),(13,(.d _)),(14,(.d _)),(15,(.d _)),(42,(.d _)),(43,(.d _)),(44,(.d _))],G [((1,u1),some (.box 105 _)),((4,u4),some (.box 45 _)),((52,u16),some _)]⟩) (sbr rfl rfl) ?_)))))))))))))))))
 refine B8 fun u17 hu17=>sv rfl (sv rfl (A3 (H4 ?_)))
 cases hz3
 exact ⟨rfl,u16,(J0 ⟨.of rfl, .of rfl,(.of (A93 (A3e hv3)).symm), .of rfl, .of rfl, .of rfl, .of rfl, .of rfl, .of rfl,trivial⟩ (B6 G_hit (.of rfl) (sg rfl (A36 (gq rfl) trivial))))⟩
 refine C6 rfl ?_
 cases hz3
 obtain rfl:=ez3 _ rfl
 refine ⟨nofun,C2 rfl (l_j ?_)⟩
 exact ⟨g4,(J0 ⟨.of rfl, .of rfl, .of rfl, .of rfl, .of rfl, .of rfl,trivial⟩ (B6 G_hit (.of rfl) (sg rfl (I7 (gq rfl) trivial))))⟩
 rintro _ ⟨g3,q1⟩
 refine A9 q1 (A7 (lr (fun u18 hu18=>F4 (oS y2 (52,g3)) rfl rfl (sp rfl rfl (sp rfl rfl (sl rfl G_hit rfl (sd rfl (F1 rfl) (bs hz2 fun v4 hv4 hz2=>C4 rfl (Q5 (B1b (gq rfl)) (rD (rD N0))) (.cons B1a (.cons (.refl _) A4)) (A7z _ _ _ _ hv4) (.inr rfl) (F4 (.d (bo (!v4))) rfl rfl (A3 (cc rfl hz2 (fun c6 hz2=> ?_) (fun c6 hz2=> ?_))))))))))))
 refine lr (fun u19 hu19=>sv rfl (A3 (B5 ?_)))
 cases hz2
 obtain rfl:=ez2 _ rfl
 refine ⟨nofun,F8 ?_⟩
 rw [Sum.elim_inr]at h
 cases h
 exact B0 (.inr rfl) (C1 (B4 rfl) I6) (.refl _)
 refine B3 (lr (fun u20 hu20=>sp rfl rfl (sl rfl (gq rfl) rfl (sd rfl (F1 rfl) (sv rfl (A3 (js hz2 fun z4 hz4 hz2=>F2 (fun s=> ∃(y3:Unit) (g5:Unit),z4= .inl y3∧Sb ⟨T [(1,(.ptr (1,u1) 0)),(13,(dl A0g p1.Map_.Zones)),(14,(di (p1.Map_.Zones.length:Int))),(15,(di x1))],G [((1,u1),some (.box 105 (A09 p1.Map_)))]⟩ s) ?_ ?_)))))))
 refine A8 (F0 (O9 p1 v1) (fun (x3:Int) (g6:Unit)=>⟨T [(1,(.ptr (1,u1) 0)),(13,(dl A0g p1.Map_.Zones)),(14,(di (p1.Map_.Zones.length:Int))),(15,(di x1)),(62,(dl R3 v1.Parts)),(63,(di (v1.Parts.length:Int))),(64,(di x3))],G [((1,u1),some (.box 105 (A09 p1.Map_)))]⟩) 0 () _ hz4 (sbr rfl rfl) ?_)
 intro x3 g6 z5 hz5 ez5
 unfold O9 at hz5
 refine lr (fun u21 hu21=>sv rfl (A3 (A7 (cc rfl hz5 (fun c7 hz5=> ?_) (fun c7 hz5=> ?_)))))
 refine B3 (A7 (A8 (lr (fun u22 hu22=>bs hz5 fun v5 hv5 hz5=>sd rfl (G6 rfl rfl hv5 rfl) (sd rfl (F7 rfl hv5 rfl rfl) (sn rfl rfl (sst rfl G_hit (B10 v5) rfl (A3 (A7 (N6 rfl fun u23 hu23=>sp rfl rfl (sl rfl G_hit rfl (sv rfl (sv rfl (gp rfl (A0f rfl) (fun _=>rfl) (gf rfl (vl rfl G_hit rfl) (gp rfl (A0f rfl) (fun _=>rfl) (gf rfl (vl rfl G_hit rfl) (gf rfl (fun w12=>(A1q (A6 w12) (A6 w12) rfl)) (sd rfl (A4j rfl rfl (fun hc=>A6 (R5 hc))) (sv rfl (gp rfl (A0f rfl) (fun _=>rfl) (gf rfl (vl rfl G_hit rfl) (gp rfl (A0f rfl) (fun _=>rfl) (gf rfl (fun w16=>(B9 (A6 w16) (gq rfl) rfl rfl)) (gp rfl (A0f rfl) (fun _=>rfl) (gf rfl (vl rfl G_hit rfl) (bs hz5 fun v6 hv6 hz5=> ?_)))))))))))))))))))))))))))
 refine U1 _ (i64 v6) (A0f rfl) (fun w19=>⟨_,[(.d (.agg (A0s p1.Map_))),(di v5.Lane_)],_,_,(by simp only [A6 w19];rfl),rfl,A4,A4c _ _ _ (E8 w19 hv6),(.inl rfl)⟩) ?_
 refine gf rfl (fun w20=>(A1q (A6 w20) (A6 w20) rfl)) (sd rfl (A4j rfl rfl (fun hc=>A6 (R5 hc))) (sv rfl (gp rfl (A0f rfl) (fun _=>rfl) (gf rfl (vl rfl G_hit rfl) (gf rfl (vb rfl rfl rfl) (sd rfl (A4j rfl rfl (fun hc=>A6 (R5 hc))) (sv rfl (gp rfl (A0f rfl) (fun _=>rfl) (gf rfl (vl rfl G_hit rfl) (gf rfl (vb rfl rfl rfl) (sd rfl (A4j rfl rfl (fun hc=>A6 (R5 hc))) (A3 (cc rfl hz5 (fun c8 hz5=> ?_) (fun c8 hz5=> ?_))))))))))))))
 refine A7 (A9 (s0:=⟨T [],G []⟩) (sbr rfl rfl) ?_)
 refine B8 fun u24 hu24=>sv rfl (A3 (B5 ?_))
 cases hz5
 obtain rfl:=ez5 _ rfl
 refine ⟨nofun,F8 ?_⟩
 rw [Sum.elim_inr]at hz2
 cases hz2
 obtain rfl:=ez2 _ rfl
 refine ⟨nofun,F8 ?_⟩
 rw [Sum.elim_inr]at h
 cases h
 exact B0 (.inr rfl) (C1 (B4 rfl) I6) (.refl _)
 refine B3 (H9 (A9 (s0:=⟨T [(1,(.ptr _ _)),(13,(.d _)),(14,(.d _)),(15,(.d _)),(62,(.d _)),(63,(.d _)),(64,(.d _))],G [((1,u1),some (.box 105 _))]⟩) (sbr rfl rfl) ?_))
 refine B8 fun u25 hu25=>sv rfl (sv rfl (A3 (H4 ?_)))
 cases hz5
 exact ⟨rfl,(),(sbr rfl rfl)⟩
 refine C6 rfl ?_
 cases hz5
 obtain rfl:=ez5 _ rfl
 refine ⟨nofun,C2 rfl (l_j ?_)⟩
 exact ⟨_,(),rfl,(sbr rfl rfl)⟩
 rintro _ ⟨y3,g5,rfl,q2⟩
 rw [Sum.elim_inl]at hz2
 refine H9 (A9 q2 (B8 fun u26 hu26=>sv rfl (sv rfl (A3 (H4 ?_)))))
 cases hz2
 exact ⟨rfl,(),(sbr rfl rfl)⟩
 refine C6 rfl ?_
 cases hz2
 obtain rfl:=ez2 _ rfl
 refine ⟨nofun,C2 rfl (l_j ?_)⟩
 exact ⟨_,(),rfl,(sbr rfl rfl)⟩
 rintro _ ⟨y1,g1,rfl,q3⟩
 rw [Sum.elim_inl]at h
 refine A9 q3 (lr (fun u27 hu27=>sv rfl (A3 (B5 ?_))))
 cases h
 exact B0 (.inr rfl) (C1 (B4 rfl) I6) (.refl _)
noncomputable def P1 (p1:RoadsCheck)(x1:Int):Option (Stp Int (Sum Unit Int)):=
  cond (decide (x1< (p1.Map_.Works.length:Int))) ((F3 p1.Map_.Works x1).bind fun v1=>cond ((decide (v1.Lane_<0))||(decide (v1.Lane_≥(p1.Map_.Lanes.length:Int)))) (some (.out (.inr 7))) ((F3 p1.Map_.Lanes v1.Lane_).bind fun v2=>(A2k v2.Kind).bind fun v3=>((cond (!((decide (v1.From<0))||(decide (v1.From>v1.To)))) (A0q p1.Map_ v1.Lane_) (some default))).bind fun v4=>((cond (!((((((decide (v1.From<0))||(decide (v1.From>v1.To)))||(decide (v1.To>v4)))||(decide (v1.Begin<0)))||(decide (v1.Begin≥v1.End)))||(decide (v1.End>1099511627776)))) (Q6 v1.Limit 0 v3.1) (some default))).bind fun v5=>cond (((((((decide (v1.From<0))||(decide (v1.From>v1.To)))||(decide (v1.To>v4)))||(decide (v1.Begin<0)))||(decide (v1.Begin≥v1.End)))||(decide (v1.End>1099511627776)))||(!v5)) (some (.out (.inr 2))) (some (.go (w64 (x1+1)))))) (some (.out (.inl ())))
noncomputable def U8 (p1:RoadsCheck):Option Int:=
  thenS (loop (P1 p1) 0) (fun _=>some 0) (fun r=>some r)
theorem B2h (p1:RoadsCheck)(r:Int)(h:U8 p1=some r):PCall Tryz.prog 70 [(.agg (A0s p1.Map_))] (i64 r):=by
 refine E1 (fk Tryz.func70 Tryz.ntmps70 m0 (by with_unfolding_all rfl)) (nl rfl) ?_
 unfold U8 at h
 refine A9 (s0:=⟨T [(0,(.d _))],G []⟩) (sbr rfl rfl) ?_
 refine lr (fun u1 hu1=>sn rfl rfl (sv rfl (A3 (A7 (lr (fun u2 hu2=>sp rfl rfl (sp rfl rfl (sl rfl G_hit rfl (sd rfl (F1 rfl) (sv rfl (A3 (js h fun z1 hz1 h=>F2 (fun s=> ∃(y1:Unit) (g1:Unit),z1= .inl y1∧Sb ⟨T [],G []⟩ s) ?_ ?_))))))))))))
 refine A8 (F0 (P1 p1) (fun (x1:Int) (g2:Unit)=>⟨T [(1,(.ptr (1,u1) 0)),(10,(dl B7b p1.Map_.Works)),(11,(di (p1.Map_.Works.length:Int))),(12,(di x1))],G [((1,u1),some (.box 105 (A09 p1.Map_)))]⟩) 0 () _ hz1 (sbr rfl rfl) ?_)
 intro x1 g2 z2 hz2 ez2
 unfold P1 at hz2
 refine lr (fun u3 hu3=>sv rfl (A3 (A7 (cc rfl hz2 (fun c1 hz2=> ?_) (fun c1 hz2=> ?_)))))
 refine B3 (A7 (A8 (lr (fun u4 hu4=>bs hz2 fun v1 hv1 hz2=>sd rfl (G6 rfl rfl hv1 rfl) (sd rfl (F7 rfl hv1 rfl rfl) (sn rfl rfl (sst rfl G_hit (D4u v1) rfl (A3 (A7 (lr (fun u5 hu5=>sp rfl rfl (sl rfl G_hit rfl (sv rfl (sv rfl (gp rfl (A0f rfl) (fun _=>rfl) (gf rfl (vl rfl G_hit rfl) (gp rfl (A0f rfl) (fun _=>rfl) ?_)))))))))))))))))
 refine X7 _ (.ptr _ _) rfl (A0f rfl) (fun w4=>(by simp only [A6 w4];rfl)) ?_
 refine gf rfl (vl rfl (gq rfl) rfl) (gf rfl (fun w6=>(F1 (A6 w6))) (gf rfl (fun w7=>(A1q (A6 w7) (A6 w7) rfl)) (sd rfl (A4j rfl rfl (fun hc=>A6 (R5 hc))) (A3 (cc rfl hz2 (fun c2 hz2=> ?_) (fun c2 hz2=> ?_))))))
 refine A7 (A9 (s0:=⟨T [],G []⟩) (sbr rfl rfl) ?_)
 refine B8 fun u6 hu6=>sv rfl (A3 (B5 ?_))
 cases hz2
 obtain rfl:=ez2 _ rfl
 refine ⟨nofun,F8 ?_⟩
 rw [Sum.elim_inr]at h
 cases h
 exact B0 (.inr rfl) (C1 (B4 rfl) I6) (.refl _)
 refine B3 (A7 (A9 (s0:=⟨T [(1,(.ptr _ _)),(4,(.ptr _ _)),(10,(.d _)),(11,(.d _)),(12,(.d _))],G [((1,u1),some (.box 105 _)),((4,u4),some (.box 50 _))]⟩) (sbr rfl rfl) ?_))
 refine B8 fun u7 hu7=>sp rfl rfl (sp rfl rfl (sl rfl G_hit rfl (sp rfl rfl (sl rfl (gq rfl) rfl (bs hz2 fun v2 hv2 hz2=>sd rfl (G6 rfl rfl hv2 rfl) (sv rfl (sd rfl (E9 rfl hv2 rfl) (bs hz2 fun v3 hv3 hz2=>C4 rfl rfl A4 (B1h _ _ hv3) (.inl rfl) (sv rfl (sv rfl (sv rfl (sv rfl (sv rfl (sv rfl (sv rfl (A3 (A7 (A9 (s0:=⟨T [(1,(.ptr _ _)),(4,(.ptr _ _)),(5,(.d _)),(10,(.d _)),(11,(.d _)),(12,(.d _))],G [((1,u1),some (.box 105 _)),((4,u4),some (.box 50 _))]⟩) (sbr rfl rfl) ?_))))))))))))))))))
 refine N6 rfl fun u8 hu8=>sp rfl rfl (sl rfl (gq rfl) rfl (sv rfl (sv rfl (gp rfl (A0f rfl) (fun _=>rfl) (gf rfl (vl rfl (gq rfl) rfl) (gp rfl (A0f rfl) (fun _=>rfl) (gf rfl (vl rfl (gq rfl) rfl) (gf rfl (fun w12=>(A1q (A6 w12) (A6 w12) rfl)) (sd rfl (A4j rfl rfl (fun hc=>A6 (R5 hc))) (sv rfl (gp rfl (A0f rfl) (fun _=>rfl) (gf rfl (vl rfl (gq rfl) rfl) (gp rfl (A0f rfl) (fun _=>rfl) (gf rfl (fun w16=>(B9 (A6 w16) G_hit rfl rfl)) (gp rfl (A0f rfl) (fun _=>rfl) (gf rfl (vl rfl (gq rfl) rfl) (bs hz2 fun v4 hv4 hz2=> ?_)))))))))))))))))
 refine U1 _ (i64 v4) (A0f rfl) (fun w19=>⟨_,[(.d (.agg (A0s p1.Map_))),(di v1.Lane_)],_,_,(by simp only [A6 w19];rfl),rfl,A4,A4c _ _ _ (E8 w19 hv4),(.inl rfl)⟩) ?_
 refine gf rfl (fun w20=>(A1q (A6 w20) (A6 w20) rfl)) (sd rfl (A4j rfl rfl (fun hc=>A6 (R5 hc))) (sv rfl (gp rfl (A0f rfl) (fun _=>rfl) (gf rfl (vl rfl (gq rfl) rfl) (gf rfl (vb rfl rfl rfl) (sd rfl (A4j rfl rfl (fun hc=>A6 (R5 hc))) (sv rfl (gp rfl (A0f rfl) (fun _=>rfl) (gf rfl (vl rfl (gq rfl) rfl) (gp rfl (A0f rfl) (fun _=>rfl) (gf rfl (vl rfl (gq rfl) rfl) (gf rfl (fun w28=>(A1q (A6 w28) (A6 w28) rfl)) (sd rfl (A4j rfl rfl (fun hc=>A6 (R5 hc))) (sv rfl (gp rfl (A0f rfl) (fun _=>rfl) (gf rfl (vl rfl (gq rfl) rfl) (gf rfl (vb rfl rfl rfl) (sd rfl (A4j rfl rfl (fun hc=>A6 (R5 hc))) (sv rfl (gp rfl (A0f rfl) (fun _=>rfl) (gf rfl (vl rfl (gq rfl) rfl) (gf rfl (fun _=>rfl) (bs hz2 fun v5 hv5 hz2=> ?_)))))))))))))))))))))))
 refine U1 _ (bo v5) (A0f rfl) (fun w35=>⟨_,[(di v1.Limit),(di 0),(di v3.1)],_,_,(by simp only [A6 w35];rfl),rfl,A4,S9 _ _ _ _ (E8 w35 hv5),(.inl rfl)⟩) ?_
 refine X7 _ (.d (bo (!v5))) rfl (A0f rfl) (fun w36=>(by simp only [A6 w36];rfl)) ?_
 refine sd rfl (A4j rfl rfl (fun hc=>A6 (R5 hc))) (A3 (cc rfl hz2 (fun c3 hz2=> ?_) (fun c3 hz2=> ?_)))
 refine A7 (A9 (s0:=⟨T [],G []⟩) (sbr rfl rfl) ?_)
 refine B8 fun u9 hu9=>sv rfl (A3 (B5 ?_))
 cases hz2
 obtain rfl:=ez2 _ rfl
 refine ⟨nofun,F8 ?_⟩
 rw [Sum.elim_inr]at h
 cases h
 exact B0 (.inr rfl) (C1 (B4 rfl) I6) (.refl _)
 refine B3 (H9 (A9 (s0:=⟨T [(1,(.ptr _ _)),(10,(.d _)),(11,(.d _)),(12,(.d _))],G [((1,u1),some (.box 105 _))]⟩) (sbr rfl rfl) ?_))
 refine B8 fun u10 hu10=>sv rfl (sv rfl (A3 (H4 ?_)))
 cases hz2
 exact ⟨rfl,(),(sbr rfl rfl)⟩
 refine C6 rfl ?_
 cases hz2
 obtain rfl:=ez2 _ rfl
 refine ⟨nofun,C2 rfl (l_j ?_)⟩
 exact ⟨_,(),rfl,(sbr rfl rfl)⟩
 rintro _ ⟨y1,g1,rfl,q1⟩
 rw [Sum.elim_inl]at h
 refine A9 q1 (lr (fun u11 hu11=>sv rfl (A3 (B5 ?_))))
 cases h
 exact B0 (.inr rfl) (C1 (B4 rfl) I6) (.refl _)
noncomputable def R6 (v:Nat)(p1:RoadsCheck):Option Int:=
  cond (Nat.beq v 65) (Q7 p1) (cond (Nat.beq v 66) (U5 p1) (cond (Nat.beq v 67) (S6 p1) (cond (Nat.beq v 68) (Q8 p1) (cond (Nat.beq v 69) (U7 p1) (cond (Nat.beq v 70) (U8 p1) (none))))))
theorem A78 (v:Nat)(p1:RoadsCheck)(r:Int)(h:R6 v p1=some r):PCall Tryz.prog v [(.agg [(i64 p1.Map_.Version),(.list (List.map B1d p1.Map_.Lanes)),(.list (List.map A0g p1.Map_.Zones)),(.list (List.map B04 p1.Map_.Signals)),(.list (List.map B7b p1.Map_.Works))])] (i64 r):=by
  unfold R6 at h
  rcases B9t h with ⟨rfl,h⟩|⟨_,h⟩
  ·exact B11 _ r h
  rcases B9t h with ⟨rfl,h⟩|⟨_,h⟩
  ·exact B2f _ r h
  rcases B9t h with ⟨rfl,h⟩|⟨_,h⟩
  ·exact B1i _ r h
  rcases B9t h with ⟨rfl,h⟩|⟨_,h⟩
  ·exact B12 _ r h
  rcases B9t h with ⟨rfl,h⟩|⟨_,h⟩
  ·exact B2g _ r h
  rcases B9t h with ⟨rfl,h⟩|⟨_,h⟩
  ·exact B2h _ r h
  cases h
noncomputable def M0 (p1:Map)(x1:Int):Option (Stp Int (Sum Unit Int)):=
  cond (decide (x1< ([65,66,67,68,69,70].length:Int))) ((F3 [65,66,67,68,69,70] x1).bind fun v1=>(R6 v1 (RoadsCheck.mk p1)).bind fun v2=>cond (v2 !=0) (some (.out (.inr v2))) (some (.go (w64 (x1+1))))) (some (.out (.inl ())))
noncomputable def A1r (p1:Map):Option Int:=
  thenS (loop (M0 p1) 0) (fun _=>some 0) (fun r=>some r)
theorem A6g (p1:Map)(r:Int)(h:A1r p1=some r):PCall Tryz.prog 16 [(.agg (A0s p1))] (i64 r):=by
 refine E1 (fk Tryz.func16 Tryz.ntmps16 (fun r=>if r==1 then [1000]else []) (by with_unfolding_all rfl)) (nl rfl) ?_
 unfold A1r at h
 refine A9 (s0:=⟨T [(0,(.d _))],G []⟩) (sbr rfl rfl) ?_
 refine lr (fun u1 hu1=>sn rfl rfl (sv rfl (A3 (A7 (lr (fun u2 hu2=>F4 (dl eFn [65,66,67,68,69,70]) rfl rfl (sd rfl (F1 rfl) (sv rfl (A3 (js h fun z1 hz1 h=>F2 (fun s=> ∃(y1:Unit) (g1:Unit),z1= .inl y1∧Sb ⟨T [],G []⟩ s) ?_ ?_))))))))))
 refine A8 (F0 (M0 p1) (fun (x1:Int) (g2:Unit)=>⟨T [(1,(.ptr (1,u1) 0)),(6,(dl eFn [65,66,67,68,69,70])),(7,(di ([65,66,67,68,69,70].length:Int))),(8,(di x1))],G [((1,u1),some (.box 27 (A09 p1)))]⟩) 0 () _ hz1 (sbr rfl rfl) ?_)
 intro x1 g2 z2 hz2 ez2
 unfold M0 at hz2
 refine lr (fun u3 hu3=>sv rfl (A3 (A7 (cc rfl hz2 (fun c1 hz2=> ?_) (fun c1 hz2=> ?_)))))
 refine B3 (A7 (A8 (lr (fun u4 hu4=>bs hz2 fun v1 hv1 hz2=>sd rfl (G6 rfl rfl hv1 rfl) (sd rfl (E9 rfl hv1 rfl) (sv rfl (A3 (lr (fun u5 hu5=>sv rfl (sd rfl (B9 rfl G_hit rfl rfl) (sv rfl (bs hz2 fun v2 hv2 hz2=>C4 rfl rfl A4 (A78 _ _ _ hv2) (.inl rfl) (sv rfl (A3 (lr (fun u6 hu6=>sv rfl (sv rfl (A3 (cc rfl hz2 (fun c2 hz2=> ?_) (fun c2 hz2=> ?_))))))))))))))))))))
 refine lr (fun u7 hu7=>sv rfl (sv rfl (A3 (B5 ?_))))
 cases hz2
 obtain rfl:=ez2 _ rfl
 refine ⟨nofun,F8 ?_⟩
 rw [Sum.elim_inr]at h
 cases h
 exact B0 (.inr rfl) (C1 (B4 rfl) I6) (.refl _)
 refine B3 (H9 (B8 fun u8 hu8=>sv rfl (sv rfl (A3 (H4 ?_)))))
 cases hz2
 exact ⟨rfl,(),(sbr rfl rfl)⟩
 refine C6 rfl ?_
 cases hz2
 obtain rfl:=ez2 _ rfl
 refine ⟨nofun,C2 rfl (l_j ?_)⟩
 exact ⟨_,(),rfl,(sbr rfl rfl)⟩
 rintro _ ⟨y1,g1,rfl,q1⟩
 rw [Sum.elim_inl]at h
 refine A9 q1 (lr (fun u9 hu9=>sv rfl (A3 (B5 ?_))))
 cases h
 exact B0 (.inr rfl) (C1 (B4 rfl) I6) (.refl _)
noncomputable def O2 (p1:(List Int))(p2:Int)(x1:Int):Option (Stp Int (Sum Unit Int)):=
  cond (decide (x1< (p1.length:Int))) ((F3 p1 x1).bind fun v1=>cond (p2==v1) (some (.out (.inr x1))) (some (.go (w64 (x1+1))))) (some (.out (.inl ())))
noncomputable def V8 (p1:(List Int))(p2:Int):Option Int:=
  thenS (loop (O2 p1 p2) 0) (fun _=>some (-1)) (fun r=>some r)
theorem B05 (p1:(List Int))(p2:Int)(r:Int)(h:V8 p1 p2=some r):PCall Tryz.prog 224 [(.list (List.map A5 p1)),(i64 p2)] (i64 r):=by
 refine E1 (fk Tryz.func224 Tryz.ntmps224 m0 (by with_unfolding_all rfl)) (nl rfl) ?_
 unfold V8 at h
 refine A9 (s0:=⟨T [(0,(.d _)),(1,(.d _))],G []⟩) (sbr rfl rfl) ?_
 refine lr (fun u1 hu1=>sv rfl (A3 (A7 (lr (fun u2 hu2=>sv rfl (sd rfl (F1 rfl) (sv rfl (A3 (js h fun z1 hz1 h=>F2 (fun s=> ∃(y1:Unit) (g1:Unit),z1= .inl y1∧Sb ⟨T [],G []⟩ s) ?_ ?_)))))))))
 refine A8 (F0 (O2 p1 p2) (fun (x1:Int) (g2:Unit)=>⟨T [(0,(dl A5 p1)),(1,(di p2)),(7,(di (p1.length:Int))),(8,(di x1))],G []⟩) 0 () _ hz1 (sbr rfl rfl) ?_)
 intro x1 g2 z2 hz2 ez2
 unfold O2 at hz2
 refine lr (fun u3 hu3=>sv rfl (A3 (A7 (cc rfl hz2 (fun c1 hz2=> ?_) (fun c1 hz2=> ?_)))))
 refine B3 (A7 (A8 (lr (fun u4 hu4=>sv rfl (sv rfl (A3 (lr (fun u5 hu5=>sv rfl (sv rfl (sv rfl (bs hz2 fun v1 hv1 hz2=>sd rfl (G6 rfl rfl hv1 rfl) (sd rfl (E9 rfl hv1 rfl) (sv rfl (A3 (cc rfl hz2 (fun c2 hz2=> ?_) (fun c2 hz2=> ?_))))))))))))))))
 refine lr (fun u6 hu6=>sv rfl (sv rfl (A3 (B5 ?_))))
 cases hz2
 obtain rfl:=ez2 _ rfl
 refine ⟨nofun,F8 ?_⟩
 rw [Sum.elim_inr]at h
 cases h
 exact B0 (.inr rfl) (C1 (B4 rfl) I6) (.refl _)
 refine B3 (H9 (B8 fun u7 hu7=>sv rfl (sv rfl (A3 (H4 ?_)))))
 cases hz2
 exact ⟨rfl,(),(sbr rfl rfl)⟩
 refine C6 rfl ?_
 cases hz2
 obtain rfl:=ez2 _ rfl
 refine ⟨nofun,C2 rfl (l_j ?_)⟩
 exact ⟨_,(),rfl,(sbr rfl rfl)⟩
 rintro _ ⟨y1,g1,rfl,q1⟩
 rw [Sum.elim_inl]at h
 refine A9 q1 (lr (fun u8 hu8=>sv rfl (A3 (B5 ?_))))
 cases h
 exact B0 (.inr rfl) (C1 (B4 rfl) I6) (.refl _)
noncomputable def J4 (p1:(List Int))(p2:Int):Option Bool:=
  (V8 p1 p2).bind fun v1=>some (decide (v1≥0))
theorem W4 (p1:(List Int))(p2:Int)(r:Bool)(h:J4 p1 p2=some r):PCall Tryz.prog 136 [(.list (List.map A5 p1)),(i64 p2)] (bo r):=by
 refine E1 (fk Tryz.func136 Tryz.ntmps136 m0 (by with_unfolding_all rfl)) (nl rfl) ?_
 unfold J4 at h
 refine A9 (s0:=⟨T [(0,(.d _)),(1,(.d _))],G []⟩) (sbr rfl rfl) ?_
 refine lr (fun u1 hu1=>sv rfl (A3 (lr (fun u2 hu2=>sv rfl (sv rfl (bs h fun v1 hv1 h=>C4 rfl rfl A4 (B05 _ _ _ hv1) (.inl rfl) (sv rfl (sv rfl (A3 (B5 ?_))))))))))
 cases h
 exact B0 (.inr rfl) (C1 (B4 rfl) I6) (.refl _)
noncomputable def A0v (p1:Map)(p2:Int)(x1:((List Int)×Int)):Option (Stp ((List Int)×Int) (List Int)):=
  cond (decide (x1.2< (p1.Lanes.length:Int))) ((F3 p1.Lanes x1.2).bind fun v1=>(J4 v1.Next p2).bind fun v2=>cond v2 ((B18 x1.1 [x1.2]).bind fun v3=>some (.go (v3,(w64 (x1.2+1))))) (some (.go (x1.1,(w64 (x1.2+1)))))) (some (.out x1.1))
noncomputable def A1j (p1:Map)(p2:Int):Option (List Int):=
  (loop (A0v p1 p2) ([],0)).bind fun y1=>some y1
theorem A80 (p1:Map)(p2:Int)(r:(List Int))(h:A1j p1 p2=some r):PCall Tryz.prog 135 [(.agg (A0s p1)),(i64 p2)] (.list (List.map A5 r)):=by
 refine E1 (fk Tryz.func135 Tryz.ntmps135 (fun r=>if r==6 then [1002]else []) (by with_unfolding_all rfl)) (nl rfl) ?_
 unfold A1j at h
 refine A9 (s0:=⟨T [(0,(.d _)),(1,(.d _))],G []⟩) (sbr rfl rfl) ?_
 refine lr (fun u1 hu1=>sn rfl rfl (sv rfl (A3 (lr (fun u2 hu2=>sv rfl (A3 (A7 (lr (fun u3 hu3=>sp rfl rfl (sl rfl G_hit rfl (sd rfl (F1 rfl) (sv rfl (A3 (bs h fun y1 hy1 h=>F2 (fun s=> ∃g1:Nat,Sb ⟨T [(5,(oS y1 (23,g1)))],G [((23,g1),oB 3 1 A5 y1)]⟩ s) ?_ ?_))))))))))))))
 refine A8 (F0 (A0v p1 p2) (fun (x1:((List Int)×Int)) (g2:Nat)=>⟨T [(1,(di p2)),(5,(oS x1.1 (23,g2))),(9,(dl B1d p1.Lanes)),(10,(di (p1.Lanes.length:Int))),(11,(di x1.2))],G [((23,g2),oB 3 1 A5 x1.1)]⟩) ([],0) 0 _ hy1 (J0 ⟨.of rfl, .of rfl, .of rfl, .of rfl, .of rfl,trivial⟩ (A3f trivial)) ?_)
 intro x1 g2 z1 hz1 ez1
 unfold A0v at hz1
 refine lr (fun u4 hu4=>sv rfl (A3 (A7 (cc rfl hz1 (fun c1 hz1=> ?_) (fun c1 hz1=> ?_)))))
 refine B3 (A7 (A8 (lr (fun u5 hu5=>sv rfl (bs hz1 fun v1 hv1 hz1=>sd rfl (G6 rfl rfl hv1 rfl) (sd rfl (F7 rfl hv1 rfl rfl) (sn rfl rfl (sv rfl (sst rfl G_hit (B1e v1) rfl (A3 (lr (fun u6 hu6=>sp rfl rfl (sl rfl G_hit rfl (sv rfl (bs hz1 fun v2 hv2 hz1=>C4 rfl rfl A4 (W4 _ _ _ hv2) (.inl rfl) (A3 (cc rfl hz1 (fun c2 hz1=> ?_) (fun c2 hz1=> ?_))))))))))))))))))
 refine B8 fun u7 hu7=>F4 (oS x1.1 (23,g2)) rfl rfl (sv rfl (F4 (dl A5 [x1.2]) rfl rfl (bs hz1 fun v3 hv3 hz1=>X6 A5 (23,g2) x1.1 x1.2 [] _ (S7 (fun _=>rfl)) rfl (gq rfl) hv3 (ss rfl (A3 (H9 (A9 (s0:=⟨T [(1,(.d _)),(5,(.sl _)),(9,(.d _)),(10,(.d _)),(11,(.d _))],G [((23,u7),some _)]⟩) (sbr rfl rfl) ?_)))))))
 refine B8 fun u8 hu8=>sv rfl (sv rfl (A3 (H4 ?_)))
 cases hz1
 exact ⟨rfl,u7,(J0 ⟨.of rfl,(.of (A93 (A3e hv3)).symm), .of rfl, .of rfl, .of rfl,trivial⟩ (A36 G_hit trivial))⟩
 refine B3 (H9 (B8 fun u9 hu9=>sv rfl (sv rfl (A3 (H4 ?_)))))
 cases hz1
 exact ⟨rfl,g2,(J0 ⟨.of rfl, .of rfl, .of rfl, .of rfl, .of rfl,trivial⟩ (I7 (gq rfl) trivial))⟩
 refine C6 rfl ?_
 cases hz1
 obtain rfl:=ez1 _ rfl
 refine ⟨nofun,C2 rfl (l_j ?_)⟩
 exact ⟨g2,(J0 ⟨.of rfl,trivial⟩ (I7 G_hit trivial))⟩
 rintro _ ⟨g1,q1⟩
 refine A9 q1 (lr (fun u10 hu10=>F4 (oS y1 (23,g1)) rfl rfl (F4 (oS y1 (23,g1)) rfl rfl (A3 (B5 ?_)))))
 cases h
 exact B0 (.inr rfl) (C1 (B4 rfl) (B1b G_hit)) B1a
noncomputable def O3 (p1:Map)(v7:List Int)(x1:(Int×Int)):Option (Stp (Int×Int) (Sum Unit Int)):=
  cond (decide (x1.2< (v7.length:Int))) ((F3 v7 x1.2).bind fun v8=>(F3 p1.Lanes x1.1).bind fun v9=>(J4 v9.Next v8).bind fun v10=>cond (!v10) (some (.out (.inr 13))) (some (.go (v8,(w64 (x1.2+1)))))) (some (.out (.inl ())))
noncomputable def V9 (p1:Map)(p2:(List Int)):Option Int:=
  (A1r p1).bind fun v1=>cond (v1 !=0) (some v1) (((cond (!(((p2.length:Int)==0)||(decide ((p2.length:Int)>8)))) (F3 p2 0) (some default))).bind fun v2=>((cond (!((((p2.length:Int)==0)||(decide ((p2.length:Int)>8)))||(decide (v2<0)))) (F3 p2 0) (some default))).bind fun v3=>((cond (!(((((p2.length:Int)==0)||(decide ((p2.length:Int)>8)))||(decide (v2<0)))||(decide (v3≥(p1.Lanes.length:Int))))) (F3 p2 0) (some default))).bind fun v4=>((cond (!(((((p2.length:Int)==0)||(decide ((p2.length:Int)>8)))||(decide (v2<0)))||(decide (v3≥(p1.Lanes.length:Int))))) (A1j p1 v4) (some default))).bind fun v5=>cond ((((((p2.length:Int)==0)||(decide ((p2.length:Int)>8)))||(decide (v2<0)))||(decide (v3≥(p1.Lanes.length:Int))))||(decide ((v5.length:Int)>0))) (some 13) ((F3 p2 0).bind fun v6=>(C6k p2 1 (p2.length:Int)).bind fun v7=>thenS (loop (O3 p1 v7) (v6,0)) (fun _=>some 0) (fun r=>some r)))
theorem A81 (p1:Map)(p2:(List Int))(r:Int)(h:V9 p1 p2=some r):PCall Tryz.prog 36 [(.agg (A0s p1)),(.list (List.map A5 p2))] (i64 r):=by
 refine E1 (fk Tryz.func36 Tryz.ntmps36 m0 (by with_unfolding_all rfl)) (nl rfl) ?_
 unfold V9 at h
 refine A9 (s0:=⟨T [(0,(.d _)),(1,(.d _))],G []⟩) (sbr rfl rfl) ?_
 refine lr (fun u1 hu1=>sn rfl rfl (sv rfl (A3 (A7 (lr (fun u2 hu2=>sd rfl (B9 rfl G_hit rfl rfl) (bs h fun v1 hv1 h=>C4 rfl rfl A4 (A6g _ _ hv1) (.inl rfl) (sv rfl (A3 (lr (fun u3 hu3=>sv rfl (sv rfl (A3 (cc rfl h (fun c1 h=> ?_) (fun c1 h=> ?_)))))))))))))))
 refine lr (fun u4 hu4=>sv rfl (sv rfl (A3 (B5 ?_))))
 cases h
 exact B0 (.inr rfl) (C1 (B4 rfl) I6) (.refl _)
 refine B3 (A7 (A7 (N6 rfl fun u5 hu5=>sv rfl (sd rfl (F1 rfl) (sv rfl (sv rfl (gf rfl (fun _=>rfl) (gf rfl (fun w2=>(F1 (A6 w2))) (gf rfl (vb rfl rfl rfl) (sd rfl (A4j rfl rfl (fun hc=>A6 (R5 hc))) (sv rfl (gf rfl (fun _=>rfl) (bs h fun v2 hv2 h=>gf rfl (fun w5=>(G6 (A6 w5) rfl (E8 w5 hv2) rfl)) (gf rfl (fun w6=>(E9 (A6 w6) (E8 w6 hv2) rfl)) (gf rfl (vb rfl rfl rfl) (sd rfl (A4j rfl rfl (fun hc=>A6 (R5 hc))) (sv rfl (gf rfl (fun _=>rfl) (bs h fun v3 hv3 h=>gf rfl (fun w9=>(G6 (A6 w9) rfl (E8 w9 hv3) rfl)) (gf rfl (fun w10=>(E9 (A6 w10) (E8 w10 hv3) rfl)) (gp rfl (A0f rfl) (fun _=>rfl) (gf rfl (vl rfl G_hit rfl) (gf rfl (fun w13=>(F1 (A6 w13))) (gf rfl (fun w14=>(A1q (A6 w14) (A6 w14) rfl)) (sd rfl (A4j rfl rfl (fun hc=>A6 (R5 hc))) (sv rfl (gf rfl (fun w15=>(B9 rfl G_hit rfl rfl)) (gf rfl (fun _=>rfl) (bs h fun v4 hv4 h=>gf rfl (fun w17=>(G6 (A6 w17) rfl (E8 w17 hv4) rfl)) (gf rfl (fun w18=>(E9 (A6 w18) (E8 w18 hv4) rfl)) (bs h fun v5 hv5 h=> ?_)))))))))))))))))))))))))))))))
 refine U1 _ (.list (List.map A5 v5)) (A0f rfl) (fun w19=>⟨_,[(.d (.agg (A0s p1))),(di v4)],_,_,(by simp only [A6 w19];rfl),rfl,A4,A80 _ _ _ (E8 w19 hv5),(.inl rfl)⟩) ?_
 refine gf rfl (fun w20=>(F1 (A6 w20))) (gf rfl (vb rfl rfl rfl) (sd rfl (A4j rfl rfl (fun hc=>A6 (R5 hc))) (A3 (cc rfl h (fun c2 h=> ?_) (fun c2 h=> ?_)))))
 refine A7 (A9 (s0:=⟨T [],G []⟩) (sbr rfl rfl) ?_)
 refine B8 fun u6 hu6=>sv rfl (A3 (B5 ?_))
 cases h
 exact B0 (.inr rfl) (C1 (B4 rfl) I6) (.refl _)
 refine B3 (A7 (A9 (s0:=⟨T [(1,(.d _)),(2,(.ptr _ _))],G [((2,u1),some (.box 27 _))]⟩) (sbr rfl rfl) ?_))
 refine B8 fun u7 hu7=>sv rfl (bs h fun v6 hv6 h=>sd rfl (G6 rfl rfl hv6 rfl) (sd rfl (E9 rfl hv6 rfl) (sv rfl (A3 (A7 (lr (fun u8 hu8=>sv rfl (bs h fun v7 hv7 h=>sd rfl (D04 rfl (fun _=>rfl) (D56 rfl) C4j hv7) (sd rfl (F1 rfl) (sv rfl (A3 (js h fun z1 hz1 h=>F2 (fun s=> ∃(y1:Unit) (g1:Unit),z1= .inl y1∧Sb ⟨T [],G []⟩ s) ?_ ?_))))))))))))
 refine A8 (F0 (O3 p1 v7) (fun (x1:(Int×Int)) (g2:Unit)=>⟨T [(2,(.ptr (2,u1) 0)),(6,(di x1.1)),(50,(dl A5 v7)),(51,(di (v7.length:Int))),(52,(di x1.2))],G [((2,u1),some (.box 27 (A09 p1)))]⟩) (v6,0) () _ hz1 (sbr rfl rfl) ?_)
 intro x1 g2 z2 hz2 ez2
 unfold O3 at hz2
 refine lr (fun u9 hu9=>sv rfl (A3 (A7 (cc rfl hz2 (fun c3 hz2=> ?_) (fun c3 hz2=> ?_)))))
 refine B3 (A7 (A8 (lr (fun u10 hu10=>bs hz2 fun v8 hv8 hz2=>sd rfl (G6 rfl rfl hv8 rfl) (sd rfl (E9 rfl hv8 rfl) (sv rfl (A3 (A7 (lr (fun u11 hu11=>sp rfl rfl (sl rfl G_hit rfl (sv rfl (bs hz2 fun v9 hv9 hz2=>sd rfl (G6 rfl rfl hv9 rfl) (sv rfl (sd rfl (E9 rfl hv9 rfl) (sv rfl (bs hz2 fun v10 hv10 hz2=>C4 rfl rfl A4 (W4 _ _ _ hv10) (.inl rfl) (F4 (.d (bo (!v10))) rfl rfl (A3 (cc rfl hz2 (fun c4 hz2=> ?_) (fun c4 hz2=> ?_)))))))))))))))))))))
 refine lr (fun u12 hu12=>sv rfl (A3 (B5 ?_)))
 cases hz2
 obtain rfl:=ez2 _ rfl
 refine ⟨nofun,F8 ?_⟩
 rw [Sum.elim_inr]at h
 cases h
 exact B0 (.inr rfl) (C1 (B4 rfl) I6) (.refl _)
 refine B3 (B8 fun u13 hu13=>sv rfl (sv rfl (A3 (H9 (B8 fun u14 hu14=>sv rfl (sv rfl (A3 (H4 ?_))))))))
 cases hz2
 exact ⟨rfl,(),(sbr rfl rfl)⟩
 refine C6 rfl ?_
 cases hz2
 obtain rfl:=ez2 _ rfl
 refine ⟨nofun,C2 rfl (l_j ?_)⟩
 exact ⟨_,(),rfl,(sbr rfl rfl)⟩
 rintro _ ⟨y1,g1,rfl,q1⟩
 rw [Sum.elim_inl]at h
 refine A9 q1 (lr (fun u15 hu15=>sv rfl (A3 (B5 ?_))))
 cases h
 exact B0 (.inr rfl) (C1 (B4 rfl) I6) (.refl _)
noncomputable def V5 (p1:Map)(p2:(List Int))(x1:(Int×RoadsWay)):Option (Stp (Int×RoadsWay) RoadsWay):=
  cond (decide (x1.1< (p2.length:Int))) ((F3 p2 x1.1).bind fun v2=>(B18 x1.2.starts [x1.2.length]).bind fun v3=>(A0q p1 v2).bind fun v4=>some (.go ((w64 (x1.1+1)),(RoadsWay.mk x1.2.Map_ x1.2.lanes v3 (w64 (x1.2.length+v4)))))) (some (.out x1.2))
noncomputable def Y3 (p1:Map)(p2:(List Int)):Option RoadsWay:=
  (V9 p1 p2).bind fun v1=>cond (v1 !=0) (some (RoadsWay.mk (Map.mk 0 [] [] [] []) [] [] 0)) ((loop (V5 p1 p2) (0,(RoadsWay.mk p1 p2 [] 0))).bind fun y1=>some y1)
theorem A3j (p1:Map)(p2:(List Int))(r:RoadsWay)(h:Y3 p1 p2=some r):PCall Tryz.prog 133 [(.agg (A0s p1)),(.list (List.map A5 p2))] (.agg (C86 r)):=by
 refine E1 (fk Tryz.func133 Tryz.ntmps133 (fun r=>if r==7 then [1004]else []) (by with_unfolding_all rfl)) (nl rfl) ?_
 unfold Y3 at h
 refine A9 (s0:=⟨T [(0,(.d _)),(1,(.d _))],G []⟩) (sbr rfl rfl) ?_
 refine lr (fun u1 hu1=>sn rfl rfl (sn rfl rfl (A3 (A7 (lr (fun u2 hu2=>sd rfl (B9 rfl (gq rfl) rfl rfl) (sv rfl (bs h fun v1 hv1 h=>C4 rfl rfl A4 (A81 _ _ _ hv1) (.inl rfl) (sv rfl (A3 (cc rfl h (fun c1 h=> ?_) (fun c1 h=> ?_))))))))))))
 refine lr (fun u3 hu3=>sv rfl (sst rfl G_hit [(di 0),(.d .nilS),(.d .nilS),(.d .nilS),(.d .nilS),(.d .nilS),(.d .nilS),(di 0)] rfl (A3 (B5 ?_))))
 cases h
 exact B0 (.inr rfl) (C1 (A2w rfl G_hit (nl rfl) rfl) I6) (.agg (ca rfl (.cons ⟨DLe.nil,rfl⟩ (.cons ⟨DLe.nil,rfl⟩ (.cons ⟨DLe.nil,rfl⟩ (.cons ⟨DLe.nil,rfl⟩ (.cons ⟨DLe.nil,rfl⟩ (.cons ⟨DLe.nil,rfl⟩ (cz rfl)))))))))
 refine B3 (lr (fun u4 hu4=>sd rfl (B9 rfl (gq rfl) rfl rfl) (sv rfl (sv rfl (sn rfl rfl (sst rfl G_hit ((A09 p1)++ [(dl A5 p2),(.d .nilS),(di 0)]) rfl (A3 (A7 (lr (fun u5 hu5=>sv rfl (sd rfl (F1 rfl) (sv rfl (A3 (bs h fun y1 hy1 h=>F2 (fun s=> ∃g1:Nat,Sb ⟨T [(4,(.ptr (4,u1) 0)),(5,(.ptr (5,u4) 0))],G [((4,u1),some (.box 169 [(di 0),(.d .nilS),(.d .nilS),(.d .nilS),(.d .nilS),(.d .nilS),(.d .nilS),(di 0)])),((5,u4),some (.box 169 ((W5 y1).set 6 (oS y1.starts (27,g1))))),((27,g1),oB 2 1 A5 y1.starts)]⟩ s) ?_ ?_))))))))))))))
 refine A8 (F0 (V5 p1 p2) (fun (x1:(Int×RoadsWay)) (g2:Nat)=>⟨T [(2,(.ptr (2,u1) 0)),(4,(.ptr (4,u1) 0)),(5,(.ptr (5,u4) 0)),(16,(dl A5 p2)),(17,(di (p2.length:Int))),(18,(di x1.1))],G [((2,u1),some (.box 27 (A09 p1))),((4,u1),some (.box 169 [(di 0),(.d .nilS),(.d .nilS),(.d .nilS),(.d .nilS),(.d .nilS),(.d .nilS),(di 0)])),((5,u4),some (.box 169 ((W5 x1.2).set 6 (oS x1.2.starts (27,g2))))),((27,g2),oB 2 1 A5 x1.2.starts)]⟩) (0,(RoadsWay.mk p1 p2 [] 0)) 0 _ hy1 (J0 ⟨.of rfl, .of rfl, .of rfl, .of rfl, .of rfl, .of rfl,trivial⟩ (sg rfl (sg rfl (B6 G_hit (.of rfl) (A3f trivial))))) ?_)
 intro x1 g2 z1 hz1 ez1
 unfold V5 at hz1
 refine lr (fun u6 hu6=>sv rfl (A3 (A7 (cc rfl hz1 (fun c2 hz1=> ?_) (fun c2 hz1=> ?_)))))
 refine B3 (A7 (A8 (lr (fun u7 hu7=>bs hz1 fun v2 hv2 hz1=>sd rfl (G6 rfl rfl hv2 rfl) (sd rfl (E9 rfl hv2 rfl) (sv rfl (A3 (lr (fun u8 hu8=>sp rfl rfl (F4 (oS x1.2.starts (27,g2)) rfl (B75 rfl (gq rfl) rfl) (sp rfl rfl (sl rfl (gq rfl) rfl (F4 (dl A5 [x1.2.length]) rfl rfl (bs hz1 fun v3 hv3 hz1=>X6 A5 (27,g2) x1.2.starts x1.2.length [] _ (S7 (fun _=>rfl)) rfl (gq rfl) hv3 (sp rfl rfl (sst rfl (gq rfl) ((W5 x1.2).set 6 (.sl (27,u8))) rfl (A3 (A9 (s0:=⟨T [(2,(.ptr _ _)),(4,(.ptr _ _)),(5,(.ptr _ _)),(7,(.d _)),(16,(.d _)),(17,(.d _)),(18,(.d _))],G [((2,u1),some (.box 27 _)),((4,u1),some (.box 169 _)),((5,u4),some (.box 169 _)),((27,u8),some _)]⟩) (sbr rfl rfl) ?_))))))))))))))))))
 refine N6 rfl fun u9 hu9=>sp rfl rfl (sl rfl (gq rfl) rfl (sd rfl (B9 rfl G_hit rfl rfl) (sv rfl (bs hz1 fun v4 hv4 hz1=>C4 rfl rfl A4 (A4c _ _ _ hv4) (.inl rfl) (sv rfl (sp rfl rfl (sst rfl (gq rfl) (((W5 x1.2).set 6 (.sl (27,u8))).set 7 (di (w64 (x1.2.length+v4)))) rfl (A3 (H9 (B8 fun u10 hu10=>sv rfl (sv rfl (A3 (H4 ?_)))))))))))))
 cases hz1
 exact ⟨rfl,u8,(J0 ⟨.of rfl, .of rfl, .of rfl, .of rfl, .of rfl, .of rfl,trivial⟩ (sg rfl (sg rfl (B6 G_hit (.box (cv (cv (cv (cv (cv (cv (.cons (.of (A93 (A3e hv3)).symm) cw)))))))) (A36 (gq rfl) trivial)))))⟩
 refine C6 rfl ?_
 cases hz1
 obtain rfl:=ez1 _ rfl
 refine ⟨nofun,C2 rfl (l_j ?_)⟩
 exact ⟨g2,(J0 ⟨.of rfl, .of rfl,trivial⟩ (sg rfl (sg rfl (I7 (gq rfl) trivial))))⟩
 rintro _ ⟨g1,q1⟩
 refine A9 q1 (lr (fun u11 hu11=>F4 (A7n ((W5 y1).set 6 (oS y1.starts (27,g1)))) rfl (B9 rfl (gq rfl) rfl rfl) (B74 _ _ _ _ _ (B1c _) rfl rfl G_hit (nl rfl) ((W5 y1).set 6 (oS y1.starts (27,g1))) rfl (A3 (B5 ?_)))))
 cases h
 exact B0 (.inr rfl) (C1 (A2w rfl G_hit (nl rfl) rfl) (C0g (rD (rD (rD (rD (rD (rD (Q5 (B1b (gq rfl)) (rD N0)))))))))) (.agg (ca rfl (ca rfl (ca rfl (ca rfl (ca rfl (ca rfl (.cons ⟨B1a,rfl⟩ (cz rfl)))))))))
noncomputable def X4 (p3:Int)(v1:RoadsWay)(x1:Int):Option (Stp Int Int):=
  (F3 v1.starts x1).bind fun v3=>cond (decide (v3>p3)) (some (.go (w64 (x1 - 1)))) (some (.out x1))
noncomputable def A0w (p1:Map)(p2:(List Int))(p3:Int):Option (Int×Int×Bool):=
  (Y3 p1 p2).bind fun v1=>((cond (!((v1.lanes.length:Int)==0)) (Q6 p3 0 v1.length) (some default))).bind fun v2=>cond (((v1.lanes.length:Int)==0)||(!v2)) (some (0,0,false)) ((loop (X4 p3 v1) (w64 ((v1.lanes.length:Int) - 1))).bind fun y1=>(F3 v1.lanes y1).bind fun v4=>(F3 v1.starts y1).bind fun v5=>some (v4,(w64 (p3 - v5)),true))
theorem B31 (p1:Map)(p2:(List Int))(p3:Int)(r:(Int×Int×Bool))(h:A0w p1 p2 p3=some r):PCall Tryz.prog 34 [(.agg (A0s p1)),(.list (List.map A5 p2)),(i64 p3)] (.tup [(i64 r.1),(i64 r.2.1),(bo r.2.2)]):=by
 refine E1 (fk Tryz.func34 Tryz.ntmps34 m0 (by with_unfolding_all rfl)) (nl rfl) ?_
 unfold A0w at h
 refine A9 (s0:=⟨T [(0,(.d _)),(1,(.d _)),(2,(.d _))],G []⟩) (sbr rfl rfl) ?_
 refine lr (fun u1 hu1=>sn rfl rfl (sv rfl (sv rfl (sv rfl (A3 (lr (fun u2 hu2=>sd rfl (B9 rfl G_hit rfl rfl) (sv rfl (bs h fun v1 hv1 h=>C4 rfl rfl A4 (A3j _ _ _ hv1) (.inl rfl) (sn rfl rfl (sst rfl G_hit (W5 v1) rfl (A3 (A7 (lr (fun u3 hu3=>sp rfl rfl (sl rfl G_hit rfl (sd rfl (F1 rfl) (sv rfl (sv rfl (gf rfl (fun _=>rfl) (gp rfl (A0f rfl) (fun _=>rfl) (gf rfl (vl rfl G_hit rfl) (bs h fun v2 hv2 h=> ?_)))))))))))))))))))))))
 refine U1 _ (bo v2) (A0f rfl) (fun w4=>⟨_,[(di p3),(di 0),(di v1.length)],_,_,(by simp only [A6 w4];rfl),rfl,A4,S9 _ _ _ _ (E8 w4 hv2),(.inl rfl)⟩) ?_
 refine X7 _ (.d (bo (!v2))) rfl (A0f rfl) (fun w5=>(by simp only [A6 w5];rfl)) ?_
 refine sd rfl (A4j rfl rfl (fun hc=>A6 (R5 hc))) (A3 (cc rfl h (fun c1 h=> ?_) (fun c1 h=> ?_)))
 refine A7 (A9 (s0:=⟨T [],G []⟩) (sbr rfl rfl) ?_)
 refine B8 fun u4 hu4=>sv rfl (sv rfl (sv rfl (A3 (B5 ?_))))
 cases h
 exact B0 (.inr rfl) (B8q (B4 rfl) (B4 rfl) (B4 rfl) I6 I6 I6) (.refl _)
 refine B3 (A7 (A9 (s0:=⟨T [(2,(.d _)),(9,(.ptr _ _))],G [((9,u2),some (.box 169 _))]⟩) (sbr rfl rfl) ?_))
 refine B8 fun u5 hu5=>sp rfl rfl (sl rfl G_hit rfl (sd rfl (F1 rfl) (sv rfl (sv rfl (A3 (A7 (bs h fun y1 hy1 h=>F2 (fun s=> ∃g1:Unit,Sb ⟨T [(2,(di p3)),(9,(.ptr (9,u2) 0)),(10,(di y1))],G [((9,u2),some (.box 169 (W5 v1)))]⟩ s) ?_ ?_)))))))
 refine A8 (F0 (X4 p3 v1) (fun (x1:Int) (g2:Unit)=>⟨T [(2,(di p3)),(9,(.ptr (9,u2) 0)),(10,(di x1))],G [((9,u2),some (.box 169 (W5 v1)))]⟩) (w64 ((v1.lanes.length:Int) - 1)) () _ hy1 (sbr rfl rfl) ?_)
 intro x1 g2 z1 hz1 ez1
 unfold X4 at hz1
 refine A7 (lr (fun u6 hu6=>sp rfl rfl (sl rfl G_hit rfl (sv rfl (bs hz1 fun v3 hv3 hz1=>sd rfl (G6 rfl rfl hv3 rfl) (sd rfl (E9 rfl hv3 rfl) (sv rfl (sv rfl (A3 (cc rfl hz1 (fun c2 hz1=> ?_) (fun c2 hz1=> ?_)))))))))))
 refine B3 (A8 (B8 fun u7 hu7=>sv rfl (sv rfl (sv rfl (A3 (H9 (H4 ?_)))))))
 cases hz1
 exact ⟨rfl,(),(sbr rfl rfl)⟩
 refine C6 rfl ?_
 cases hz1
 obtain rfl:=ez1 _ rfl
 refine ⟨nofun,C2 rfl (l_j ?_)⟩
 exact ⟨(),(sbr rfl rfl)⟩
 rintro _ ⟨g1,q1⟩
 refine A9 q1 (A7 (N6 rfl fun u8 hu8=>sp rfl rfl (sl rfl G_hit rfl (sv rfl (bs h fun v4 hv4 h=>sd rfl (G6 rfl rfl hv4 rfl) (sd rfl (E9 rfl hv4 rfl) (sv rfl (sp rfl rfl (sl rfl G_hit rfl (sv rfl (bs h fun v5 hv5 h=>sd rfl (G6 rfl rfl hv5 rfl) (sd rfl (E9 rfl hv5 rfl) (sv rfl (sv rfl (sv rfl (sv rfl (A3 (B5 ?_))))))))))))))))))
 cases h
 exact B0 (.inr rfl) (B8q (B4 rfl) (B4 rfl) (B4 rfl) I6 I6 I6) (.refl _)
noncomputable def A32 (p1:Part)(p2:Int):Option Bool:=
  some (p1.Lane_==p2)
theorem B55 (p1:Part)(p2:Int)(r:Bool)(h:A32 p1 p2=some r):PCall Tryz.prog 229 [(.agg (R3 p1)),(.bp [(i64 p2)] 0)] (bo r):=by
 refine E1 (fk Tryz.func229 Tryz.ntmps229 m0 (by with_unfolding_all rfl)) (nl rfl) ?_
 unfold A32 at h
 refine A9 (s0:=⟨T [(0,(.d _)),(1,(.d _))],G []⟩) (sbr rfl rfl) ?_
 refine lr (fun u1 hu1=>sn rfl rfl (sv rfl (A3 (lr (fun u2 hu2=>sp rfl rfl (sl rfl G_hit rfl (sv rfl (sv rfl (sv rfl (A3 (B5 ?_)))))))))))
 cases h
 exact B0 (.inr rfl) (C1 (B4 rfl) I6) (.refl _)
noncomputable def E7 (p1:(List Part))(p2:Int)(x1:Int):Option (Stp Int (Sum Unit Int)):=
  cond (decide (x1< (p1.length:Int))) ((F3 p1 x1).bind fun v1=>(A32 v1 p2).bind fun v2=>cond v2 (some (.out (.inr x1))) (some (.go (w64 (x1+1))))) (some (.out (.inl ())))
noncomputable def H5 (p1:(List Part))(p2:Int):Option Int:=
  thenS (loop (E7 p1 p2) 0) (fun _=>some (-1)) (fun r=>some r)
theorem A2o (p1:(List Part))(p2:Int)(r:Int)(h:H5 p1 p2=some r):PCall Tryz.prog 228 [(.list (List.map R3 p1)),(.fn (.func 229) [] [(.bp [(i64 p2)] 0)])] (i64 r):=by
 refine E1 (fk Tryz.func228 Tryz.ntmps228 m0 (by with_unfolding_all rfl)) (nl rfl) ?_
 unfold H5 at h
 refine A9 (s0:=⟨T [(0,(.d _)),(1,(.d _))],G []⟩) (sbr rfl rfl) ?_
 refine lr (fun u1 hu1=>sv rfl (A3 (A7 (lr (fun u2 hu2=>sv rfl (sd rfl (F1 rfl) (sv rfl (A3 (js h fun z1 hz1 h=>F2 (fun s=> ∃(y1:Unit) (g1:Unit),z1= .inl y1∧Sb ⟨T [],G []⟩ s) ?_ ?_)))))))))
 refine A8 (F0 (E7 p1 p2) (fun (x1:Int) (g2:Unit)=>⟨T [(0,(dl R3 p1)),(1,(.d (.fn (.func 229) [] [(.bp [(i64 p2)] 0)]))),(7,(di (p1.length:Int))),(8,(di x1))],G []⟩) 0 () _ hz1 (sbr rfl rfl) ?_)
 intro x1 g2 z2 hz2 ez2
 unfold E7 at hz2
 refine lr (fun u3 hu3=>sv rfl (A3 (A7 (cc rfl hz2 (fun c1 hz2=> ?_) (fun c1 hz2=> ?_)))))
 refine B3 (A7 (A8 (lr (fun u4 hu4=>sv rfl (sv rfl (A3 (lr (fun u5 hu5=>sv rfl (sv rfl (sv rfl (bs hz2 fun v1 hv1 hz2=>sd rfl (G6 rfl rfl hv1 rfl) (sd rfl (F7 rfl hv1 rfl rfl) (bs hz2 fun v2 hv2 hz2=>C4 rfl rfl A4 (B55 _ _ _ hv2) (.inl rfl) (A3 (cc rfl hz2 (fun c2 hz2=> ?_) (fun c2 hz2=> ?_))))))))))))))))
 refine lr (fun u6 hu6=>sv rfl (sv rfl (A3 (B5 ?_))))
 cases hz2
 obtain rfl:=ez2 _ rfl
 refine ⟨nofun,F8 ?_⟩
 rw [Sum.elim_inr]at h
 cases h
 exact B0 (.inr rfl) (C1 (B4 rfl) I6) (.refl _)
 refine B3 (H9 (B8 fun u7 hu7=>sv rfl (sv rfl (A3 (H4 ?_)))))
 cases hz2
 exact ⟨rfl,(),(sbr rfl rfl)⟩
 refine C6 rfl ?_
 cases hz2
 obtain rfl:=ez2 _ rfl
 refine ⟨nofun,C2 rfl (l_j ?_)⟩
 exact ⟨_,(),rfl,(sbr rfl rfl)⟩
 rintro _ ⟨y1,g1,rfl,q1⟩
 rw [Sum.elim_inl]at h
 refine A9 q1 (lr (fun u8 hu8=>sv rfl (A3 (B5 ?_))))
 cases h
 exact B0 (.inr rfl) (C1 (B4 rfl) I6) (.refl _)
noncomputable def A23 (p1:Zone)(p2:Int):Option (Part×Bool):=
  (H5 p1.Parts p2).bind fun v1=>cond (decide (v1<0)) (some ((Part.mk 0 0 0 0),false)) ((F3 p1.Parts v1).bind fun v2=>some (v2,true))
theorem A5m (p1:Zone)(p2:Int)(r:(Part×Bool))(h:A23 p1 p2=some r):PCall Tryz.prog 147 [(.agg [(.list (List.map R3 p1.Parts)),(i64 p1.Signal_)]),(i64 p2)] (.tup [(.agg (R3 r.1)),(bo r.2)]):=by
 refine E1 (fk Tryz.func147 Tryz.ntmps147 m0 (by with_unfolding_all rfl)) (nl rfl) ?_
 unfold A23 at h
 refine A9 (s0:=⟨T [(0,(.d _)),(1,(.d _))],G []⟩) (sbr rfl rfl) ?_
 refine lr (fun u1 hu1=>sn rfl rfl (sn rfl rfl (sn rfl rfl (sv rfl (A3 (lr (fun u2 hu2=>sp rfl rfl (sl rfl (gq rfl) rfl (F4 (.fn _ _ _) rfl rfl (bs h fun v1 hv1 h=>C4 rfl (rD (Q5 (C3d N0 (Q5 (B0w (gq rfl) (rD N0)) N0)) N0)) A4 (A2o _ _ _ hv1) (.inr rfl) (sv rfl (A3 (A7 (lr (fun u3 hu3=>sv rfl (sv rfl (A3 (cc rfl h (fun c1 h=> ?_) (fun c1 h=> ?_)))))))))))))))))))
 refine lr (fun u4 hu4=>sv rfl (sst rfl G_hit (zs 4) rfl (sv rfl (A3 (B5 ?_)))))
 cases h
 exact B0 (.inr rfl) (C5v (A2w rfl G_hit (nl rfl) rfl) (B4 rfl) I6 I6) (.refl _)
 refine B3 (lr (fun u5 hu5=>sp rfl rfl (sl rfl (gq rfl) rfl (sv rfl (bs h fun v2 hv2 h=>sd rfl (G6 rfl rfl hv2 rfl) (sd rfl (F7 rfl hv2 rfl rfl) (sst rfl G_hit (B10 v2) rfl (sv rfl (A3 (B5 ?_))))))))))
 cases h
 exact B0 (.inr rfl) (C5v (A2w rfl G_hit (nl rfl) rfl) (B4 rfl) I6 I6) (.refl _)
noncomputable def A3k (p1:Map)(p2:Zone)(v2:(List Int))(x1:Int):Option (Stp Int (Sum Unit Bool)):=
  cond (decide (x1< (v2.length:Int))) ((F3 v2 x1).bind fun v3=>(A23 p2 v3).bind fun v4=>((cond (!(!v4.2)) (A0q p1 v3) (some default))).bind fun v5=>cond ((!v4.2)||(v4.1.To !=v5)) (some (.out (.inr false))) (some (.go (w64 (x1+1))))) (some (.out (.inl ())))
noncomputable def A58 (p1:Map)(p2:Zone)(p3:Int):Option Bool:=
  (A23 p2 p3).bind fun v1=>cond ((!v1.2)||(v1.1.From !=0)) (some false) ((A1j p1 p3).bind fun v2=>thenS (loop (A3k p1 p2 v2) 0) (fun _=>some true) (fun r=>some r))
theorem B1k (p1:Map)(p2:Zone)(p3:Int)(r:Bool)(h:A58 p1 p2 p3=some r):PCall Tryz.prog 181 [(.agg (A0s p1)),(.agg [(.list (List.map R3 p2.Parts)),(i64 p2.Signal_)]),(i64 p3)] (bo r):=by
 refine E1 (fk Tryz.func181 Tryz.ntmps181 m0 (by with_unfolding_all rfl)) (nl rfl) ?_
 unfold A58 at h
 refine A9 (s0:=⟨T [(0,(.d _)),(1,(.d _)),(2,(.d _))],G []⟩) (sbr rfl rfl) ?_
 refine lr (fun u1 hu1=>sn rfl rfl (sn rfl rfl (sv rfl (A3 (lr (fun u2 hu2=>sd rfl (B9 rfl G_hit rfl rfl) (sv rfl (bs h fun v1 hv1 h=>C4 rfl rfl A4 (A5m _ _ _ hv1) (.inl rfl) (sv rfl (sv rfl (sv rfl (sn rfl rfl (sst rfl G_hit (B10 v1.1) rfl (sv rfl (A3 (A7 (lr (fun u3 hu3=>sv rfl (F4 (.d (bo (!v1.2))) rfl rfl (sv rfl (gp rfl (A0f rfl) (fun _=>rfl) (gf rfl (vl rfl G_hit rfl) (gf rfl (vb rfl rfl rfl) (sd rfl (A4j rfl rfl (fun hc=>A6 (R5 hc))) (A3 (cc rfl h (fun c1 h=> ?_) (fun c1 h=> ?_)))))))))))))))))))))))))))
 refine A7 (A9 (s0:=⟨T [],G []⟩) (sbr rfl rfl) ?_)
 refine B8 fun u4 hu4=>sv rfl (A3 (B5 ?_))
 cases h
 exact B0 (.inr rfl) (C1 (B4 rfl) I6) (.refl _)
 refine B3 (A7 (A7 (A9 (s0:=⟨T [(2,(.d _)),(3,(.ptr _ _)),(4,(.ptr _ _))],G [((3,u1),some (.box 27 _)),((4,u1),some (.box 45 _))]⟩) (sbr rfl rfl) ?_)))
 refine B8 fun u5 hu5=>sd rfl (B9 rfl G_hit rfl rfl) (sv rfl (bs h fun v2 hv2 h=>C4 rfl rfl A4 (A80 _ _ _ hv2) (.inl rfl) (sd rfl (F1 rfl) (sv rfl (A3 (js h fun z1 hz1 h=>F2 (fun s=> ∃(y1:Unit) (g1:Unit),z1= .inl y1∧Sb ⟨T [],G []⟩ s) ?_ ?_))))))
 refine A8 (F0 (A3k p1 p2 v2) (fun (x1:Int) (g2:Unit)=>⟨T [(3,(.ptr (3,u1) 0)),(4,(.ptr (4,u1) 0)),(28,(dl A5 v2)),(29,(di (v2.length:Int))),(30,(di x1))],G [((3,u1),some (.box 27 (A09 p1))),((4,u1),some (.box 45 [(dl R3 p2.Parts),(di p2.Signal_)]))]⟩) 0 () _ hz1 (sbr rfl rfl) ?_)
 intro x1 g2 z2 hz2 ez2
 unfold A3k at hz2
 refine lr (fun u6 hu6=>sv rfl (A3 (A7 (cc rfl hz2 (fun c2 hz2=> ?_) (fun c2 hz2=> ?_)))))
 refine B3 (A7 (A8 (lr (fun u7 hu7=>bs hz2 fun v3 hv3 hz2=>sd rfl (G6 rfl rfl hv3 rfl) (sd rfl (E9 rfl hv3 rfl) (sv rfl (A3 (lr (fun u8 hu8=>sd rfl (B9 rfl (gq rfl) rfl rfl) (sv rfl (bs hz2 fun v4 hv4 hz2=>C4 rfl rfl A4 (A5m _ _ _ hv4) (.inl rfl) (sv rfl (sv rfl (sv rfl (sn rfl rfl (sst rfl G_hit (B10 v4.1) rfl (sv rfl (A3 (A7 (N6 rfl fun u9 hu9=>sv rfl (F4 (.d (bo (!v4.2))) rfl rfl (sv rfl (gp rfl (A0f rfl) (fun _=>rfl) (gf rfl (vl rfl G_hit rfl) (gf rfl (fun w6=>(B9 rfl (gq rfl) rfl rfl)) (gf rfl (fun _=>rfl) (bs hz2 fun v5 hv5 hz2=> ?_)))))))))))))))))))))))))))
 refine U1 _ (i64 v5) (A0f rfl) (fun w8=>⟨_,[(.d (.agg (A0s p1))),(di v3)],_,_,(by simp only [A6 w8];rfl),rfl,A4,A4c _ _ _ (E8 w8 hv5),(.inl rfl)⟩) ?_
 refine gf rfl (fun w9=>(A1q (A6 w9) (A6 w9) rfl)) (sd rfl (A4j rfl rfl (fun hc=>A6 (R5 hc))) (A3 (cc rfl hz2 (fun c3 hz2=> ?_) (fun c3 hz2=> ?_))))
 refine A7 (A9 (s0:=⟨T [],G []⟩) (sbr rfl rfl) ?_)
 refine B8 fun u10 hu10=>sv rfl (A3 (B5 ?_))
 cases hz2
 obtain rfl:=ez2 _ rfl
 refine ⟨nofun,F8 ?_⟩
 rw [Sum.elim_inr]at h
 cases h
 exact B0 (.inr rfl) (C1 (B4 rfl) I6) (.refl _)
 refine B3 (H9 (A9 (s0:=⟨T [(3,(.ptr _ _)),(4,(.ptr _ _)),(28,(.d _)),(29,(.d _)),(30,(.d _))],G [((3,u1),some (.box 27 _)),((4,u1),some (.box 45 _))]⟩) (sbr rfl rfl) ?_))
 refine B8 fun u11 hu11=>sv rfl (sv rfl (A3 (H4 ?_)))
 cases hz2
 exact ⟨rfl,(),(sbr rfl rfl)⟩
 refine C6 rfl ?_
 cases hz2
 obtain rfl:=ez2 _ rfl
 refine ⟨nofun,C2 rfl (l_j ?_)⟩
 exact ⟨_,(),rfl,(sbr rfl rfl)⟩
 rintro _ ⟨y1,g1,rfl,q1⟩
 rw [Sum.elim_inl]at h
 refine A9 q1 (lr (fun u12 hu12=>sv rfl (A3 (B5 ?_))))
 cases h
 exact B0 (.inr rfl) (C1 (B4 rfl) I6) (.refl _)
noncomputable def A4q (x1:(Int× (Int×Int×Int×Int×Int×Int×Int×Int×Int×Int×Int×Int)))(v1:Lane)(x2:(Int× (Int×Int×Int×Int×Int×Int×Int×Int×Int×Int×Int×Int))):Option (Stp (Int× (Int×Int×Int×Int×Int×Int×Int×Int×Int×Int×Int×Int)) (Int×Int×Int×Int×Int×Int×Int×Int×Int×Int×Int×Int)):=
  cond (decide (x2.1< (v1.Next.length:Int))) ((F3 v1.Next x2.1).bind fun v2=>(F3 ([x2.2.1,x2.2.2.1,x2.2.2.2.1,x2.2.2.2.2.1,x2.2.2.2.2.2.1,x2.2.2.2.2.2.2.1,x2.2.2.2.2.2.2.2.1,x2.2.2.2.2.2.2.2.2.1,x2.2.2.2.2.2.2.2.2.2.1,x2.2.2.2.2.2.2.2.2.2.2.1,x2.2.2.2.2.2.2.2.2.2.2.2.1,x2.2.2.2.2.2.2.2.2.2.2.2.2]:List Int) x1.1).bind fun v3=>(F3 ([x2.2.1,x2.2.2.1,x2.2.2.2.1,x2.2.2.2.2.1,x2.2.2.2.2.2.1,x2.2.2.2.2.2.2.1,x2.2.2.2.2.2.2.2.1,x2.2.2.2.2.2.2.2.2.1,x2.2.2.2.2.2.2.2.2.2.1,x2.2.2.2.2.2.2.2.2.2.2.1,x2.2.2.2.2.2.2.2.2.2.2.2.1,x2.2.2.2.2.2.2.2.2.2.2.2.2]:List Int) v2).bind fun v4=>(D58 .u32 1 (IntKind.wrap .u64 v2)).bind fun v5=>(F3 ([x2.2.1,x2.2.2.1,x2.2.2.2.1,x2.2.2.2.2.1,x2.2.2.2.2.2.1,x2.2.2.2.2.2.2.1,x2.2.2.2.2.2.2.2.1,x2.2.2.2.2.2.2.2.2.1,x2.2.2.2.2.2.2.2.2.2.1,x2.2.2.2.2.2.2.2.2.2.2.1,x2.2.2.2.2.2.2.2.2.2.2.2.1,x2.2.2.2.2.2.2.2.2.2.2.2.2]:List Int) x1.1).bind fun v6=>(D3k ([x2.2.1,x2.2.2.1,x2.2.2.2.1,x2.2.2.2.2.1,x2.2.2.2.2.2.1,x2.2.2.2.2.2.2.1,x2.2.2.2.2.2.2.2.1,x2.2.2.2.2.2.2.2.2.1,x2.2.2.2.2.2.2.2.2.2.1,x2.2.2.2.2.2.2.2.2.2.2.1,x2.2.2.2.2.2.2.2.2.2.2.2.1,x2.2.2.2.2.2.2.2.2.2.2.2.2]:List Int) x1.1 (IntKind.wrap .u32 (((BitVec.ofInt (IntKind.bits .u32) v3|||(BitVec.ofInt (IntKind.bits .u32) (IntKind.wrap .u32 (((BitVec.ofInt (IntKind.bits .u32) v4|||(BitVec.ofInt (IntKind.bits .u32) v5)).toNat:Nat))))).toNat:Nat)))).bind fun v7=>some (.go ((w64 (x2.1+1)),((v7.getD 0 0),(v7.getD 1 0),(v7.getD 2 0),(v7.getD 3 0),(v7.getD 4 0),(v7.getD 5 0),(v7.getD 6 0),(v7.getD 7 0),(v7.getD 8 0),(v7.getD 9 0),(v7.getD 10 0),(v7.getD 11 0))))) (some (.out x2.2))
noncomputable def A4r (p1:Map)(x1:(Int× (Int×Int×Int×Int×Int×Int×Int×Int×Int×Int×Int×Int))):Option (Stp (Int× (Int×Int×Int×Int×Int×Int×Int×Int×Int×Int×Int×Int)) (Int×Int×Int×Int×Int×Int×Int×Int×Int×Int×Int×Int)):=
  cond (decide (x1.1≥0)) ((F3 p1.Lanes x1.1).bind fun v1=>(loop (A4q x1 v1) (0,x1.2)).bind fun y2=>some (.go ((w64 (x1.1 - 1)),y2))) (some (.out x1.2))
noncomputable def A82 (p1:Map):Option (Int×Int×Int×Int×Int×Int×Int×Int×Int×Int×Int×Int):=
  (loop (A4r p1) ((w64 ((p1.Lanes.length:Int) - 1)),(0,0,0,0,0,0,0,0,0,0,0,0))).bind fun y1=>some y1
theorem B8t (p1:Map)(r:(Int×Int×Int×Int×Int×Int×Int×Int×Int×Int×Int×Int))(h:A82 p1=some r):PCall Tryz.prog 244 [(.agg (A0s p1))] (.agg [(.v (.int .u32 r.1)),(.v (.int .u32 r.2.1)),(.v (.int .u32 r.2.2.1)),(.v (.int .u32 r.2.2.2.1)),(.v (.int .u32 r.2.2.2.2.1)),(.v (.int .u32 r.2.2.2.2.2.1)),(.v (.int .u32 r.2.2.2.2.2.2.1)),(.v (.int .u32 r.2.2.2.2.2.2.2.1)),(.v (.int .u32 r.2.2.2.2.2.2.2.2.1)),(.v (.int .u32 r.2.2.2.2.2.2.2.2.2.1)),(.v (.int .u32 r.2.2.2.2.2.2.2.2.2.2.1)),(.v (.int .u32 r.2.2.2.2.2.2.2.2.2.2.2))]):=by
 refine E1 (fk Tryz.func244 Tryz.ntmps244 m0 (by with_unfolding_all rfl)) (nl rfl) ?_
 unfold A82 at h
 refine A9 (s0:=⟨T [(0,(.d _))],G []⟩) (sbr rfl rfl) ?_
 refine lr (fun u1 hu1=>sn rfl rfl (sn rfl rfl (A3 (lr (fun u2 hu2=>sn rfl rfl (A3 (A7 (lr (fun u3 hu3=>sp rfl rfl (sl rfl (gq rfl) rfl (sd rfl (F1 rfl) (sv rfl (sv rfl (A3 (bs h fun y1 hy1 h=>F2 (fun s=> ∃g1:Unit,Sb ⟨T [(2,(.ptr (2,u1) 0)),(3,(.ptr (3,u2) 0))],G [((2,u1),some (.box 267 [(.d (.v (.int .u32 0))),(.d (.v (.int .u32 0))),(.d (.v (.int .u32 0))),(.d (.v (.int .u32 0))),(.d (.v (.int .u32 0))),(.d (.v (.int .u32 0))),(.d (.v (.int .u32 0))),(.d (.v (.int .u32 0))),(.d (.v (.int .u32 0))),(.d (.v (.int .u32 0))),(.d (.v (.int .u32 0))),(.d (.v (.int .u32 0)))])),((3,u2),some (.box 267 [(.d (.v (.int .u32 y1.1))),(.d (.v (.int .u32 y1.2.1))),(.d (.v (.int .u32 y1.2.2.1))),(.d (.v (.int .u32 y1.2.2.2.1))),(.d (.v (.int .u32 y1.2.2.2.2.1))),(.d (.v (.int .u32 y1.2.2.2.2.2.1))),(.d (.v (.int .u32 y1.2.2.2.2.2.2.1))),(.d (.v (.int .u32 y1.2.2.2.2.2.2.2.1))),(.d (.v (.int .u32 y1.2.2.2.2.2.2.2.2.1))),(.d (.v (.int .u32 y1.2.2.2.2.2.2.2.2.2.1))),(.d (.v (.int .u32 y1.2.2.2.2.2.2.2.2.2.2.1))),(.d (.v (.int .u32 y1.2.2.2.2.2.2.2.2.2.2.2)))]))]⟩ s) ?_ ?_)))))))))))))))
 refine A8 (F0 (A4r p1) (fun (x1:(Int× (Int×Int×Int×Int×Int×Int×Int×Int×Int×Int×Int×Int))) (g2:Unit)=>⟨T [(1,(.ptr (1,u1) 0)),(2,(.ptr (2,u1) 0)),(3,(.ptr (3,u2) 0)),(4,(di x1.1))],G [((1,u1),some (.box 27 (A09 p1))),((2,u1),some (.box 267 [(.d (.v (.int .u32 0))),(.d (.v (.int .u32 0))),(.d (.v (.int .u32 0))),(.d (.v (.int .u32 0))),(.d (.v (.int .u32 0))),(.d (.v (.int .u32 0))),(.d (.v (.int .u32 0))),(.d (.v (.int .u32 0))),(.d (.v (.int .u32 0))),(.d (.v (.int .u32 0))),(.d (.v (.int .u32 0))),(.d (.v (.int .u32 0)))])),((3,u2),some (.box 267 [(.d (.v (.int .u32 x1.2.1))),(.d (.v (.int .u32 x1.2.2.1))),(.d (.v (.int .u32 x1.2.2.2.1))),(.d (.v (.int .u32 x1.2.2.2.2.1))),(.d (.v (.int .u32 x1.2.2.2.2.2.1))),(.d (.v (.int .u32 x1.2.2.2.2.2.2.1))),(.d (.v (.int .u32 x1.2.2.2.2.2.2.2.1))),(.d (.v (.int .u32 x1.2.2.2.2.2.2.2.2.1))),(.d (.v (.int .u32 x1.2.2.2.2.2.2.2.2.2.1))),(.d (.v (.int .u32 x1.2.2.2.2.2.2.2.2.2.2.1))),(.d (.v (.int .u32 x1.2.2.2.2.2.2.2.2.2.2.2.1))),(.d (.v (.int .u32 x1.2.2.2.2.2.2.2.2.2.2.2.2)))]))]⟩) ((w64 ((p1.Lanes.length:Int) - 1)),(0,0,0,0,0,0,0,0,0,0,0,0)) () _ hy1 (sbr rfl rfl) ?_)
 intro x1 g2 z1 hz1 ez1
 unfold A4r at hz1
 refine A7 (lr (fun u4 hu4=>sv rfl (sv rfl (A3 (cc rfl hz1 (fun c1 hz1=> ?_) (fun c1 hz1=> ?_))))))
 refine B3 (A7 (A8 (lr (fun u5 hu5=>sp rfl rfl (sl rfl G_hit rfl (sv rfl (bs hz1 fun v1 hv1 hz1=>sd rfl (G6 rfl rfl hv1 rfl) (sv rfl (sd rfl (E9 rfl hv1 rfl) (sd rfl (F1 rfl) (sv rfl (A3 (bs hz1 fun y2 hy2 hz1=>F2 (fun s=> ∃g3:Unit,Sb ⟨T [(1,(.ptr (1,u1) 0)),(2,(.ptr (2,u1) 0)),(3,(.ptr (3,u2) 0)),(4,(di x1.1))],G [((1,u1),some (.box 27 (A09 p1))),((2,u1),some (.box 267 [(.d (.v (.int .u32 0))),(.d (.v (.int .u32 0))),(.d (.v (.int .u32 0))),(.d (.v (.int .u32 0))),(.d (.v (.int .u32 0))),(.d (.v (.int .u32 0))),(.d (.v (.int .u32 0))),(.d (.v (.int .u32 0))),(.d (.v (.int .u32 0))),(.d (.v (.int .u32 0))),(.d (.v (.int .u32 0))),(.d (.v (.int .u32 0)))])),((3,u2),some (.box 267 [(.d (.v (.int .u32 y2.1))),(.d (.v (.int .u32 y2.2.1))),(.d (.v (.int .u32 y2.2.2.1))),(.d (.v (.int .u32 y2.2.2.2.1))),(.d (.v (.int .u32 y2.2.2.2.2.1))),(.d (.v (.int .u32 y2.2.2.2.2.2.1))),(.d (.v (.int .u32 y2.2.2.2.2.2.2.1))),(.d (.v (.int .u32 y2.2.2.2.2.2.2.2.1))),(.d (.v (.int .u32 y2.2.2.2.2.2.2.2.2.1))),(.d (.v (.int .u32 y2.2.2.2.2.2.2.2.2.2.1))),(.d (.v (.int .u32 y2.2.2.2.2.2.2.2.2.2.2.1))),(.d (.v (.int .u32 y2.2.2.2.2.2.2.2.2.2.2.2)))]))]⟩ s) ?_ ?_)))))))))))))
 refine A8 (F0 (A4q x1 v1) (fun (x2:(Int× (Int×Int×Int×Int×Int×Int×Int×Int×Int×Int×Int×Int))) (g4:Unit)=>⟨T [(1,(.ptr (1,u1) 0)),(2,(.ptr (2,u1) 0)),(3,(.ptr (3,u2) 0)),(4,(di x1.1)),(20,(dl A5 v1.Next)),(21,(di (v1.Next.length:Int))),(22,(di x2.1))],G [((1,u1),some (.box 27 (A09 p1))),((2,u1),some (.box 267 [(.d (.v (.int .u32 0))),(.d (.v (.int .u32 0))),(.d (.v (.int .u32 0))),(.d (.v (.int .u32 0))),(.d (.v (.int .u32 0))),(.d (.v (.int .u32 0))),(.d (.v (.int .u32 0))),(.d (.v (.int .u32 0))),(.d (.v (.int .u32 0))),(.d (.v (.int .u32 0))),(.d (.v (.int .u32 0))),(.d (.v (.int .u32 0)))])),((3,u2),some (.box 267 [(.d (.v (.int .u32 x2.2.1))),(.d (.v (.int .u32 x2.2.2.1))),(.d (.v (.int .u32 x2.2.2.2.1))),(.d (.v (.int .u32 x2.2.2.2.2.1))),(.d (.v (.int .u32 x2.2.2.2.2.2.1))),(.d (.v (.int .u32 x2.2.2.2.2.2.2.1))),(.d (.v (.int .u32 x2.2.2.2.2.2.2.2.1))),(.d (.v (.int .u32 x2.2.2.2.2.2.2.2.2.1))),(.d (.v (.int .u32 x2.2.2.2.2.2.2.2.2.2.1))),(.d (.v (.int .u32 x2.2.2.2.2.2.2.2.2.2.2.1))),(.d (.v (.int .u32 x2.2.2.2.2.2.2.2.2.2.2.2.1))),(.d (.v (.int .u32 x2.2.2.2.2.2.2.2.2.2.2.2.2)))]))]⟩) (0,x1.2) () _ hy2 (sbr rfl rfl) ?_)
 intro x2 g4 z2 hz2 ez2
 unfold A4q at hz2
 refine lr (fun u6 hu6=>sv rfl (A3 (A7 (cc rfl hz2 (fun c2 hz2=> ?_) (fun c2 hz2=> ?_)))))
 refine B3 (A7 (A8 (lr (fun u7 hu7=>bs hz2 fun v2 hv2 hz2=>sd rfl (G6 rfl rfl hv2 rfl) (sd rfl (E9 rfl hv2 rfl) (sv rfl (A3 (N6 rfl fun u8 hu8=>sv rfl (bs hz2 fun v3 hv3 hz2=>sp rfl (B7a rfl rfl hv3 rfl) (sd rfl (C0l (f:=fun x=>(.v (.int .u32 x))) rfl (gq rfl) hv3 rfl) (sv rfl (bs hz2 fun v4 hv4 hz2=>sp rfl (B7a rfl rfl hv4 rfl) (sd rfl (C0l (f:=fun x=>(.v (.int .u32 x))) rfl (gq rfl) hv4 rfl) (sv rfl (sv rfl (bs hz2 fun v5 hv5 hz2=>sd rfl (D5l rfl rfl hv5) (sv rfl (sv rfl (bs hz2 fun v6 hv6 hz2=>sp rfl (B7a rfl rfl hv6 rfl) (bs hz2 fun v7 hv7 hz2=>B74 _ _ _ _ _ rfl rfl rfl (gq rfl) (D5k (xs:=([x2.2.1,x2.2.2.1,x2.2.2.2.1,x2.2.2.2.2.1,x2.2.2.2.2.2.1,x2.2.2.2.2.2.2.1,x2.2.2.2.2.2.2.2.1,x2.2.2.2.2.2.2.2.2.1,x2.2.2.2.2.2.2.2.2.2.1,x2.2.2.2.2.2.2.2.2.2.2.1,x2.2.2.2.2.2.2.2.2.2.2.2.1,x2.2.2.2.2.2.2.2.2.2.2.2.2]:List Int)) hv7 rfl) [(.d (.v (.int .u32 (v7.getD 0 0)))),(.d (.v (.int .u32 (v7.getD 1 0)))),(.d (.v (.int .u32 (v7.getD 2 0)))),(.d (.v (.int .u32 (v7.getD 3 0)))),(.d (.v (.int .u32 (v7.getD 4 0)))),(.d (.v (.int .u32 (v7.getD 5 0)))),(.d (.v (.int .u32 (v7.getD 6 0)))),(.d (.v (.int .u32 (v7.getD 7 0)))),(.d (.v (.int .u32 (v7.getD 8 0)))),(.d (.v (.int .u32 (v7.getD 9 0)))),(.d (.v (.int .u32 (v7.getD 10 0)))),(.d (.v (.int .u32 (v7.getD 11 0))))] (D4s (fun x=>(.v (.int .u32 x))) 0 hv7) (A3 (H9 (A9 (s0:=⟨T [(1,(.ptr _ _)),(2,(.ptr _ _)),(3,(.ptr _ _)),(4,(.d _)),(20,(.d _)),(21,(.d _)),(22,(.d _))],G [((1,u1),some (.box 27 _)),((2,u1),some (.box 267 _)),((3,u2),some (.box 267 _))]⟩) (sbr rfl rfl) ?_)))))))))))))))))))))))
 refine B8 fun u9 hu9=>sv rfl (sv rfl (A3 (H4 ?_)))
 cases hz2
 exact ⟨rfl,(),(sbr rfl rfl)⟩
 refine C6 rfl ?_
 cases hz2
 obtain rfl:=ez2 _ rfl
 refine ⟨nofun,C2 rfl (l_j ?_)⟩
 exact ⟨(),(sbr rfl rfl)⟩
 rintro _ ⟨g3,q1⟩
 refine H9 (A9 q1 (B8 fun u10 hu10=>sv rfl (sv rfl (sv rfl (A3 (H4 ?_))))))
 cases hz1
 exact ⟨rfl,(),(sbr rfl rfl)⟩
 refine C6 rfl ?_
 cases hz1
 obtain rfl:=ez1 _ rfl
 refine ⟨nofun,C2 rfl (l_j ?_)⟩
 exact ⟨(),(sbr rfl rfl)⟩
 rintro _ ⟨g1,q2⟩
 refine A9 q2 (lr (fun u11 hu11=>sd rfl (B9 rfl (gq rfl) rfl rfl) (sst rfl G_hit [(.d (.v (.int .u32 y1.1))),(.d (.v (.int .u32 y1.2.1))),(.d (.v (.int .u32 y1.2.2.1))),(.d (.v (.int .u32 y1.2.2.2.1))),(.d (.v (.int .u32 y1.2.2.2.2.1))),(.d (.v (.int .u32 y1.2.2.2.2.2.1))),(.d (.v (.int .u32 y1.2.2.2.2.2.2.1))),(.d (.v (.int .u32 y1.2.2.2.2.2.2.2.1))),(.d (.v (.int .u32 y1.2.2.2.2.2.2.2.2.1))),(.d (.v (.int .u32 y1.2.2.2.2.2.2.2.2.2.1))),(.d (.v (.int .u32 y1.2.2.2.2.2.2.2.2.2.2.1))),(.d (.v (.int .u32 y1.2.2.2.2.2.2.2.2.2.2.2)))] rfl (A3 (B5 ?_)))))
 cases h
 exact B0 (.inr rfl) (C1 (A2w rfl G_hit (nl rfl) rfl) I6) (.refl _)
noncomputable def A5n (p1:Int)(p2:Int):Option Bool:=
  (D59 .u32 p1 (IntKind.wrap .u64 p2)).bind fun v1=>some ((IntKind.wrap .u32 (((BitVec.ofInt (IntKind.bits .u32) v1&&&(BitVec.ofInt (IntKind.bits .u32) 1)).toNat:Nat)))==1)
theorem B5w (p1:Int)(p2:Int)(r:Bool)(h:A5n p1 p2=some r):PCall Tryz.prog 247 [(.v (.int .u32 p1)),(i64 p2)] (bo r):=by
 refine E1 (fk Tryz.func247 Tryz.ntmps247 m0 (by with_unfolding_all rfl)) (nl rfl) ?_
 unfold A5n at h
 refine A9 (s0:=⟨T [(0,(.d _)),(1,(.d _))],G []⟩) (sbr rfl rfl) ?_
 refine lr (fun u1 hu1=>sv rfl (A3 (lr (fun u2 hu2=>sv rfl (sv rfl (sv rfl (bs h fun v1 hv1 h=>sd rfl (D5m rfl rfl hv1) (sv rfl (sv rfl (sv rfl (A3 (B5 ?_))))))))))))
 cases h
 exact B0 (.inr rfl) (C1 (B4 rfl) I6) (.refl _)
noncomputable def A24 (p1:Part)(p2:(Int×Int×Int×Int×Int×Int×Int×Int×Int×Int×Int×Int))(p3:Int):Option Bool:=
  (F3 ([p2.1,p2.2.1,p2.2.2.1,p2.2.2.2.1,p2.2.2.2.2.1,p2.2.2.2.2.2.1,p2.2.2.2.2.2.2.1,p2.2.2.2.2.2.2.2.1,p2.2.2.2.2.2.2.2.2.1,p2.2.2.2.2.2.2.2.2.2.1,p2.2.2.2.2.2.2.2.2.2.2.1,p2.2.2.2.2.2.2.2.2.2.2.2]:List Int) p1.Lane_).bind fun v1=>(A5n v1 p3).bind fun v2=>some v2
theorem B2i (p1:Part)(p2:(Int×Int×Int×Int×Int×Int×Int×Int×Int×Int×Int×Int))(p3:Int)(r:Bool)(h:A24 p1 p2 p3=some r):MCall Tryz.prog 246 [(.d (.agg (R3 p1))),(.ptr (900000,0) 0),(.ptr (900001,0) 0)] [(.box 267 [(.d (.v (.int .u32 p2.1))),(.d (.v (.int .u32 p2.2.1))),(.d (.v (.int .u32 p2.2.2.1))),(.d (.v (.int .u32 p2.2.2.2.1))),(.d (.v (.int .u32 p2.2.2.2.2.1))),(.d (.v (.int .u32 p2.2.2.2.2.2.1))),(.d (.v (.int .u32 p2.2.2.2.2.2.2.1))),(.d (.v (.int .u32 p2.2.2.2.2.2.2.2.1))),(.d (.v (.int .u32 p2.2.2.2.2.2.2.2.2.1))),(.d (.v (.int .u32 p2.2.2.2.2.2.2.2.2.2.1))),(.d (.v (.int .u32 p2.2.2.2.2.2.2.2.2.2.2.1))),(.d (.v (.int .u32 p2.2.2.2.2.2.2.2.2.2.2.2)))]),(.box 3 [(di p3)])] (.d (bo r)) [some (.box 267 [(.d (.v (.int .u32 p2.1))),(.d (.v (.int .u32 p2.2.1))),(.d (.v (.int .u32 p2.2.2.1))),(.d (.v (.int .u32 p2.2.2.2.1))),(.d (.v (.int .u32 p2.2.2.2.2.1))),(.d (.v (.int .u32 p2.2.2.2.2.2.1))),(.d (.v (.int .u32 p2.2.2.2.2.2.2.1))),(.d (.v (.int .u32 p2.2.2.2.2.2.2.2.1))),(.d (.v (.int .u32 p2.2.2.2.2.2.2.2.2.1))),(.d (.v (.int .u32 p2.2.2.2.2.2.2.2.2.2.1))),(.d (.v (.int .u32 p2.2.2.2.2.2.2.2.2.2.2.1))),(.d (.v (.int .u32 p2.2.2.2.2.2.2.2.2.2.2.2)))]),some (.box 3 [(di p3)])] []:=by
 refine A95 (fk Tryz.func246 Tryz.ntmps246 m0 (by with_unfolding_all rfl)) rfl (nl rfl) ?_
 unfold A24 at h
 refine A9 (s0:=⟨T [(0,(.d _)),(1,(.ptr _ _)),(2,(.ptr _ _))],G [((900000,0),some (.box 267 _)),((900001,0),some (.box 3 _))]⟩) (sbr rfl rfl) ?_
 refine lr (fun u1 hu1=>sn rfl rfl (sv rfl (A3 (A7 (N6 rfl fun u2 hu2=>sp rfl rfl (sl rfl G_hit rfl (bs h fun v1 hv1 h=>sp rfl (B7a rfl rfl hv1 rfl) (sd rfl (C0l (f:=fun x=>(.v (.int .u32 x))) rfl (gq rfl) hv1 rfl) (sl rfl (gq rfl) rfl (bs h fun v2 hv2 h=>C4 rfl rfl A4 (B5w _ _ _ hv2) (.inl rfl) (sv rfl (A3 (B5 ?_)))))))))))))
 cases h
 exact A8y (.inr rfl) [] (C23 (B4 rfl) I6) (.refl _) ⟨⟨_,_,_,(gq rfl),L0,rfl,B44,rfl⟩,⟨_,_,_,(gq rfl),L0,rfl,B44,rfl⟩,trivial⟩
noncomputable def I0 (p1:(List Part))(p2:(Int×Int×Int×Int×Int×Int×Int×Int×Int×Int×Int×Int))(p3:Int)(x1:Int):Option (Stp Int (Sum Unit Int)):=
  cond (decide (x1< (p1.length:Int))) ((F3 p1 x1).bind fun v1=>(A24 v1 p2 p3).bind fun v2=>cond v2 (some (.out (.inr x1))) (some (.go (w64 (x1+1))))) (some (.out (.inl ())))
noncomputable def J2 (p1:(List Part))(p2:(Int×Int×Int×Int×Int×Int×Int×Int×Int×Int×Int×Int))(p3:Int):Option Int:=
  thenS (loop (I0 p1 p2 p3) 0) (fun _=>some (-1)) (fun r=>some r)
theorem A25 (p1:(List Part))(p2:(Int×Int×Int×Int×Int×Int×Int×Int×Int×Int×Int×Int))(p3:Int)(r:Int)(h:J2 p1 p2 p3=some r):MCall Tryz.prog 228 [(dl R3 p1),(.fn (.func 246) [] [(.ptr (900000,0) 0),(.ptr (900001,0) 0)])] [(.box 267 [(.d (.v (.int .u32 p2.1))),(.d (.v (.int .u32 p2.2.1))),(.d (.v (.int .u32 p2.2.2.1))),(.d (.v (.int .u32 p2.2.2.2.1))),(.d (.v (.int .u32 p2.2.2.2.2.1))),(.d (.v (.int .u32 p2.2.2.2.2.2.1))),(.d (.v (.int .u32 p2.2.2.2.2.2.2.1))),(.d (.v (.int .u32 p2.2.2.2.2.2.2.2.1))),(.d (.v (.int .u32 p2.2.2.2.2.2.2.2.2.1))),(.d (.v (.int .u32 p2.2.2.2.2.2.2.2.2.2.1))),(.d (.v (.int .u32 p2.2.2.2.2.2.2.2.2.2.2.1))),(.d (.v (.int .u32 p2.2.2.2.2.2.2.2.2.2.2.2)))]),(.box 3 [(di p3)])] (di r) [some (.box 267 [(.d (.v (.int .u32 p2.1))),(.d (.v (.int .u32 p2.2.1))),(.d (.v (.int .u32 p2.2.2.1))),(.d (.v (.int .u32 p2.2.2.2.1))),(.d (.v (.int .u32 p2.2.2.2.2.1))),(.d (.v (.int .u32 p2.2.2.2.2.2.1))),(.d (.v (.int .u32 p2.2.2.2.2.2.2.1))),(.d (.v (.int .u32 p2.2.2.2.2.2.2.2.1))),(.d (.v (.int .u32 p2.2.2.2.2.2.2.2.2.1))),(.d (.v (.int .u32 p2.2.2.2.2.2.2.2.2.2.1))),(.d (.v (.int .u32 p2.2.2.2.2.2.2.2.2.2.2.1))),(.d (.v (.int .u32 p2.2.2.2.2.2.2.2.2.2.2.2)))]),some (.box 3 [(di p3)])] []:=by
 refine A95 (fk Tryz.func228 Tryz.ntmps228 (fun r=>if r==4 then [1004005]else []) (by with_unfolding_all rfl)) rfl (nl rfl) ?_
 unfold J2 at h
 refine A9 (s0:=⟨T [(0,(.d _)),(1,(.fn _ _ _))],G [((900000,0),some (.box 267 _)),((900001,0),some (.box 3 _))]⟩) (sbr rfl rfl) ?_
 refine lr (fun u1 hu1=>sv rfl (A3 (A7 (lr (fun u2 hu2=>sv rfl (sd rfl (F1 rfl) (sv rfl (A3 (js h fun z1 hz1 h=>F2 (fun s=> ∃(y1:Unit) (g1:Unit),z1= .inl y1∧Sb ⟨T [(1,(.fn (.func 246) [] [(.ptr (900000,0) 0),(.ptr (900001,0) 0)]))],G [((900000,0),some (.box 267 [(.d (.v (.int .u32 p2.1))),(.d (.v (.int .u32 p2.2.1))),(.d (.v (.int .u32 p2.2.2.1))),(.d (.v (.int .u32 p2.2.2.2.1))),(.d (.v (.int .u32 p2.2.2.2.2.1))),(.d (.v (.int .u32 p2.2.2.2.2.2.1))),(.d (.v (.int .u32 p2.2.2.2.2.2.2.1))),(.d (.v (.int .u32 p2.2.2.2.2.2.2.2.1))),(.d (.v (.int .u32 p2.2.2.2.2.2.2.2.2.1))),(.d (.v (.int .u32 p2.2.2.2.2.2.2.2.2.2.1))),(.d (.v (.int .u32 p2.2.2.2.2.2.2.2.2.2.2.1))),(.d (.v (.int .u32 p2.2.2.2.2.2.2.2.2.2.2.2)))])),((900001,0),some (.box 3 [(di p3)]))]⟩ s) ?_ ?_)))))))))
 refine A8 (F0 (I0 p1 p2 p3) (fun (x1:Int) (g2:Unit)=>⟨T [(0,(dl R3 p1)),(1,(.fn (.func 246) [] [(.ptr (900000,0) 0),(.ptr (900001,0) 0)])),(7,(di (p1.length:Int))),(8,(di x1))],G [((900000,0),some (.box 267 [(.d (.v (.int .u32 p2.1))),(.d (.v (.int .u32 p2.2.1))),(.d (.v (.int .u32 p2.2.2.1))),(.d (.v (.int .u32 p2.2.2.2.1))),(.d (.v (.int .u32 p2.2.2.2.2.1))),(.d (.v (.int .u32 p2.2.2.2.2.2.1))),(.d (.v (.int .u32 p2.2.2.2.2.2.2.1))),(.d (.v (.int .u32 p2.2.2.2.2.2.2.2.1))),(.d (.v (.int .u32 p2.2.2.2.2.2.2.2.2.1))),(.d (.v (.int .u32 p2.2.2.2.2.2.2.2.2.2.1))),(.d (.v (.int .u32 p2.2.2.2.2.2.2.2.2.2.2.1))),(.d (.v (.int .u32 p2.2.2.2.2.2.2.2.2.2.2.2)))])),((900001,0),some (.box 3 [(di p3)]))]⟩) 0 () _ hz1 (sbr rfl rfl) ?_)
 intro x1 g2 z2 hz2 ez2
 unfold I0 at hz2
 refine lr (fun u3 hu3=>sv rfl (A3 (A7 (cc rfl hz2 (fun c1 hz2=> ?_) (fun c1 hz2=> ?_)))))
 refine B3 (A7 (A8 (lr (fun u4 hu4=>sv rfl (sv rfl (A3 (lr (fun u5 hu5=>F4 (.fn _ _ _) rfl rfl (sv rfl (sv rfl (bs hz2 fun v1 hv1 hz2=>sd rfl (G6 rfl rfl hv1 rfl) (sd rfl (F7 rfl hv1 rfl rfl) (bs hz2 fun v2 hv2 hz2=>C1z (v:= .d (bo v2)) (us:= [(900000,0),(900001,0)]) (C2r (B2i _ _ _ _ hv2) [(900000,0),(900001,0)] [(900000,0),(900001,0)] _ (((900001,0),some (.box 3 [(di p3)]))::(((900000,0),some (.box 267 [(.d (.v (.int .u32 p2.1))),(.d (.v (.int .u32 p2.2.1))),(.d (.v (.int .u32 p2.2.2.1))),(.d (.v (.int .u32 p2.2.2.2.1))),(.d (.v (.int .u32 p2.2.2.2.2.1))),(.d (.v (.int .u32 p2.2.2.2.2.2.1))),(.d (.v (.int .u32 p2.2.2.2.2.2.2.1))),(.d (.v (.int .u32 p2.2.2.2.2.2.2.2.1))),(.d (.v (.int .u32 p2.2.2.2.2.2.2.2.2.1))),(.d (.v (.int .u32 p2.2.2.2.2.2.2.2.2.2.1))),(.d (.v (.int .u32 p2.2.2.2.2.2.2.2.2.2.2.1))),(.d (.v (.int .u32 p2.2.2.2.2.2.2.2.2.2.2.2)))]))::_)) rfl A4l (F9 A8m (F9 (B78 G_hit rfl) (F9 (B78 (A8w rfl G_hit) rfl) A5j))) (V3 G_hit (V3 (A8w rfl G_hit) A21)) ⟨⟨_,G_hit, .of rfl⟩,⟨_,(A8w rfl G_hit), .of rfl⟩,trivial⟩ (fun _ h=>h) (nd2 (C4r rfl)) rfl rfl rfl) (A3 (cc rfl hz2 (fun c2 hz2=> ?_) (fun c2 hz2=> ?_))))))))))))))))
 refine lr (fun u6 hu6=>sv rfl (sv rfl (A3 (B5 ?_))))
 cases hz2
 obtain rfl:=ez2 _ rfl
 refine ⟨nofun,F8 ?_⟩
 rw [Sum.elim_inr]at h
 cases h
 exact A8y (.inr rfl) [] (C23 (B4 rfl) I6) (.refl _) ⟨⟨_,_,_,(gq rfl),L0,rfl,B44,rfl⟩,⟨_,_,_,G_hit,L0,rfl,B44,rfl⟩,trivial⟩
 refine B3 (H9 (B8 fun u7 hu7=>sv rfl (sv rfl (A3 (H4 ?_)))))
 cases hz2
 exact ⟨rfl,(),(sbr rfl rfl)⟩
 refine C6 rfl ?_
 cases hz2
 obtain rfl:=ez2 _ rfl
 refine ⟨nofun,C2 rfl (l_j ?_)⟩
 exact ⟨_,(),rfl,(sbr rfl rfl)⟩
 rintro _ ⟨y1,g1,rfl,q1⟩
 rw [Sum.elim_inl]at h
 refine A9 q1 (lr (fun u8 hu8=>sv rfl (A3 (B5 ?_))))
 cases h
 exact A8y (.inr rfl) [] (C23 (B4 rfl) I6) (.refl _) ⟨⟨_,_,_,G_hit,L0,rfl,B44,rfl⟩,⟨_,_,_,(gq rfl),L0,rfl,B44,rfl⟩,trivial⟩
noncomputable def I3 (p1:(List Part))(p2:(Int×Int×Int×Int×Int×Int×Int×Int×Int×Int×Int×Int))(p3:Int):Option Bool:=
  (J2 p1 p2 p3).bind fun v1=>some (decide (v1≥0))
theorem A1k (p1:(List Part))(p2:(Int×Int×Int×Int×Int×Int×Int×Int×Int×Int×Int×Int))(p3:Int)(r:Bool)(h:I3 p1 p2 p3=some r):MCall Tryz.prog 245 [(dl R3 p1),(.fn (.func 246) [] [(.ptr (900000,0) 0),(.ptr (900001,0) 0)])] [(.box 267 [(.d (.v (.int .u32 p2.1))),(.d (.v (.int .u32 p2.2.1))),(.d (.v (.int .u32 p2.2.2.1))),(.d (.v (.int .u32 p2.2.2.2.1))),(.d (.v (.int .u32 p2.2.2.2.2.1))),(.d (.v (.int .u32 p2.2.2.2.2.2.1))),(.d (.v (.int .u32 p2.2.2.2.2.2.2.1))),(.d (.v (.int .u32 p2.2.2.2.2.2.2.2.1))),(.d (.v (.int .u32 p2.2.2.2.2.2.2.2.2.1))),(.d (.v (.int .u32 p2.2.2.2.2.2.2.2.2.2.1))),(.d (.v (.int .u32 p2.2.2.2.2.2.2.2.2.2.2.1))),(.d (.v (.int .u32 p2.2.2.2.2.2.2.2.2.2.2.2)))]),(.box 3 [(di p3)])] (.d (bo r)) [some (.box 267 [(.d (.v (.int .u32 p2.1))),(.d (.v (.int .u32 p2.2.1))),(.d (.v (.int .u32 p2.2.2.1))),(.d (.v (.int .u32 p2.2.2.2.1))),(.d (.v (.int .u32 p2.2.2.2.2.1))),(.d (.v (.int .u32 p2.2.2.2.2.2.1))),(.d (.v (.int .u32 p2.2.2.2.2.2.2.1))),(.d (.v (.int .u32 p2.2.2.2.2.2.2.2.1))),(.d (.v (.int .u32 p2.2.2.2.2.2.2.2.2.1))),(.d (.v (.int .u32 p2.2.2.2.2.2.2.2.2.2.1))),(.d (.v (.int .u32 p2.2.2.2.2.2.2.2.2.2.2.1))),(.d (.v (.int .u32 p2.2.2.2.2.2.2.2.2.2.2.2)))]),some (.box 3 [(di p3)])] []:=by
 refine A95 (fk Tryz.func245 Tryz.ntmps245 (fun r=>if r==1 then [1001002]else []) (by with_unfolding_all rfl)) rfl (nl rfl) ?_
 unfold I3 at h
 refine A9 (s0:=⟨T [(0,(.d _)),(1,(.fn _ _ _))],G [((900000,0),some (.box 267 _)),((900001,0),some (.box 3 _))]⟩) (sbr rfl rfl) ?_
 refine lr (fun u1 hu1=>sv rfl (A3 (lr (fun u2 hu2=>sv rfl (F4 (.fn _ _ _) rfl rfl (bs h fun v1 hv1 h=>C1z (v:= .d (i64 v1)) (us:= [(900000,0),(900001,0)]) (C2r (A25 _ _ _ _ hv1) [(900000,0),(900001,0)] [(900000,0),(900001,0)] _ (((900001,0),some (.box 3 [(di p3)]))::(((900000,0),some (.box 267 [(.d (.v (.int .u32 p2.1))),(.d (.v (.int .u32 p2.2.1))),(.d (.v (.int .u32 p2.2.2.1))),(.d (.v (.int .u32 p2.2.2.2.1))),(.d (.v (.int .u32 p2.2.2.2.2.1))),(.d (.v (.int .u32 p2.2.2.2.2.2.1))),(.d (.v (.int .u32 p2.2.2.2.2.2.2.1))),(.d (.v (.int .u32 p2.2.2.2.2.2.2.2.1))),(.d (.v (.int .u32 p2.2.2.2.2.2.2.2.2.1))),(.d (.v (.int .u32 p2.2.2.2.2.2.2.2.2.2.1))),(.d (.v (.int .u32 p2.2.2.2.2.2.2.2.2.2.2.1))),(.d (.v (.int .u32 p2.2.2.2.2.2.2.2.2.2.2.2)))]))::_)) rfl A4l (F9 A8m (F9 (D2t rfl (F9 (B78 G_hit rfl) (F9 (B78 (A8w rfl G_hit) rfl) A5j))) A5j)) (V3 G_hit (V3 (A8w rfl G_hit) A21)) ⟨⟨_,G_hit, .of rfl⟩,⟨_,(A8w rfl G_hit), .of rfl⟩,trivial⟩ (fun _ h=>h) (nd2 (C4r rfl)) rfl rfl rfl) (sv rfl (sv rfl (A3 (B5 ?_))))))))))
 cases h
 exact A8y (.inr rfl) [] (C23 (B4 rfl) I6) (.refl _) ⟨⟨_,_,_,(gq rfl),L0,rfl,B44,rfl⟩,⟨_,_,_,G_hit,L0,rfl,B44,rfl⟩,trivial⟩
noncomputable def A50 (p1:Map)(p2:Zone)(p3:Int):Option Bool:=
  (A82 p1).bind fun v1=>(I3 p2.Parts v1 p3).bind fun v2=>some (!v2)
theorem A96 (p1:Map)(p2:Zone)(p3:Int)(r:Bool)(h:A50 p1 p2 p3=some r):PCall Tryz.prog 184 [(.agg (A0s p1)),(.agg [(.list (List.map R3 p2.Parts)),(i64 p2.Signal_)]),(i64 p3)] (bo r):=by
 refine E1 (fk Tryz.func184 Tryz.ntmps184 (fun r=>if r==2 then [1002003]else []) (by with_unfolding_all rfl)) (nl rfl) ?_
 unfold A50 at h
 refine A9 (s0:=⟨T [(0,(.d _)),(1,(.d _)),(2,(.d _))],G []⟩) (sbr rfl rfl) ?_
 refine lr (fun u1 hu1=>sn rfl rfl (sn rfl rfl (sn rfl rfl (sv rfl (A3 (lr (fun u2 hu2=>sd rfl (B9 rfl (gq rfl) rfl rfl) (bs h fun v1 hv1 h=>C4 rfl rfl A4 (B8t _ _ hv1) (.inl rfl) (sn rfl rfl (sst rfl G_hit [(.d (.v (.int .u32 v1.1))),(.d (.v (.int .u32 v1.2.1))),(.d (.v (.int .u32 v1.2.2.1))),(.d (.v (.int .u32 v1.2.2.2.1))),(.d (.v (.int .u32 v1.2.2.2.2.1))),(.d (.v (.int .u32 v1.2.2.2.2.2.1))),(.d (.v (.int .u32 v1.2.2.2.2.2.2.1))),(.d (.v (.int .u32 v1.2.2.2.2.2.2.2.1))),(.d (.v (.int .u32 v1.2.2.2.2.2.2.2.2.1))),(.d (.v (.int .u32 v1.2.2.2.2.2.2.2.2.2.1))),(.d (.v (.int .u32 v1.2.2.2.2.2.2.2.2.2.2.1))),(.d (.v (.int .u32 v1.2.2.2.2.2.2.2.2.2.2.2)))] rfl (A3 (lr (fun u3 hu3=>sp rfl rfl (sl rfl (gq rfl) rfl (F4 (.fn _ _ _) rfl rfl (bs h fun v2 hv2 h=>C1z (v:= .d (bo v2)) (us:= [(7,u2),(5,u1)]) (C2r (A1k _ _ _ _ hv2) [(7,u2),(5,u1)] [(7,u2),(5,u1)] _ (((5,u1),some (.box 3 [(di p3)]))::(((7,u2),some (.box 267 [(.d (.v (.int .u32 v1.1))),(.d (.v (.int .u32 v1.2.1))),(.d (.v (.int .u32 v1.2.2.1))),(.d (.v (.int .u32 v1.2.2.2.1))),(.d (.v (.int .u32 v1.2.2.2.2.1))),(.d (.v (.int .u32 v1.2.2.2.2.2.1))),(.d (.v (.int .u32 v1.2.2.2.2.2.2.1))),(.d (.v (.int .u32 v1.2.2.2.2.2.2.2.1))),(.d (.v (.int .u32 v1.2.2.2.2.2.2.2.2.1))),(.d (.v (.int .u32 v1.2.2.2.2.2.2.2.2.2.1))),(.d (.v (.int .u32 v1.2.2.2.2.2.2.2.2.2.2.1))),(.d (.v (.int .u32 v1.2.2.2.2.2.2.2.2.2.2.2)))]))::_)) rfl A4l (F9 A8m (F9 (D2t rfl (F9 (B78 G_hit rfl) (F9 (B78 (A8w rfl (A8w rfl G_hit)) rfl) A5j))) A5j)) (V3 G_hit (V3 (A8w rfl (A8w rfl G_hit)) A21)) ⟨⟨_,G_hit, .of rfl⟩,⟨_,(A8w rfl (A8w rfl G_hit)), .of rfl⟩,trivial⟩ (fun _ h=>h) (nd2 (C4r rfl)) rfl rfl rfl) (F4 (.d (bo (!v2))) rfl rfl (sv rfl (A3 (B5 ?_))))))))))))))))))))
 cases h
 exact B0 (.inr rfl) (C1 (B4 rfl) I6) (.refl _)
noncomputable def A0b (p1:Int)(p2:Map)(p3:Zone):Option Bool:=
  (A50 p2 p3 p1).bind fun v1=>some (!v1)
theorem B06 (p1:Int)(p2:Map)(p3:Zone)(r:Bool)(h:A0b p1 p2 p3=some r):PCall Tryz.prog 183 [(i64 p1),(.bp (A0s p2) 0),(.bp [(.list (List.map R3 p3.Parts)),(i64 p3.Signal_)] 0)] (bo r):=by
 refine E1 (fk Tryz.func183 Tryz.ntmps183 m0 (by with_unfolding_all rfl)) (nl rfl) ?_
 unfold A0b at h
 refine A9 (s0:=⟨T [(0,(.d _)),(1,(.d _)),(2,(.d _))],G []⟩) (sbr rfl rfl) ?_
 refine lr (fun u1 hu1=>sv rfl (A3 (lr (fun u2 hu2=>sv rfl (sv rfl (sv rfl (bs h fun v1 hv1 h=>C4 rfl rfl A4 (A96 _ _ _ _ hv1) (.inl rfl) (F4 (.d (bo (!v1))) rfl rfl (sv rfl (A3 (B5 ?_)))))))))))
 cases h
 exact B0 (.inr rfl) (C1 (B4 rfl) I6) (.refl _)
end Go.Abs.Roadsz
