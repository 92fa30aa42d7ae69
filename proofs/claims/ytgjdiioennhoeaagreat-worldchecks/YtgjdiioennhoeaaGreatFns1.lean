/-
  The Go functions that WorldChecks reaches, as plain Lean functions, and the proofs that the program computes them.
-/
import Derived.Test.YtgjdiioennhoeaaGreatCoreD
import Derived.Test.YtgjdiioennhoeaaGreatProg
import Derived.KernelRfl
import Derived.IntWalk
import Derived.Shelf.SlicesE.Compact
set_option maxRecDepth 20000
set_option maxHeartbeats 4000000
set_option linter.unusedVariables false
namespace Go.Abs.World
open Go Go.Abs Go.Proofs
attribute [local irreducible] X8 B3m AWL
structure Spot where
  X:Int
  Y:Int
  deriving Inhabited
structure CurveVector where
  x:Int
  y:Int
  deriving Inhabited
structure CurvePiece where
  p:Spot
  v:CurveVector
  l:Int
  start:Int
  deriving Inhabited
abbrev A5a:Spot→List D:=fun x=> [(i64 x.X),(i64 x.Y)]
structure Curve where
  Pts:(List Spot)
  deriving Inhabited
abbrev eCurve:Curve→List D:=fun x=> [(.list (List.map A5a x.Pts))]
structure Stay where
  Agent_:Int
  Zone_:Int
  Since:Int
  Rank:Int
  deriving Inhabited
abbrev L7:Stay→List D:=fun x=> [(i64 x.Agent_),(i64 x.Zone_),(i64 x.Since),(i64 x.Rank)]
abbrev A5:Int→List D:=fun x=> [.v (.int .i64 x)]
structure Agent where
  Route:(List Int)
  S:Int
  V:Int
  Len:Int
  Begin:Int
  Obey:Bool
  Gone:Bool
  deriving Inhabited
structure State where
  Tick:Int
  Agents:(List Agent)
  In:(List Stay)
  deriving Inhabited
abbrev D2:Agent→List D:=fun x=> [(.list (List.map A5 x.Route)),(i64 x.S),(i64 x.V),(i64 x.Len),(i64 x.Begin),(bo x.Obey),(bo x.Gone)]
abbrev A2s:State→List D:=fun x=> [(i64 x.Tick),(.list (List.map D2 x.Agents)),(.list (List.map L7 x.In))]
abbrev D3k:(List Agent)→List D:=fun x=> [.list (List.map D2 x)]
abbrev C8u:(List Int)→List D:=fun x=> [.list (List.map A5 x)]
abbrev D8x:Bool→List D:=fun x=> [bo x]
abbrev D6f:(List Stay)→List D:=fun x=> [.list (List.map L7 x)]
structure Lane where
  Kind:Int
  Curve_:Curve
  Half:Int
  Limit:Int
  Next:(List Int)
  deriving Inhabited
structure Part where
  Lane_:Int
  From:Int
  To:Int
  Rank:Int
  deriving Inhabited
structure Zone where
  Parts:(List Part)
  Signal_:Int
  deriving Inhabited
structure Phase where
  Ticks:Int
  Green:(List Int)
  deriving Inhabited
structure Signal where
  Offset:Int
  Phases:(List Phase)
  deriving Inhabited
structure Work where
  Lane_:Int
  From:Int
  To:Int
  Begin:Int
  End:Int
  Limit:Int
  deriving Inhabited
structure Map where
  Version:Int
  Lanes:(List Lane)
  Zones:(List Zone)
  Signals:(List Signal)
  Works:(List Work)
  deriving Inhabited
abbrev A7q:Lane→List D:=fun x=> [(i64 x.Kind),(.list (List.map A5a x.Curve_.Pts)),(i64 x.Half),(i64 x.Limit),(.list (List.map A5 x.Next))]
abbrev A6b:Part→List D:=fun x=> [(i64 x.Lane_),(i64 x.From),(i64 x.To),(i64 x.Rank)]
abbrev A7r:Zone→List D:=fun x=> [(.list (List.map A6b x.Parts)),(i64 x.Signal_)]
abbrev A5q:Phase→List D:=fun x=> [(i64 x.Ticks),(.list (List.map A5 x.Green))]
abbrev B00:Signal→List D:=fun x=> [(i64 x.Offset),(.list (List.map A5q x.Phases))]
abbrev B7q:Work→List D:=fun x=> [(i64 x.Lane_),(i64 x.From),(i64 x.To),(i64 x.Begin),(i64 x.End),(i64 x.Limit)]
abbrev eFn:Nat→List D:=fun x=> [.fn (.func x) [] []]
structure RoadsCheck where
  Map_:Map
  deriving Inhabited
abbrev D8y:(Int×Int×Int)→List D:=fun x=> [(i64 x.1),(i64 x.2.1),(i64 x.2.2)]
structure RoadsWay where
  Map_:Map
  lanes:(List Int)
  starts:(List Int)
  length:Int
  deriving Inhabited
structure WorldSpan where
  from_:Int
  to:Int
  deriving Inhabited
structure Crash where
  Tick:Int
  A:Int
  B:Int
  Lane_:Int
  Zone_:Int
  Who:(List Int)
  deriving Inhabited
structure WorldScene where
  m:Map
  before:State
  after:State
  acts:(List Int)
  crashes:(List Crash)
  deriving Inhabited
abbrev A4a:Crash→List D:=fun x=> [(i64 x.Tick),(i64 x.A),(i64 x.B),(i64 x.Lane_),(i64 x.Zone_),(.list (List.map A5 x.Who))]
structure Pass where
  Zone_:Int
  Part_:Int
  From:Int
  To:Int
  deriving Inhabited
abbrev A2t:Pass→List D:=fun x=> [(i64 x.Zone_),(i64 x.Part_),(i64 x.From),(i64 x.To)]
structure Span where
  Lane_:Int
  From:Int
  To:Int
  deriving Inhabited
abbrev B13:Span→List D:=fun x=> [(i64 x.Lane_),(i64 x.From),(i64 x.To)]
structure Anon7 where
  x:Int
  y:Int
  signed:Bool
  code:Int
  deriving Inhabited
structure RuntimeBoundsError where
  x:Int
  y:Int
  signed:Bool
  code:Int
  deriving Inhabited
structure Anon13 where
  msg:ByteArray
  addr:Int
  deriving Inhabited
structure RuntimeErrorAddressString where
  msg:ByteArray
  addr:Int
  deriving Inhabited
structure Anon24 where
  Tick:Int
  Agents:(List Agent)
  In:(List Stay)
  deriving Inhabited
structure Anon32 where
  Version:Int
  Lanes:(List Lane)
  Zones:(List Zone)
  Signals:(List Signal)
  Works:(List Work)
  deriving Inhabited
structure Anon44 where
  Route:(List Int)
  S:Int
  V:Int
  Len:Int
  Begin:Int
  Obey:Bool
  Gone:Bool
  deriving Inhabited
structure Anon60 where
  Pts:(List Spot)
  deriving Inhabited
structure Anon62 where
  Kind:Int
  Curve_:Curve
  Half:Int
  Limit:Int
  Next:(List Int)
  deriving Inhabited
structure Anon72 where
  R:Int
  S:Int
  V:Int
  Len:Int
  Begin:Int
  Disobeys:Bool
  deriving Inhabited
structure KitActor where
  R:Int
  S:Int
  V:Int
  Len:Int
  Begin:Int
  Disobeys:Bool
  deriving Inhabited
structure Anon76 where
  Tick:Int
  A:Int
  B:Int
  Lane_:Int
  Zone_:Int
  Who:(List Int)
  deriving Inhabited
structure Anon82 where
  Stamp:Int
  Lo:Int
  Hi:Int
  deriving Inhabited
structure Mark where
  Stamp:Int
  Lo:Int
  Hi:Int
  deriving Inhabited
structure Anon92 where
  Lane_:Int
  From:Int
  To:Int
  deriving Inhabited
structure Point where
  X:Int
  Y:Int
  V:Int
  deriving Inhabited
structure Anon98 where
  Stamp:Int
  Seen:(List Span)
  Points:(List Point)
  deriving Inhabited
structure Scan where
  Stamp:Int
  Seen:(List Span)
  Points:(List Point)
  deriving Inhabited
structure Anon103 where
  X:Int
  Y:Int
  deriving Inhabited
structure Anon106 where
  X:Int
  Y:Int
  V:Int
  deriving Inhabited
structure Anon113 where
  Lane_:Int
  From:Int
  To:Int
  Rank:Int
  deriving Inhabited
structure Anon116 where
  Parts:(List Part)
  Signal_:Int
  deriving Inhabited
structure Anon119 where
  Offset:Int
  Phases:(List Phase)
  deriving Inhabited
structure Anon122 where
  Lane_:Int
  From:Int
  To:Int
  Begin:Int
  End:Int
  Limit:Int
  deriving Inhabited
structure Anon126 where
  Agent_:Int
  Zone_:Int
  Since:Int
  Rank:Int
  deriving Inhabited
structure Anon134 where
  m:Map
  before:State
  after:State
  acts:(List Int)
  crashes:(List Crash)
  deriving Inhabited
structure Anon164 where
  s:ByteArray
  bad:Bool
  deriving Inhabited
structure WorldReader where
  s:ByteArray
  bad:Bool
  deriving Inhabited
structure Anon171 where
  s:ByteArray
  bad:Bool
  deriving Inhabited
structure Ref04Reader where
  s:ByteArray
  bad:Bool
  deriving Inhabited
structure Anon190 where
  from_:Int
  to:Int
  deriving Inhabited
structure Anon207 where
  Ticks:Int
  Green:(List Int)
  deriving Inhabited
structure Anon211 where
  Map_:Map
  deriving Inhabited
structure Anon228 where
  Zone_:Int
  Part_:Int
  From:Int
  To:Int
  deriving Inhabited
structure WorldBar where
  front:Spot
  rear:Spot
  deriving Inhabited
structure Anon245 where
  m:Map
  eye:Spot
  view:Int
  bodies:(List (List Span))
  bars:(List WorldBar)
  deriving Inhabited
structure WorldLooks where
  m:Map
  eye:Spot
  view:Int
  bodies:(List (List Span))
  bars:(List WorldBar)
  deriving Inhabited
structure Anon247 where
  front:Spot
  rear:Spot
  deriving Inhabited
structure Anon252 where
  x:Int
  y:Int
  deriving Inhabited
structure Anon254 where
  p:Spot
  v:CurveVector
  l:Int
  start:Int
  deriving Inhabited
structure Anon259 where
  Map_:Map
  lanes:(List Int)
  starts:(List Int)
  length:Int
  deriving Inhabited
abbrev B01:WorldScene→List D:=fun x=> [(i64 x.m.Version),(.list (List.map A7q x.m.Lanes)),(.list (List.map A7r x.m.Zones)),(.list (List.map B00 x.m.Signals)),(.list (List.map B7q x.m.Works)),(i64 x.before.Tick),(.list (List.map D2 x.before.Agents)),(.list (List.map L7 x.before.In)),(i64 x.after.Tick),(.list (List.map D2 x.after.Agents)),(.list (List.map L7 x.after.In)),(.list (List.map A5 x.acts)),(.list (List.map A4a x.crashes))]
abbrev W8:WorldScene→List AV:=fun x=> [(.d (i64 x.m.Version)),(.d (.list (List.map A7q x.m.Lanes))),(.d (.list (List.map A7r x.m.Zones))),(.d (.list (List.map B00 x.m.Signals))),(.d (.list (List.map B7q x.m.Works))),(.d (i64 x.before.Tick)),(.d (.list (List.map D2 x.before.Agents))),(.d (.list (List.map L7 x.before.In))),(.d (i64 x.after.Tick)),(.d (.list (List.map D2 x.after.Agents))),(.d (.list (List.map L7 x.after.In))),(.d (.list (List.map A5 x.acts))),(.d (.list (List.map A4a x.crashes)))]
abbrev D16:RoadsWay→List D:=fun x=> [(i64 x.Map_.Version),(.list (List.map A7q x.Map_.Lanes)),(.list (List.map A7r x.Map_.Zones)),(.list (List.map B00 x.Map_.Signals)),(.list (List.map B7q x.Map_.Works)),(.list (List.map A5 x.lanes)),(.list (List.map A5 x.starts)),(i64 x.length)]
abbrev B02:RoadsWay→List AV:=fun x=> [(.d (i64 x.Map_.Version)),(.d (.list (List.map A7q x.Map_.Lanes))),(.d (.list (List.map A7r x.Map_.Zones))),(.d (.list (List.map B00 x.Map_.Signals))),(.d (.list (List.map B7q x.Map_.Works))),(.d (.list (List.map A5 x.lanes))),(.d (.list (List.map A5 x.starts))),(.d (i64 x.length))]
abbrev A0h:Agent→List AV:=fun x=> [(.d (.list (List.map A5 x.Route))),(.d (i64 x.S)),(.d (i64 x.V)),(.d (i64 x.Len)),(.d (i64 x.Begin)),(.d (bo x.Obey)),(.d (bo x.Gone))]
abbrev D8z:Work→List AV:=fun x=> [(.d (i64 x.Lane_)),(.d (i64 x.From)),(.d (i64 x.To)),(.d (i64 x.Begin)),(.d (i64 x.End)),(.d (i64 x.Limit))]
abbrev C60:CurvePiece→List D:=fun x=> [(i64 x.p.X),(i64 x.p.Y),(i64 x.v.x),(i64 x.v.y),(i64 x.l),(i64 x.start)]
abbrev C61:CurvePiece→List AV:=fun x=> [(.d (i64 x.p.X)),(.d (i64 x.p.Y)),(.d (i64 x.v.x)),(.d (i64 x.v.y)),(.d (i64 x.l)),(.d (i64 x.start))]
abbrev A4h:Map→List D:=fun x=> [(i64 x.Version),(.list (List.map A7q x.Lanes)),(.list (List.map A7r x.Zones)),(.list (List.map B00 x.Signals)),(.list (List.map B7q x.Works))]
abbrev A0i:Map→List AV:=fun x=> [(.d (i64 x.Version)),(.d (.list (List.map A7q x.Lanes))),(.d (.list (List.map A7r x.Zones))),(.d (.list (List.map B00 x.Signals))),(.d (.list (List.map B7q x.Works)))]
abbrev C31:Lane→List AV:=fun x=> [(.d (i64 x.Kind)),(.d (.list (List.map A5a x.Curve_.Pts))),(.d (i64 x.Half)),(.d (i64 x.Limit)),(.d (.list (List.map A5 x.Next)))]
abbrev C62:Part→List AV:=fun x=> [(.d (i64 x.Lane_)),(.d (i64 x.From)),(.d (i64 x.To)),(.d (i64 x.Rank))]
abbrev B8n:Stay→List AV:=fun x=> [(.d (i64 x.Agent_)),(.d (i64 x.Zone_)),(.d (i64 x.Since)),(.d (i64 x.Rank))]
abbrev L5:State→List AV:=fun x=> [(.d (i64 x.Tick)),(.d (.list (List.map D2 x.Agents))),(.d (.list (List.map L7 x.In)))]
noncomputable def A3v (p1:State)(x1:Int):Option (Stp Int (Sum Unit Bool)):=
  cond (decide (x1< (p1.Agents.length:Int))) ((D6 p1.Agents x1).bind fun v1=>cond (decide ((v1.Route.length:Int)>10)) (some (.out (.inr false))) (some (.go (w64 (x1+1))))) (some (.out (.inl ())))
noncomputable def B03 (p1:State):Option Bool:=
  cond ((decide ((p1.Agents.length:Int)>10))||(decide ((p1.In.length:Int)>20))) (some false) (thenS (loop (A3v p1) 0) (fun _=>some true) (fun r=>some r))
theorem C1d (p1:State)(r:Bool)(h:B03 p1=some r):PCall Tryz.prog 20 [(.agg (A2s p1))] (bo r):=by
 refine B8 (fk Tryz.func20 Tryz.ntmps20 m0 (by with_unfolding_all rfl)) (nl rfl) ?_
 unfold B03 at h
 refine B5 (s0:=⟨T [(0,(.d _))],G []⟩) (sbr rfl rfl) ?_
 refine lr (fun u1 hu1=>sn rfl rfl (sv rfl (A1 (A6 (lr (fun u2 hu2=>sp rfl rfl (sl rfl G_hit rfl (sd rfl (E5 rfl) (sv rfl (sv rfl (gp rfl (T8 rfl) (fun _=>rfl) (gf rfl (vl rfl G_hit rfl) (gf rfl (fun w3=>(E5 (A3 w3))) (gf rfl (vb rfl rfl rfl) (sd rfl (A0u rfl rfl (fun hc=>A3 (L6 hc))) (A1 (cc rfl h (fun c1 h=> ?_) (fun c1 h=> ?_))))))))))))))))))
 refine lr (fun u3 hu3=>sv rfl (A1 (B3 ?_)))
 cases h
 exact A7 (.inr rfl) (B6 (B4 rfl) E1) (.refl _)
 refine A9 (A6 (lr (fun u4 hu4=>sv rfl (A1 (js h fun z1 hz1 h=>E0 (fun s=> ∃(y1:Unit) (g1:Unit),z1= .inl y1∧Sb ⟨T [],G []⟩ s) ?_ ?_)))))
 refine A8 (E7 (A3v p1) (fun (x1:Int) (g2:Unit)=>⟨T [(1,(.ptr (1,u1) 0)),(3,(di x1))],G [((1,u1),some (.box 25 (L5 p1)))]⟩) 0 () _ hz1 (sbr rfl rfl) ?_)
 intro x1 g2 z2 hz2 ez2
 unfold A3v at hz2
 refine A6 (lr (fun u5 hu5=>sv rfl (sp rfl rfl (sl rfl G_hit rfl (sd rfl (E5 rfl) (sv rfl (A1 (cc rfl hz2 (fun c2 hz2=> ?_) (fun c2 hz2=> ?_)))))))))
 refine A9 (A6 (A8 (lr (fun u6 hu6=>sp rfl rfl (sl rfl G_hit rfl (sv rfl (bs hz2 fun v1 hv1 hz2=>sd rfl (E4 rfl rfl hv1 rfl) (sv rfl (sd rfl (F3 rfl hv1 rfl) (sd rfl (E5 rfl) (sv rfl (A1 (cc rfl hz2 (fun c3 hz2=> ?_) (fun c3 hz2=> ?_))))))))))))))
 refine lr (fun u7 hu7=>sv rfl (A1 (B3 ?_)))
 cases hz2
 obtain rfl:=ez2 _ rfl
 refine ⟨nofun,D7 ?_⟩
 rw [Sum.elim_inr]at h
 cases h
 exact A7 (.inr rfl) (B6 (B4 rfl) E1) (.refl _)
 refine A9 (F9 (D0 fun u8 hu8=>sv rfl (sv rfl (sv rfl (A1 (G3 ?_))))))
 cases hz2
 exact ⟨rfl,(),(sbr rfl rfl)⟩
 refine C3 rfl ?_
 cases hz2
 obtain rfl:=ez2 _ rfl
 refine ⟨nofun,C0 rfl (l_j ?_)⟩
 exact ⟨_,(),rfl,(sbr rfl rfl)⟩
 rintro _ ⟨y1,g1,rfl,q1⟩
 rw [Sum.elim_inl]at h
 refine B5 q1 (lr (fun u9 hu9=>sv rfl (A1 (B3 ?_))))
 cases h
 exact A7 (.inr rfl) (B6 (B4 rfl) E1) (.refl _)
noncomputable def B04 (p4:(List Int))(x1:(Int× (List Spot))):Option (Stp (Int× (List Spot)) (List Spot)):=
  cond (decide ((w64 (x1.1+1))< (p4.length:Int))) ((D6 p4 x1.1).bind fun v1=>(D6 p4 (w64 (x1.1+1))).bind fun v2=>(A8h x1.2 [(Spot.mk v1 v2)]).bind fun v3=>some (.go ((w64 (x1.1+2)),v3))) (some (.out x1.2))
noncomputable def X9 (p1:Int)(p2:Int)(p3:(List Int))(p4:(List Int)):Option Lane:=
  (loop (B04 p4) (0,[])).bind fun y1=>cond (p1==3) (some (Lane.mk p1 (Curve.mk y1) 500 p2 p3)) (some (Lane.mk p1 (Curve.mk y1) 1500 p2 p3))
theorem S6 (p1:Int)(p2:Int)(p3:(List Int))(p4:(List Int))(r:Lane)(h:X9 p1 p2 p3 p4=some r):PCall Tryz.prog 69 [(i64 p1),(i64 p2),(.list (List.map A5 p3)),(.list (List.map A5 p4))] (.agg (A7q r)):=by
 refine B8 (fk Tryz.func69 Tryz.ntmps69 (fun r=>if r==5 then [1013]else []) (by with_unfolding_all rfl)) (nl rfl) ?_
 unfold X9 at h
 refine B5 (s0:=⟨T [(0,(.d _)),(1,(.d _)),(2,(.d _)),(3,(.d _))],G []⟩) (sbr rfl rfl) ?_
 refine lr (fun u1 hu1=>sn rfl rfl (A1 (lr (fun u2 hu2=>sv rfl (sv rfl (sv rfl (sv rfl (sn rfl rfl (sst rfl G_hit [(di p1),(.d .nilS),(di 1500),(di p2),(dl A5 p3)] rfl (A1 (A6 (lr (fun u3 hu3=>sv rfl (A1 (bs h fun y1 hy1 h=>E0 (fun s=> ∃g1:Nat,Sb ⟨T [(0,(di p1)),(8,(.ptr (8,u1) 0)),(9,(.ptr (9,u2) 0))],G [((8,u1),some (.box 63 (((zs 4).set 1 (.d .nilS))++ [(.d .nilS)]))),((9,u2),some (.box 63 [(di p1),(oS y1 (36,g1)),(di 1500),(di p2),(dl A5 p3)])),((36,g1),oB 104 2 A5a y1)]⟩ s) ?_ ?_)))))))))))))))
 refine A8 (E7 (B04 p4) (fun (x1:(Int× (List Spot))) (g2:Nat)=>⟨T [(0,(di p1)),(3,(dl A5 p4)),(8,(.ptr (8,u1) 0)),(9,(.ptr (9,u2) 0)),(10,(di x1.1))],G [((8,u1),some (.box 63 (((zs 4).set 1 (.d .nilS))++ [(.d .nilS)]))),((9,u2),some (.box 63 [(di p1),(oS x1.2 (36,g2)),(di 1500),(di p2),(dl A5 p3)])),((36,g2),oB 104 2 A5a x1.2)]⟩) (0,[]) 0 _ hy1 (G8 ⟨.of rfl, .of rfl, .of rfl, .of rfl, .of rfl,trivial⟩ (sg rfl (B0 G_hit (.of rfl) (Y3 trivial)))) ?_)
 intro x1 g2 z1 hz1 ez1
 unfold B04 at hz1
 refine A6 (lr (fun u4 hu4=>sv rfl (sv rfl (sv rfl (sd rfl (E5 rfl) (sv rfl (A1 (cc rfl hz1 (fun c1 hz1=> ?_) (fun c1 hz1=> ?_)))))))))
 refine A9 (A6 (A8 (I6 rfl fun u5 hu5=>sp rfl rfl (sp rfl rfl (B9 (oS x1.2 (36,g2)) rfl (X1 rfl (gq rfl) rfl) (sv rfl (sv rfl (bs hz1 fun v1 hv1 hz1=>sd rfl (E4 rfl rfl hv1 rfl) (sd rfl (F3 rfl hv1 rfl) (sv rfl (sv rfl (sv rfl (bs hz1 fun v2 hv2 hz1=>sd rfl (E4 rfl rfl hv2 rfl) (sd rfl (F3 rfl hv2 rfl) (sv rfl (B9 (dl A5a [(Spot.mk v1 v2)]) rfl rfl (bs hz1 fun v3 hv3 hz1=>X0 A5a (36,g2) x1.2 (Spot.mk v1 v2) [] _ (O2 (fun _=>rfl)) rfl (gq rfl) hv3 (sp rfl rfl (sp rfl rfl (sst rfl (gq rfl) [(di p1),(.sl (36,u5)),(di 1500),(di p2),(dl A5 p3)] rfl (A1 (F9 (D0 fun u6 hu6=>sv rfl (sv rfl (sv rfl (A1 (G3 ?_)))))))))))))))))))))))))))
 cases hz1
 exact ⟨rfl,u5,(G8 ⟨.of rfl, .of rfl, .of rfl, .of rfl, .of rfl,trivial⟩ (sg rfl (B0 G_hit (.box (cv (.cons (.of (A2r (A18 hv3)).symm) cw))) (T1 (gq rfl) trivial))))⟩
 refine C3 rfl ?_
 cases hz1
 obtain rfl:=ez1 _ rfl
 refine ⟨nofun,C0 rfl (l_j ?_)⟩
 exact ⟨g2,(G8 ⟨.of rfl, .of rfl, .of rfl,trivial⟩ (B0 G_hit (.of rfl) (sg rfl (B7 (gq rfl) trivial))))⟩
 rintro _ ⟨g1,q1⟩
 refine B5 q1 (A6 (lr (fun u7 hu7=>sv rfl (sv rfl (A1 (cc rfl h (fun c2 h=> ?_) (fun c2 h=> ?_)))))))
 refine D0 fun u8 hu8=>sp rfl rfl (sst rfl (gq rfl) [(di p1),(oS y1 (36,g1)),(di 500),(di p2),(dl A5 p3)] rfl (A1 (lr (fun u9 hu9=>B9 (A39 [(di p1),(oS y1 (36,g1)),(di 500),(di p2),(dl A5 p3)]) rfl (B2 rfl G_hit rfl rfl) (A8z _ _ _ _ _ (Z1 _) rfl rfl (gq rfl) (nl rfl) [(di p1),(oS y1 (36,g1)),(di 500),(di p2),(dl A5 p3)] rfl (A1 (B3 ?_)))))))
 cases h
 exact A7 (.inr rfl) (B6 (K9 rfl G_hit (nl rfl) rfl) (B18 (rD (C9 (A1x (gq rfl)) (rD (rD (rD E2))))))) (.agg (ca rfl (.cons ⟨A1w,rfl⟩ (cz rfl))))
 refine A9 (lr (fun u10 hu10=>B9 (A39 [(di p1),(oS y1 (36,g1)),(di 1500),(di p2),(dl A5 p3)]) rfl (B2 rfl (gq rfl) rfl rfl) (A8z _ _ _ _ _ (Z1 _) rfl rfl G_hit (nl rfl) [(di p1),(oS y1 (36,g1)),(di 1500),(di p2),(dl A5 p3)] rfl (A1 (B3 ?_)))))
 cases h
 exact A7 (.inr rfl) (B6 (K9 rfl G_hit (nl rfl) rfl) (B18 (rD (C9 (A1x (gq rfl)) (rD (rD (rD E2))))))) (.agg (ca rfl (.cons ⟨A1w,rfl⟩ (cz rfl))))
noncomputable def B3z:Option Map:=
  (X9 1 1500 [] [0,0,100000,0]).bind fun v1=>(X9 1 1500 [] [50000,(-50000),50000,50000]).bind fun v2=>some (Map.mk 0 [v1,v2] [(Zone.mk [(Part.mk 0 48000 52000 1),(Part.mk 1 48000 52000 0)] 0)] [] [])
theorem C4s (r:Map)(h:B3z=some r):PCall Tryz.prog 65 [] (.agg (A4h r)):=by
 refine B8 (fk Tryz.func65 Tryz.ntmps65 (fun r=>if r==1 then [1000,1002,1004,1007,1009]else []) (by with_unfolding_all rfl)) (nl rfl) ?_
 unfold B3z at h
 refine B5 (s0:=⟨T [],G []⟩) (sbr rfl rfl) ?_
 refine lr (fun u1 hu1=>sn rfl rfl (A1 (lr (fun u2 hu2=>B9 (dl A5 [0,0,100000,0]) rfl rfl (bs h fun v1 hv1 h=>B1 rfl rfl (.cons (.refl _) (.cons (.refl _) (.cons DLe.nil A2))) (S6 _ _ _ _ _ hv1) (.inl rfl) (B9 (dl A5 [50000,(-50000),50000,50000]) rfl rfl (bs h fun v2 hv2 h=>B1 rfl rfl (.cons (.refl _) (.cons (.refl _) (.cons DLe.nil A2))) (S6 _ _ _ _ _ hv2) (.inl rfl) (B9 (dl A7q [v1,v2]) rfl (C06 A7q ([v1,v2]:List Lane) (fun _=>rfl) rfl rfl ⟨rfl,rfl,rfl,rfl,rfl,rfl,trivial⟩ (fun _=>rfl)) (sv rfl (sv rfl (B9 (dl A6b [(Part.mk 0 48000 52000 1),(Part.mk 1 48000 52000 0)]) rfl rfl (sv rfl (B9 (dl A7r [(Zone.mk [(Part.mk 0 48000 52000 1),(Part.mk 1 48000 52000 0)] 0)]) rfl rfl (sv rfl (sst rfl G_hit [(di 0),(dl A7q [v1,v2]),(dl A7r [(Zone.mk [(Part.mk 0 48000 52000 1),(Part.mk 1 48000 52000 0)] 0)]),(.d .nilS),(.d .nilS)] rfl (A1 (B3 ?_)))))))))))))))))
 cases h
 exact A7 (.inr rfl) (B6 (K9 rfl G_hit (nl rfl) rfl) E1) (.agg (ca rfl (ca rfl (ca rfl (.cons ⟨DLe.nil,rfl⟩ (.cons ⟨DLe.nil,rfl⟩ .nil))))))
noncomputable def A7w (p1:Int)(p2:Int)(p3:Int):Option Agent:=
  some (Agent.mk [p1] p2 p3 4000 0 false false)
theorem B57 (p1:Int)(p2:Int)(p3:Int)(r:Agent)(h:A7w p1 p2 p3=some r):PCall Tryz.prog 66 [(i64 p1),(i64 p2),(i64 p3)] (.agg (D2 r)):=by
 refine B8 (fk Tryz.func66 Tryz.ntmps66 (fun r=>if r==1 then [1001]else []) (by with_unfolding_all rfl)) (nl rfl) ?_
 unfold A7w at h
 refine B5 (s0:=⟨T [(0,(.d _)),(1,(.d _)),(2,(.d _))],G []⟩) (sbr rfl rfl) ?_
 refine lr (fun u1 hu1=>sn rfl rfl (A1 (lr (fun u2 hu2=>sv rfl (B9 (dl A5 [p1]) rfl rfl (sv rfl (sv rfl (sv rfl (sst rfl G_hit [(dl A5 [p1]),(di p2),(di p3),(di 4000),(di 0),(.d (bo false)),(.d (bo false))] rfl (A1 (B3 ?_)))))))))))
 cases h
 exact A7 (.inr rfl) (B6 (K9 rfl G_hit (nl rfl) rfl) E1) (.refl _)
noncomputable def V6 (p1:List Stay):Option (List Stay):=A8h [] p1
theorem A4i (p1:List Stay)(a0:D)(hl:A8h ([]:List Stay) p1=some p1)(hn: ∀h,W6 (T [(3, .d a0),(2, .d .nilS),(0, .d a0)]) h (.isnil false (.t 3))=some (.d (bo false)))(he: ∀h,A2a h 4 (.d a0)=some (List.map L7 p1)):
    PCall Tryz.prog 121 [a0] (.list (List.map L7 p1)):=by
  refine B8 (fk Tryz.func121 Tryz.ntmps121 m0 (by with_unfolding_all rfl)) (Nat.le_of_ble_eq_true rfl) ?_
  refine (B5 (s0:=⟨T [(0, .d a0)],G []⟩) (G8 ⟨.of rfl,trivial⟩ trivial) ?_)
  refine A6 ?_
  refine D0 fun u1 hu1=> ?_
  refine B9 (.d .nilS) rfl rfl ?_
  refine A1 ?_
  refine A6 ?_
  refine A6 ?_
  refine D0 fun u2 hu2=> ?_
  refine B9 (.d a0) rfl rfl ?_
  refine B9 (.d (bo false)) rfl (hn _) ?_
  refine A1 ?_
  refine B3y rfl ?_
  refine A9 ?_
  refine A6 ?_
  refine D0 fun u3 hu3=> ?_
  refine B4t (.sl _) (.arr 127 4 (List.map L7 ([]:List Stay))) rfl rfl ?_
  refine B9 (.d a0) rfl rfl ?_
  refine B6l L7 _ [] p1 _ (he _) rfl G_hit hl ?_
  refine B9 (.sl _) rfl rfl ?_
  refine A1 ?_
  refine B3 ?_
  exact A7 (.inr rfl) (B6 (B4 rfl) (D0a G_hit)) (.refl _)
theorem A5x (p1:List Stay)(r:List Stay)(h:V6 p1=some r):PCall Tryz.prog 121 [.list (List.map L7 p1)] (.list (List.map L7 r)):=by
  have hr:r=p1:=by obtain ⟨_,rfl⟩:=A6y h;rfl
  subst hr
  cases r with
  |cons x xs=>exact A4i (x::xs) _ h (fun _=>rfl) fun _=>O2 (fun _=>rfl)
  |nil=>
   refine PCall.nil fun A cap=> ?_
   cases A with
   |some A=>exact A4i [] (.v (.slice (some A) 0 cap)) h (fun _=>rfl) fun _=>rfl
   |none=>
    refine B8 (fk Tryz.func121 Tryz.ntmps121 m0 (by with_unfolding_all rfl)) (Nat.le_of_ble_eq_true rfl) ?_
    refine (B5 (s0:=⟨T [(0, .d (.v (.slice none 0 cap)))],G []⟩) (G8 ⟨.of rfl,trivial⟩ trivial) ?_)
    refine A6 ?_
    refine D0 fun u1 hu1=> ?_
    refine B9 (.d .nilS) rfl rfl ?_
    refine A1 ?_
    refine A6 ?_
    refine A6 ?_
    refine D0 fun u2 hu2=> ?_
    refine B9 (.d _) rfl rfl ?_
    refine B9 (.d (bo true)) rfl rfl ?_
    refine A1 ?_
    refine B7j rfl ?_
    refine A6 ?_
    refine D0 fun u3 hu3=> ?_
    refine B9 (.d .nilS) rfl rfl ?_
    refine A1 ?_
    refine B3 ?_
    exact A7 (.inr rfl) (B6 (B4 rfl) E1) .nil
noncomputable def A2k (p1:List Int):Option (List Int):=A8h [] p1
theorem A5y (p1:List Int)(a0:D)(hl:A8h ([]:List Int) p1=some p1)(hn: ∀h,W6 (T [(3, .d a0),(2, .d .nilS),(0, .d a0)]) h (.isnil false (.t 3))=some (.d (bo false)))(he: ∀h,A2a h 1 (.d a0)=some (List.map A5 p1)):
    PCall Tryz.prog 178 [a0] (.list (List.map A5 p1)):=by
  refine B8 (fk Tryz.func178 Tryz.ntmps178 m0 (by with_unfolding_all rfl)) (Nat.le_of_ble_eq_true rfl) ?_
  refine (B5 (s0:=⟨T [(0, .d a0)],G []⟩) (G8 ⟨.of rfl,trivial⟩ trivial) ?_)
  refine A6 ?_
  refine D0 fun u1 hu1=> ?_
  refine B9 (.d .nilS) rfl rfl ?_
  refine A1 ?_
  refine A6 ?_
  refine A6 ?_
  refine D0 fun u2 hu2=> ?_
  refine B9 (.d a0) rfl rfl ?_
  refine B9 (.d (bo false)) rfl (hn _) ?_
  refine A1 ?_
  refine B3y rfl ?_
  refine A9 ?_
  refine A6 ?_
  refine D0 fun u3 hu3=> ?_
  refine B4t (.sl _) (.arr 3 1 (List.map A5 ([]:List Int))) rfl rfl ?_
  refine B9 (.d a0) rfl rfl ?_
  refine B6l A5 _ [] p1 _ (he _) rfl G_hit hl ?_
  refine B9 (.sl _) rfl rfl ?_
  refine A1 ?_
  refine B3 ?_
  exact A7 (.inr rfl) (B6 (B4 rfl) (D0a G_hit)) (.refl _)
theorem B2y (p1:List Int)(r:List Int)(h:A2k p1=some r):PCall Tryz.prog 178 [.list (List.map A5 p1)] (.list (List.map A5 r)):=by
  have hr:r=p1:=by obtain ⟨_,rfl⟩:=A6y h;rfl
  subst hr
  cases r with
  |cons x xs=>exact A5y (x::xs) _ h (fun _=>rfl) fun _=>O2 (fun _=>rfl)
  |nil=>
   refine PCall.nil fun A cap=> ?_
   cases A with
   |some A=>exact A5y [] (.v (.slice (some A) 0 cap)) h (fun _=>rfl) fun _=>rfl
   |none=>
    refine B8 (fk Tryz.func178 Tryz.ntmps178 m0 (by with_unfolding_all rfl)) (Nat.le_of_ble_eq_true rfl) ?_
    refine (B5 (s0:=⟨T [(0, .d (.v (.slice none 0 cap)))],G []⟩) (G8 ⟨.of rfl,trivial⟩ trivial) ?_)
    refine A6 ?_
    refine D0 fun u1 hu1=> ?_
    refine B9 (.d .nilS) rfl rfl ?_
    refine A1 ?_
    refine A6 ?_
    refine A6 ?_
    refine D0 fun u2 hu2=> ?_
    refine B9 (.d _) rfl rfl ?_
    refine B9 (.d (bo true)) rfl rfl ?_
    refine A1 ?_
    refine B7j rfl ?_
    refine A6 ?_
    refine D0 fun u3 hu3=> ?_
    refine B9 (.d .nilS) rfl rfl ?_
    refine A1 ?_
    refine B3 ?_
    exact A7 (.inr rfl) (B6 (B4 rfl) E1) .nil
noncomputable def A2b (p1:Agent):Option Agent:=
  (A2k p1.Route).bind fun v1=>some (Agent.mk v1 p1.S p1.V p1.Len p1.Begin p1.Obey p1.Gone)
theorem A7x (p1:Agent)(r:Agent)(h:A2b p1=some r):PCall Tryz.prog 87 [(.agg (D2 p1))] (.agg (D2 r)):=by
 refine B8 (fk Tryz.func87 Tryz.ntmps87 m0 (by with_unfolding_all rfl)) (nl rfl) ?_
 unfold A2b at h
 refine B5 (s0:=⟨T [(0,(.d _))],G []⟩) (sbr rfl rfl) ?_
 refine lr (fun u1 hu1=>sn rfl rfl (sn rfl rfl (A1 (lr (fun u2 hu2=>sp rfl rfl (sl rfl (gq rfl) rfl (bs h fun v1 hv1 h=>B1 rfl rfl A2 (B2y _ _ hv1) (.inl rfl) (sp rfl rfl (sst rfl (gq rfl) ((A0h p1).set 0 (dl A5 v1)) rfl (A1 (lr (fun u3 hu3=>sd rfl (B2 rfl G_hit rfl rfl) (sst rfl (gq rfl) ((A0h p1).set 0 (dl A5 v1)) rfl (A1 (B3 ?_)))))))))))))))
 cases h
 exact A7 (.inr rfl) (B6 (K9 rfl G_hit (nl rfl) rfl) E1) (.refl _)
noncomputable def A72 (p1:State)(x1:(Int×State)):Option (Stp (Int×State) State):=
  cond (decide (x1.1< (p1.Agents.length:Int))) ((D6 p1.Agents x1.1).bind fun v2=>(A2b v2).bind fun v3=>(A8h x1.2.Agents [v3]).bind fun v4=>some (.go ((w64 (x1.1+1)),(State.mk x1.2.Tick v4 x1.2.In)))) (some (.out x1.2))
noncomputable def A9s (p1:State):Option State:=
  (V6 p1.In).bind fun v1=>(loop (A72 p1) (0,(State.mk p1.Tick [] v1))).bind fun y1=>some y1
theorem B6q (p1:State)(r:State)(h:A9s p1=some r):PCall Tryz.prog 56 [(.agg (A2s p1))] (.agg (A2s r)):=by
 refine B8 (fk Tryz.func56 Tryz.ntmps56 (fun r=>if r==5 then [1004]else []) (by with_unfolding_all rfl)) (nl rfl) ?_
 unfold A9s at h
 refine B5 (s0:=⟨T [(0,(.d _))],G []⟩) (sbr rfl rfl) ?_
 refine lr (fun u1 hu1=>sn rfl rfl (sn rfl rfl (A1 (A6 (I6 rfl fun u2 hu2=>sp rfl rfl (sl rfl (gq rfl) rfl (sp rfl rfl (sl rfl (gq rfl) rfl (bs h fun v1 hv1 h=>B1 rfl rfl A2 (A5x _ _ hv1) (.inl rfl) (sv rfl (sn rfl rfl (sst rfl G_hit [(di p1.Tick),(.d .nilS),(dl L7 v1)] rfl (A1 (A6 (lr (fun u3 hu3=>sp rfl rfl (sl rfl (gq rfl) rfl (sd rfl (E5 rfl) (sv rfl (A1 (bs h fun y1 hy1 h=>E0 (fun s=> ∃g1:Nat,Sb ⟨T [(2,(.ptr (2,u1) 0)),(3,(.ptr (3,u2) 0))],G [((2,u1),some (.box 25 [(di 0),(.d .nilS),(.d .nilS)])),((3,u2),some (.box 25 [(di y1.Tick),(oS y1.Agents (24,g1)),(dl L7 y1.In)])),((24,g1),oB 45 7 D2 y1.Agents)]⟩ s) ?_ ?_)))))))))))))))))))))
 refine A8 (E7 (A72 p1) (fun (x1:(Int×State)) (g2:Nat)=>⟨T [(2,(.ptr (2,u1) 0)),(3,(.ptr (3,u2) 0)),(13,(dl D2 p1.Agents)),(14,(di (p1.Agents.length:Int))),(15,(di x1.1))],G [((2,u1),some (.box 25 [(di 0),(.d .nilS),(.d .nilS)])),((3,u2),some (.box 25 [(di x1.2.Tick),(oS x1.2.Agents (24,g2)),(dl L7 x1.2.In)])),((24,g2),oB 45 7 D2 x1.2.Agents)]⟩) (0,(State.mk p1.Tick [] v1)) 0 _ hy1 (G8 ⟨.of rfl, .of rfl, .of rfl, .of rfl, .of rfl,trivial⟩ (sg rfl (B0 G_hit (.of rfl) (Y3 trivial)))) ?_)
 intro x1 g2 z1 hz1 ez1
 unfold A72 at hz1
 refine lr (fun u4 hu4=>sv rfl (A1 (A6 (cc rfl hz1 (fun c1 hz1=> ?_) (fun c1 hz1=> ?_)))))
 refine A9 (A6 (A8 (lr (fun u5 hu5=>bs hz1 fun v2 hv2 hz1=>sd rfl (E4 rfl rfl hv2 rfl) (sd rfl (C4 rfl hv2 rfl rfl) (sn rfl rfl (sst rfl G_hit (A0h v2) rfl (A1 (I6 rfl fun u6 hu6=>sp rfl rfl (B9 (oS x1.2.Agents (24,g2)) rfl (X1 rfl (gq rfl) rfl) (sd rfl (B2 rfl G_hit rfl rfl) (bs hz1 fun v3 hv3 hz1=>B1 rfl rfl A2 (A7x _ _ hv3) (.inl rfl) (B9 (dl D2 [v3]) rfl rfl (bs hz1 fun v4 hv4 hz1=>X0 D2 (24,g2) x1.2.Agents v3 [] _ (O2 (fun _=>rfl)) rfl (gq rfl) hv4 (sp rfl rfl (sst rfl (gq rfl) [(di x1.2.Tick),(.sl (24,u6)),(dl L7 x1.2.In)] rfl (A1 (F9 (D0 fun u7 hu7=>sv rfl (sv rfl (A1 (G3 ?_))))))))))))))))))))))
 cases hz1
 exact ⟨rfl,u6,(G8 ⟨.of rfl, .of rfl, .of rfl, .of rfl, .of rfl,trivial⟩ (sg rfl (B0 G_hit (.box (cv (.cons (.of (A2r (A18 hv4)).symm) cw))) (T1 (gq rfl) trivial))))⟩
 refine C3 rfl ?_
 cases hz1
 obtain rfl:=ez1 _ rfl
 refine ⟨nofun,C0 rfl (l_j ?_)⟩
 exact ⟨g2,(G8 ⟨.of rfl, .of rfl,trivial⟩ (B0 G_hit (.of rfl) (sg rfl (B7 (gq rfl) trivial))))⟩
 rintro _ ⟨g1,q1⟩
 refine B5 q1 (lr (fun u8 hu8=>B9 (A39 [(di y1.Tick),(oS y1.Agents (24,g1)),(dl L7 y1.In)]) rfl (B2 rfl (gq rfl) rfl rfl) (A8z _ _ _ _ _ (Z1 _) rfl rfl G_hit (nl rfl) [(di y1.Tick),(oS y1.Agents (24,g1)),(dl L7 y1.In)] rfl (A1 (B3 ?_)))))
 cases h
 exact A7 (.inr rfl) (B6 (K9 rfl G_hit (nl rfl) rfl) (B18 (rD (C9 (A1x (gq rfl)) (rD E2))))) (.agg (ca rfl (.cons ⟨A1w,rfl⟩ (cz rfl))))
noncomputable def A05 (p1:Int)(p2:Int)(p3:Int):Option Bool:=
  some ((decide (p2≤p1))&& (decide (p1≤p3)))
theorem A2u (p1:Int)(p2:Int)(p3:Int)(r:Bool)(h:A05 p1 p2 p3=some r):PCall Tryz.prog 209 [(i64 p1),(i64 p2),(i64 p3)] (bo r):=by
 refine B8 (fk Tryz.func209 Tryz.ntmps209 m0 (by with_unfolding_all rfl)) (nl rfl) ?_
 unfold A05 at h
 refine B5 (s0:=⟨T [(0,(.d _)),(1,(.d _)),(2,(.d _))],G []⟩) (sbr rfl rfl) ?_
 refine lr (fun u1 hu1=>sv rfl (A1 (lr (fun u2 hu2=>sv rfl (sv rfl (sv rfl (sv rfl (gt rfl (fun _=>rfl) (gt rfl (fun _=>rfl) (gt rfl (fun w3=>(V8 (A3 w3) (A3 w3) rfl)) (sa rfl rfl rfl (sv rfl (A1 (B3 ?_))))))))))))))
 cases h
 exact A7 (.inr rfl) (B6 (B4 rfl) E1) (.refl _)
noncomputable def U0 (p1:RoadsCheck):Option Int:=
  (A05 p1.Map_.Version 0 1099511627776).bind fun v1=>cond (!v1) (some 2) (cond ((p1.Map_.Lanes.length:Int)==0) (some 6) (cond ((((decide ((p1.Map_.Lanes.length:Int)>12))||(decide ((p1.Map_.Zones.length:Int)>12)))||(decide ((p1.Map_.Signals.length:Int)>4)))||(decide ((p1.Map_.Works.length:Int)>8))) (some 8) (some 0)))
theorem B3r (p1:RoadsCheck)(r:Int)(h:U0 p1=some r):PCall Tryz.prog 148 [(.agg (A4h p1.Map_))] (i64 r):=by
 refine B8 (fk Tryz.func148 Tryz.ntmps148 m0 (by with_unfolding_all rfl)) (nl rfl) ?_
 unfold U0 at h
 refine B5 (s0:=⟨T [(0,(.d _))],G []⟩) (sbr rfl rfl) ?_
 refine lr (fun u1 hu1=>sn rfl rfl (sv rfl (A1 (A6 (A8 (lr (fun u2 hu2=>sp rfl rfl (sp rfl rfl (sl rfl G_hit rfl (bs h fun v1 hv1 h=>B1 rfl rfl A2 (A2u _ _ _ _ hv1) (.inl rfl) (B9 (.d (bo (!v1))) rfl rfl (sv rfl (A1 (cc rfl h (fun c1 h=> ?_) (fun c1 h=> ?_)))))))))))))))
 refine lr (fun u3 hu3=>sv rfl (A1 (B3 ?_)))
 cases h
 exact A7 (.inr rfl) (B6 (B4 rfl) E1) (.refl _)
 refine lr (fun u4 hu4=>sp rfl rfl (sp rfl rfl (sl rfl G_hit rfl (sd rfl (E5 rfl) (sv rfl (sv rfl (A1 (cc rfl h (fun c2 h=> ?_) (fun c2 h=> ?_)))))))))
 refine lr (fun u5 hu5=>sv rfl (A1 (B3 ?_)))
 cases h
 exact A7 (.inr rfl) (B6 (B4 rfl) E1) (.refl _)
 refine lr (fun u6 hu6=>sp rfl rfl (sp rfl rfl (sl rfl G_hit rfl (sd rfl (E5 rfl) (sv rfl (sv rfl (gp rfl (T8 rfl) (fun _=>rfl) ?_)))))))
 refine Z7 _ (.ptr _ _) rfl (T8 rfl) (fun w2=>(by simp only [A3 w2];rfl)) ?_
 refine gf rfl (vl rfl G_hit rfl) (gf rfl (fun w4=>(E5 (A3 w4))) (gf rfl (vb rfl rfl rfl) (sd rfl (A0u rfl rfl (fun hc=>A3 (L6 hc))) (sv rfl (gp rfl (T8 rfl) (fun _=>rfl) ?_)))))
 refine Z7 _ (.ptr _ _) rfl (T8 rfl) (fun w7=>(by simp only [A3 w7];rfl)) ?_
 refine gf rfl (vl rfl G_hit rfl) (gf rfl (fun w9=>(E5 (A3 w9))) (gf rfl (vb rfl rfl rfl) (sd rfl (A0u rfl rfl (fun hc=>A3 (L6 hc))) (sv rfl (gp rfl (T8 rfl) (fun _=>rfl) ?_)))))
 refine Z7 _ (.ptr _ _) rfl (T8 rfl) (fun w12=>(by simp only [A3 w12];rfl)) ?_
 refine gf rfl (vl rfl G_hit rfl) (gf rfl (fun w14=>(E5 (A3 w14))) (gf rfl (vb rfl rfl rfl) (sd rfl (A0u rfl rfl (fun hc=>A3 (L6 hc))) (sv rfl (A1 (cc rfl h (fun c3 h=> ?_) (fun c3 h=> ?_)))))))
 refine lr (fun u7 hu7=>sv rfl (A1 (B3 ?_)))
 cases h
 exact A7 (.inr rfl) (B6 (B4 rfl) E1) (.refl _)
 refine A9 (F9 (lr (fun u8 hu8=>sv rfl (A1 (B3 ?_)))))
 cases h
 exact A7 (.inr rfl) (B6 (B4 rfl) E1) (.refl _)
noncomputable def A0y (p1:Int):Option (Int×Int×Int):=
  cond ((decide (p1<0))||(decide (p1≥4))) (some (0,0,0)) ((D6 ([(0,0,0),(2000,30,90),(1000,20,60),(300,100,300)]:List (Int×Int×Int)) p1).bind fun v1=>some (v1.1,v1.2.1,v1.2.2))
theorem A73 (p1:Int)(r:(Int×Int×Int))(h:A0y p1=some r):PCall Tryz.prog 157 [(i64 p1)] (.tup [(i64 r.1),(i64 r.2.1),(i64 r.2.2)]):=by
 refine B8 (fk Tryz.func157 Tryz.ntmps157 m0 (by with_unfolding_all rfl)) (nl rfl) ?_
 unfold A0y at h
 refine B5 (s0:=⟨T [(0,(.d _))],G []⟩) (sbr rfl rfl) ?_
 refine lr (fun u1 hu1=>sv rfl (sv rfl (sv rfl (A1 (lr (fun u2 hu2=>sv rfl (sv rfl (sv rfl (sv rfl (sn rfl rfl (sst rfl G_hit [(di 0),(di 0),(di 0),(di 2000),(di 30),(di 90),(di 1000),(di 20),(di 60),(di 300),(di 100),(di 300)] rfl (A1 (A6 (lr (fun u3 hu3=>sv rfl (sv rfl (sv rfl (gf rfl (fun _=>rfl) (gf rfl (vb rfl rfl rfl) (sd rfl (A0u rfl rfl (fun hc=>A3 (L6 hc))) (A1 (cc rfl h (fun c1 h=> ?_) (fun c1 h=> ?_)))))))))))))))))))))))
 refine lr (fun u4 hu4=>sv rfl (sv rfl (sv rfl (A1 (B3 ?_)))))
 cases h
 exact A7 (.inr rfl) (C2p (B4 rfl) (B4 rfl) (B4 rfl) E1 E1 E1) (.refl _)
 refine A9 (lr (fun u5 hu5=>sv rfl (bs h fun v1 hv1 h=>sp rfl (D6e rfl rfl hv1 rfl) (sd rfl (D3j (f:=D8y) rfl G_hit hv1 (fun _=>rfl) rfl rfl) (sn rfl rfl (sst rfl G_hit [(di v1.1),(di v1.2.1),(di v1.2.2)] rfl (A1 (A6 (I6 rfl fun u6 hu6=>sp rfl rfl (sl rfl G_hit rfl (sp rfl rfl (sl rfl G_hit rfl (sp rfl rfl (sl rfl G_hit rfl (sv rfl (sv rfl (sv rfl (A1 (B3 ?_)))))))))))))))))))
 cases h
 exact A7 (.inr rfl) (C2p (B4 rfl) (B4 rfl) (B4 rfl) E1 E1 E1) (.refl _)
noncomputable def A0v (p1:(List Spot))(x1:Int):Option (Stp Int (Sum Unit Bool)):=
  cond (decide (x1< (p1.length:Int))) ((D6 p1 x1).bind fun v1=>cond ((decide ((mm2 false v1.X v1.Y)< (-16777216)))||(decide ((mm2 true v1.X v1.Y)>16777216))) (some (.out (.inr false))) (some (.go (w64 (x1+1))))) (some (.out (.inl ())))
noncomputable def A7y (p1:(List Spot)):Option Bool:=
  thenS (loop (A0v p1) 0) (fun _=>some true) (fun r=>some r)
theorem C32 (p1:(List Spot))(r:Bool)(h:A7y p1=some r):PCall Tryz.prog 237 [(.list (List.map A5a p1))] (bo r):=by
 refine B8 (fk Tryz.func237 Tryz.ntmps237 m0 (by with_unfolding_all rfl)) (nl rfl) ?_
 unfold A7y at h
 refine B5 (s0:=⟨T [(0,(.d _))],G []⟩) (sbr rfl rfl) ?_
 refine lr (fun u1 hu1=>sv rfl (A1 (A6 (lr (fun u2 hu2=>sv rfl (sd rfl (E5 rfl) (sv rfl (A1 (js h fun z1 hz1 h=>E0 (fun s=> ∃(y1:Unit) (g1:Unit),z1= .inl y1∧Sb ⟨T [],G []⟩ s) ?_ ?_)))))))))
 refine A8 (E7 (A0v p1) (fun (x1:Int) (g2:Unit)=>⟨T [(5,(dl A5a p1)),(6,(di (p1.length:Int))),(7,(di x1))],G []⟩) 0 () _ hz1 (sbr rfl rfl) ?_)
 intro x1 g2 z2 hz2 ez2
 unfold A0v at hz2
 refine lr (fun u3 hu3=>sv rfl (A1 (A6 (cc rfl hz2 (fun c1 hz2=> ?_) (fun c1 hz2=> ?_)))))
 refine A9 (A6 (A8 (lr (fun u4 hu4=>bs hz2 fun v1 hv1 hz2=>sd rfl (E4 rfl rfl hv1 rfl) (sd rfl (C4 rfl hv1 rfl rfl) (sn rfl rfl (sst rfl G_hit [(di v1.X),(di v1.Y)] rfl (A1 (lr (fun u5 hu5=>sp rfl rfl (sl rfl G_hit rfl (sp rfl rfl (sl rfl G_hit rfl (sv rfl (sv rfl (sv rfl (gp rfl (T8 rfl) (fun _=>rfl) (gf rfl (vl rfl G_hit rfl) (gp rfl (T8 rfl) (fun _=>rfl) (gf rfl (vl rfl G_hit rfl) ?_))))))))))))))))))))
 refine gf rfl (fun w5=>(by simp only [A3 w5];rfl)) ?_
 refine gf rfl (vb rfl rfl rfl) (sd rfl (A0u rfl rfl (fun hc=>A3 (L6 hc))) (A1 (cc rfl hz2 (fun c2 hz2=> ?_) (fun c2 hz2=> ?_))))
 refine lr (fun u6 hu6=>sv rfl (A1 (B3 ?_)))
 cases hz2
 obtain rfl:=ez2 _ rfl
 refine ⟨nofun,D7 ?_⟩
 rw [Sum.elim_inr]at h
 cases h
 exact A7 (.inr rfl) (B6 (B4 rfl) E1) (.refl _)
 refine A9 (F9 (D0 fun u7 hu7=>sv rfl (sv rfl (A1 (G3 ?_)))))
 cases hz2
 exact ⟨rfl,(),(sbr rfl rfl)⟩
 refine C3 rfl ?_
 cases hz2
 obtain rfl:=ez2 _ rfl
 refine ⟨nofun,C0 rfl (l_j ?_)⟩
 exact ⟨_,(),rfl,(sbr rfl rfl)⟩
 rintro _ ⟨y1,g1,rfl,q1⟩
 rw [Sum.elim_inl]at h
 refine B5 q1 (lr (fun u8 hu8=>sv rfl (A1 (B3 ?_))))
 cases h
 exact A7 (.inr rfl) (B6 (B4 rfl) E1) (.refl _)
noncomputable def A6o (p1:Spot)(p2:Spot):Option CurveVector:=
  some (CurveVector.mk (w64 (p2.X - p1.X)) (w64 (p2.Y - p1.Y)))
theorem B6r (p1:Spot)(p2:Spot)(r:CurveVector)(h:A6o p1 p2=some r):PCall Tryz.prog 238 [(.agg [(i64 p1.X),(i64 p1.Y)]),(.agg [(i64 p2.X),(i64 p2.Y)])] (.agg [(i64 r.x),(i64 r.y)]):=by
 refine B8 (fk Tryz.func238 Tryz.ntmps238 m0 (by with_unfolding_all rfl)) (nl rfl) ?_
 unfold A6o at h
 refine B5 (s0:=⟨T [(0,(.d _)),(1,(.d _))],G []⟩) (sbr rfl rfl) ?_
 refine lr (fun u1 hu1=>sn rfl rfl (sn rfl rfl (sn rfl rfl (A1 (lr (fun u2 hu2=>sp rfl rfl (sl rfl (gq rfl) rfl (sp rfl rfl (sl rfl (gq rfl) rfl (sv rfl (sp rfl rfl (sl rfl (gq rfl) rfl (sp rfl rfl (sl rfl (gq rfl) rfl (sv rfl (sv rfl (sst rfl G_hit [(di (w64 (p2.X - p1.X))),(di (w64 (p2.Y - p1.Y)))] rfl (A1 (B3 ?_)))))))))))))))))))
 cases h
 exact A7 (.inr rfl) (B6 (K9 rfl G_hit (nl rfl) rfl) E1) (.refl _)
noncomputable def W7 (p1:CurveVector)(p2:CurveVector):Option Int:=
  some (w64 ((w64 (p1.x*p2.x))+ (w64 (p1.y*p2.y))))
theorem A6c (p1:CurveVector)(p2:CurveVector)(r:Int)(h:W7 p1 p2=some r):PCall Tryz.prog 240 [(.agg [(i64 p1.x),(i64 p1.y)]),(.agg [(i64 p2.x),(i64 p2.y)])] (i64 r):=by
 refine B8 (fk Tryz.func240 Tryz.ntmps240 m0 (by with_unfolding_all rfl)) (nl rfl) ?_
 unfold W7 at h
 refine B5 (s0:=⟨T [(0,(.d _)),(1,(.d _))],G []⟩) (sbr rfl rfl) ?_
 refine lr (fun u1 hu1=>sn rfl rfl (sn rfl rfl (sv rfl (A1 (lr (fun u2 hu2=>sp rfl rfl (sl rfl (gq rfl) rfl (sp rfl rfl (sl rfl G_hit rfl (sv rfl (sp rfl rfl (sl rfl (gq rfl) rfl (sp rfl rfl (sl rfl G_hit rfl (sv rfl (sv rfl (sv rfl (A1 (B3 ?_)))))))))))))))))))
 cases h
 exact A7 (.inr rfl) (B6 (B4 rfl) E1) (.refl _)
noncomputable def A3b (p1:Int)(x1:(Int×Int)):Option (Stp (Int×Int) Int):=
  cond (decide (x1.1<x1.2)) (cond (decide ((w64 ((w64 ((w64 (x1.1+x1.2)).tdiv 2))* (w64 ((w64 (x1.1+x1.2)).tdiv 2))))<p1)) (some (.go ((w64 ((w64 ((w64 (x1.1+x1.2)).tdiv 2))+1)),x1.2))) (some (.go (x1.1,(w64 ((w64 (x1.1+x1.2)).tdiv 2)))))) (some (.out x1.1))
noncomputable def A5b (p1:Int):Option (Int×Bool):=
  (loop (A3b p1) (0,67108864)).bind fun y1=>some (y1,((w64 (y1*y1))==p1))
theorem B6s (p1:Int)(r:(Int×Bool))(h:A5b p1=some r):PCall Tryz.prog 239 [(i64 p1)] (.tup [(i64 r.1),(bo r.2)]):=by
 refine B8 (fk Tryz.func239 Tryz.ntmps239 m0 (by with_unfolding_all rfl)) (nl rfl) ?_
 unfold A5b at h
 refine B5 (s0:=⟨T [(0,(.d _))],G []⟩) (sbr rfl rfl) ?_
 refine lr (fun u1 hu1=>sv rfl (sv rfl (A1 (lr (fun u2 hu2=>sv rfl (sv rfl (A1 (A6 (bs h fun y1 hy1 h=>E0 (fun s=> ∃g1:Unit,Sb ⟨T [(0,(di p1)),(4,(di y1))],G []⟩ s) ?_ ?_)))))))))
 refine A8 (E7 (A3b p1) (fun (x1:(Int×Int)) (g2:Unit)=>⟨T [(0,(di p1)),(4,(di x1.1)),(5,(di x1.2))],G []⟩) (0,67108864) () _ hy1 (sbr rfl rfl) ?_)
 intro x1 g2 z1 hz1 ez1
 unfold A3b at hz1
 refine A6 (lr (fun u3 hu3=>sv rfl (sv rfl (sv rfl (A1 (cc rfl hz1 (fun c1 hz1=> ?_) (fun c1 hz1=> ?_)))))))
 refine A9 (A8 (lr (fun u4 hu4=>sv rfl (sv rfl (sv rfl (sv rfl (sv rfl (A1 (lr (fun u5 hu5=>sv rfl (sv rfl (sv rfl (sv rfl (sv rfl (A1 (cc rfl hz1 (fun c2 hz1=> ?_) (fun c2 hz1=> ?_)))))))))))))))))
 refine D0 fun u6 hu6=>sv rfl (sv rfl (sv rfl (A1 (F9 (G3 ?_)))))
 cases hz1
 exact ⟨rfl,(),(sbr rfl rfl)⟩
 refine D0 fun u7 hu7=>sv rfl (sv rfl (A1 (F9 (G3 ?_))))
 cases hz1
 exact ⟨rfl,(),(sbr rfl rfl)⟩
 refine C3 rfl ?_
 cases hz1
 obtain rfl:=ez1 _ rfl
 refine ⟨nofun,C0 rfl (l_j ?_)⟩
 exact ⟨(),(sbr rfl rfl)⟩
 rintro _ ⟨g1,q1⟩
 refine B5 q1 (lr (fun u8 hu8=>sv rfl (sv rfl (sv rfl (sv rfl (sv rfl (sv rfl (sv rfl (sv rfl (A1 (B3 ?_)))))))))))
 cases h
 exact A7 (.inr rfl) (B6j (B4 rfl) (B4 rfl) E1 E1) (.refl _)
noncomputable def A02 (p1:Curve)(x1:(Int×CurveVector)):Option (Stp (Int×CurveVector) (Sum Unit Int)):=
  cond (decide (x1.1< (w64 ((p1.Pts.length:Int) - 1)))) ((D6 p1.Pts x1.1).bind fun v2=>(D6 p1.Pts (w64 (x1.1+1))).bind fun v3=>(A6o v2 v3).bind fun v4=>(W7 v4 v4).bind fun v5=>(A5b v5).bind fun v6=>cond (!v6.2) (some (.out (.inr 3))) (cond ((decide (v6.1<1000))||(decide (v6.1>1048576))) (some (.out (.inr 2))) (((cond (decide (x1.1>0)) (W7 x1.2 v4) (some default))).bind fun v7=>cond ((decide (x1.1>0))&& (decide (v7≤0))) (some (.out (.inr 12))) (some (.go ((w64 (x1.1+1)),v4)))))) (some (.out (.inl ())))
noncomputable def A4j (p1:Curve):Option Int:=
  cond (decide ((p1.Pts.length:Int)<2)) (some 6) (cond (decide ((p1.Pts.length:Int)>16)) (some 5) ((A7y p1.Pts).bind fun v1=>cond (!v1) (some 2) (thenS (loop (A02 p1) (0,(CurveVector.mk 0 0))) (fun _=>some 0) (fun r=>some r))))
theorem B58 (p1:Curve)(r:Int)(h:A4j p1=some r):PCall Tryz.prog 198 [(.agg [(.list (List.map A5a p1.Pts))])] (i64 r):=by
 refine B8 (fk Tryz.func198 Tryz.ntmps198 m0 (by with_unfolding_all rfl)) (nl rfl) ?_
 unfold A4j at h
 refine B5 (s0:=⟨T [(0,(.d _))],G []⟩) (sbr rfl rfl) ?_
 refine lr (fun u1 hu1=>sn rfl rfl (sv rfl (A1 (A6 (A8 (lr (fun u2 hu2=>sp rfl rfl (sl rfl G_hit rfl (sd rfl (E5 rfl) (sv rfl (sv rfl (A1 (cc rfl h (fun c1 h=> ?_) (fun c1 h=> ?_))))))))))))))
 refine lr (fun u3 hu3=>sv rfl (A1 (B3 ?_)))
 cases h
 exact A7 (.inr rfl) (B6 (B4 rfl) E1) (.refl _)
 refine lr (fun u4 hu4=>sp rfl rfl (sl rfl G_hit rfl (sd rfl (E5 rfl) (sv rfl (sv rfl (A1 (cc rfl h (fun c2 h=> ?_) (fun c2 h=> ?_))))))))
 refine lr (fun u5 hu5=>sv rfl (A1 (B3 ?_)))
 cases h
 exact A7 (.inr rfl) (B6 (B4 rfl) E1) (.refl _)
 refine lr (fun u6 hu6=>sp rfl rfl (sl rfl G_hit rfl (bs h fun v1 hv1 h=>B1 rfl rfl A2 (C32 _ _ hv1) (.inl rfl) (B9 (.d (bo (!v1))) rfl rfl (sv rfl (A1 (cc rfl h (fun c3 h=> ?_) (fun c3 h=> ?_))))))))
 refine lr (fun u7 hu7=>sv rfl (A1 (B3 ?_)))
 cases h
 exact A7 (.inr rfl) (B6 (B4 rfl) E1) (.refl _)
 refine A9 (F9 (lr (fun u8 hu8=>sn rfl rfl (A1 (A6 (lr (fun u9 hu9=>sp rfl rfl (sl rfl (gq rfl) rfl (sd rfl (E5 rfl) (sv rfl (sv rfl (A1 (js h fun z1 hz1 h=>E0 (fun s=> ∃(y1:Unit) (g1:Unit),z1= .inl y1∧Sb ⟨T [],G []⟩ s) ?_ ?_)))))))))))))
 refine A8 (E7 (A02 p1) (fun (x1:(Int×CurveVector)) (g2:Unit)=>⟨T [(1,(.ptr (1,u1) 0)),(3,(.ptr (3,u8) 0)),(26,(di (w64 ((p1.Pts.length:Int) - 1)))),(27,(di x1.1))],G [((1,u1),some (.box 61 [(dl A5a p1.Pts)])),((3,u8),some (.box 253 [(di x1.2.x),(di x1.2.y)]))]⟩) (0,(CurveVector.mk 0 0)) () _ hz1 (sbr rfl rfl) ?_)
 intro x1 g2 z2 hz2 ez2
 unfold A02 at hz2
 refine lr (fun u10 hu10=>sv rfl (A1 (A6 (cc rfl hz2 (fun c4 hz2=> ?_) (fun c4 hz2=> ?_)))))
 refine A9 (A6 (A8 (lr (fun u11 hu11=>sv rfl (sv rfl (A1 (A6 (I6 rfl fun u12 hu12=>sp rfl rfl (sl rfl G_hit rfl (sv rfl (bs hz2 fun v2 hv2 hz2=>sd rfl (E4 rfl rfl hv2 rfl) (sd rfl (C4 rfl hv2 rfl rfl) (sp rfl rfl (sl rfl G_hit rfl (sv rfl (sv rfl (bs hz2 fun v3 hv3 hz2=>sd rfl (E4 rfl rfl hv3 rfl) (sd rfl (C4 rfl hv3 rfl rfl) (bs hz2 fun v4 hv4 hz2=>B1 rfl rfl A2 (B6r _ _ _ hv4) (.inl rfl) (sn rfl rfl (sst rfl G_hit [(di v4.x),(di v4.y)] rfl (A1 (lr (fun u13 hu13=>sd rfl (B2 rfl G_hit rfl rfl) (sd rfl (B2 rfl G_hit rfl rfl) (bs hz2 fun v5 hv5 hz2=>B1 rfl rfl A2 (A6c _ _ _ hv5) (.inl rfl) (bs hz2 fun v6 hv6 hz2=>B1 rfl rfl A2 (B6s _ _ hv6) (.inl rfl) (sv rfl (sv rfl (sv rfl (sv rfl (sv rfl (A1 (A6 (A8 (lr (fun u14 hu14=>sv rfl (B9 (.d (bo (!v6.2))) rfl rfl (sv rfl (A1 (cc rfl hz2 (fun c5 hz2=> ?_) (fun c5 hz2=> ?_))))))))))))))))))))))))))))))))))))))))))
 refine lr (fun u15 hu15=>sv rfl (A1 (B3 ?_)))
 cases hz2
 obtain rfl:=ez2 _ rfl
 refine ⟨nofun,D7 ?_⟩
 rw [Sum.elim_inr]at h
 cases h
 exact A7 (.inr rfl) (B6 (B4 rfl) E1) (.refl _)
 refine lr (fun u16 hu16=>sv rfl (sv rfl (sv rfl (gf rfl (fun _=>rfl) (gf rfl (vb rfl rfl rfl) (sd rfl (A0u rfl rfl (fun hc=>A3 (L6 hc))) (sv rfl (A1 (cc rfl hz2 (fun c6 hz2=> ?_) (fun c6 hz2=> ?_))))))))))
 refine lr (fun u17 hu17=>sv rfl (A1 (B3 ?_)))
 cases hz2
 obtain rfl:=ez2 _ rfl
 refine ⟨nofun,D7 ?_⟩
 rw [Sum.elim_inr]at h
 cases h
 exact A7 (.inr rfl) (B6 (B4 rfl) E1) (.refl _)
 refine lr (fun u18 hu18=>sv rfl (sv rfl (sv rfl (gt rfl (fun w3=>(B2 rfl (gq rfl) rfl rfl)) (gt rfl (fun w4=>(B2 rfl G_hit rfl rfl)) (bs hz2 fun v7 hv7 hz2=> ?_))))))
 refine U8 _ (i64 v7) (A19 rfl) (fun w5=>⟨_,[(.d (.agg [(i64 x1.2.x),(i64 x1.2.y)])),(.d (.agg [(i64 v4.x),(i64 v4.y)]))],_,_,(by simp only [A3 w5];rfl),rfl,A2,A6c _ _ _ (C7 w5 hv7),(.inl rfl)⟩) ?_
 refine gt rfl (vb rfl rfl rfl) (sa rfl rfl rfl (sv rfl (A1 (cc rfl hz2 (fun c7 hz2=> ?_) (fun c7 hz2=> ?_)))))
 refine lr (fun u19 hu19=>sv rfl (A1 (B3 ?_)))
 cases hz2
 obtain rfl:=ez2 _ rfl
 refine ⟨nofun,D7 ?_⟩
 rw [Sum.elim_inr]at h
 cases h
 exact A7 (.inr rfl) (B6 (B4 rfl) E1) (.refl _)
 refine A9 (F9 (D0 fun u20 hu20=>sd rfl (B2 rfl G_hit rfl rfl) (sst rfl (gq rfl) [(di v4.x),(di v4.y)] rfl (A1 (F9 (D0 fun u21 hu21=>sv rfl (sv rfl (A1 (G3 ?_)))))))))
 cases hz2
 exact ⟨rfl,(),(sbr rfl rfl)⟩
 refine C3 rfl ?_
 cases hz2
 obtain rfl:=ez2 _ rfl
 refine ⟨nofun,C0 rfl (l_j ?_)⟩
 exact ⟨_,(),rfl,(sbr rfl rfl)⟩
 rintro _ ⟨y1,g1,rfl,q1⟩
 rw [Sum.elim_inl]at h
 refine B5 q1 (lr (fun u22 hu22=>sv rfl (A1 (B3 ?_))))
 cases h
 exact A7 (.inr rfl) (B6 (B4 rfl) E1) (.refl _)
noncomputable def Y5 (p1:(List Int))(p3:Int)(x1:(Int×Int)):Option (Stp (Int×Int) (Sum Unit Bool)):=
  cond (decide (x1.2< (p1.length:Int))) ((D6 p1 x1.2).bind fun v1=>cond ((decide (v1<x1.1))||(decide (v1≥p3))) (some (.out (.inr false))) (some (.go ((w64 (v1+1)),(w64 (x1.2+1)))))) (some (.out (.inl ())))
noncomputable def A21 (p1:(List Int))(p2:Int)(p3:Int):Option Bool:=
  thenS (loop (Y5 p1 p3) (p2,0)) (fun _=>some true) (fun r=>some r)
theorem B05 (p1:(List Int))(p2:Int)(p3:Int)(r:Bool)(h:A21 p1 p2 p3=some r):PCall Tryz.prog 210 [(.list (List.map A5 p1)),(i64 p2),(i64 p3)] (bo r):=by
 refine B8 (fk Tryz.func210 Tryz.ntmps210 m0 (by with_unfolding_all rfl)) (nl rfl) ?_
 unfold A21 at h
 refine B5 (s0:=⟨T [(0,(.d _)),(1,(.d _)),(2,(.d _))],G []⟩) (sbr rfl rfl) ?_
 refine lr (fun u1 hu1=>sv rfl (A1 (A6 (lr (fun u2 hu2=>sv rfl (sd rfl (E5 rfl) (sv rfl (A1 (js h fun z1 hz1 h=>E0 (fun s=> ∃(y1:Unit) (g1:Unit),z1= .inl y1∧Sb ⟨T [],G []⟩ s) ?_ ?_)))))))))
 refine A8 (E7 (Y5 p1 p3) (fun (x1:(Int×Int)) (g2:Unit)=>⟨T [(1,(di x1.1)),(2,(di p3)),(9,(dl A5 p1)),(10,(di (p1.length:Int))),(11,(di x1.2))],G []⟩) (p2,0) () _ hz1 (sbr rfl rfl) ?_)
 intro x1 g2 z2 hz2 ez2
 unfold Y5 at hz2
 refine lr (fun u3 hu3=>sv rfl (A1 (A6 (cc rfl hz2 (fun c1 hz2=> ?_) (fun c1 hz2=> ?_)))))
 refine A9 (A6 (A8 (lr (fun u4 hu4=>bs hz2 fun v1 hv1 hz2=>sd rfl (E4 rfl rfl hv1 rfl) (sd rfl (F3 rfl hv1 rfl) (sv rfl (A1 (A6 (lr (fun u5 hu5=>sv rfl (sv rfl (sv rfl (sv rfl (gf rfl (fun _=>rfl) (gf rfl (fun _=>rfl) (gf rfl (fun w3=>(V8 (A3 w3) (A3 w3) rfl)) (sd rfl (A0u rfl rfl (fun hc=>A3 (L6 hc))) (A1 (cc rfl hz2 (fun c2 hz2=> ?_) (fun c2 hz2=> ?_))))))))))))))))))))
 refine lr (fun u6 hu6=>sv rfl (A1 (B3 ?_)))
 cases hz2
 obtain rfl:=ez2 _ rfl
 refine ⟨nofun,D7 ?_⟩
 rw [Sum.elim_inr]at h
 cases h
 exact A7 (.inr rfl) (B6 (B4 rfl) E1) (.refl _)
 refine A9 (D0 fun u7 hu7=>sv rfl (sv rfl (sv rfl (A1 (F9 (D0 fun u8 hu8=>sv rfl (sv rfl (A1 (G3 ?_)))))))))
 cases hz2
 exact ⟨rfl,(),(sbr rfl rfl)⟩
 refine C3 rfl ?_
 cases hz2
 obtain rfl:=ez2 _ rfl
 refine ⟨nofun,C0 rfl (l_j ?_)⟩
 exact ⟨_,(),rfl,(sbr rfl rfl)⟩
 rintro _ ⟨y1,g1,rfl,q1⟩
 rw [Sum.elim_inl]at h
 refine B5 q1 (lr (fun u9 hu9=>sv rfl (A1 (B3 ?_))))
 cases h
 exact A7 (.inr rfl) (B6 (B4 rfl) E1) (.refl _)
noncomputable def R9 (p1:RoadsCheck)(x1:Int):Option (Stp Int (Sum Unit Int)):=
  cond (decide (x1< (p1.Map_.Lanes.length:Int))) ((D6 p1.Map_.Lanes x1).bind fun v1=>(A0y v1.Kind).bind fun v2=>cond (v2.1==0) (some (.out (.inr 4))) ((A4j v1.Curve_).bind fun v3=>cond (v3 !=0) (some (.out (.inr v3))) ((A05 v1.Half 200 4000).bind fun v4=>((cond (!(!v4)) (A05 v1.Limit 1 v2.1) (some default))).bind fun v5=>cond ((!v4)||(!v5)) (some (.out (.inr 2))) (cond (decide ((v1.Next.length:Int)>3)) (some (.out (.inr 8))) ((A21 v1.Next (w64 (x1+1)) (p1.Map_.Lanes.length:Int)).bind fun v6=>cond (!v6) (some (.out (.inr 11))) (some (.go (w64 (x1+1))))))))) (some (.out (.inl ())))
noncomputable def X2 (p1:RoadsCheck):Option Int:=
  thenS (loop (R9 p1) 0) (fun _=>some 0) (fun r=>some r)
theorem B4u (p1:RoadsCheck)(r:Int)(h:X2 p1=some r):PCall Tryz.prog 149 [(.agg (A4h p1.Map_))] (i64 r):=by
 refine B8 (fk Tryz.func149 Tryz.ntmps149 m0 (by with_unfolding_all rfl)) (nl rfl) ?_
 unfold X2 at h
 refine B5 (s0:=⟨T [(0,(.d _))],G []⟩) (sbr rfl rfl) ?_
 refine lr (fun u1 hu1=>sn rfl rfl (sv rfl (A1 (A6 (lr (fun u2 hu2=>sp rfl rfl (sp rfl rfl (sl rfl G_hit rfl (sd rfl (E5 rfl) (sv rfl (A1 (js h fun z1 hz1 h=>E0 (fun s=> ∃(y1:Unit) (g1:Unit),z1= .inl y1∧Sb ⟨T [],G []⟩ s) ?_ ?_))))))))))))
 refine A8 (E7 (R9 p1) (fun (x1:Int) (g2:Unit)=>⟨T [(1,(.ptr (1,u1) 0)),(11,(dl A7q p1.Map_.Lanes)),(12,(di (p1.Map_.Lanes.length:Int))),(13,(di x1))],G [((1,u1),some (.box 212 (A0i p1.Map_)))]⟩) 0 () _ hz1 (sbr rfl rfl) ?_)
 intro x1 g2 z2 hz2 ez2
 unfold R9 at hz2
 refine lr (fun u3 hu3=>sv rfl (A1 (A6 (cc rfl hz2 (fun c1 hz2=> ?_) (fun c1 hz2=> ?_)))))
 refine A9 (A6 (A8 (lr (fun u4 hu4=>sv rfl (bs hz2 fun v1 hv1 hz2=>sd rfl (E4 rfl rfl hv1 rfl) (sd rfl (C4 rfl hv1 rfl rfl) (sn rfl rfl (sv rfl (sst rfl G_hit (C31 v1) rfl (A1 (lr (fun u5 hu5=>sp rfl rfl (sl rfl G_hit rfl (bs hz2 fun v2 hv2 hz2=>B1 rfl rfl A2 (A73 _ _ hv2) (.inl rfl) (sv rfl (sv rfl (sv rfl (sv rfl (sv rfl (sv rfl (sv rfl (A1 (A6 (lr (fun u6 hu6=>sv rfl (sv rfl (A1 (cc rfl hz2 (fun c2 hz2=> ?_) (fun c2 hz2=> ?_)))))))))))))))))))))))))))))
 refine lr (fun u7 hu7=>sv rfl (A1 (B3 ?_)))
 cases hz2
 obtain rfl:=ez2 _ rfl
 refine ⟨nofun,D7 ?_⟩
 rw [Sum.elim_inr]at h
 cases h
 exact A7 (.inr rfl) (B6 (B4 rfl) E1) (.refl _)
 refine A9 (A6 (lr (fun u8 hu8=>sp rfl rfl (sd rfl (B2 rfl G_hit rfl rfl) (bs hz2 fun v3 hv3 hz2=>B1 rfl rfl A2 (B58 _ _ hv3) (.inl rfl) (sv rfl (A1 (lr (fun u9 hu9=>sv rfl (sv rfl (A1 (cc rfl hz2 (fun c3 hz2=> ?_) (fun c3 hz2=> ?_)))))))))))))
 refine lr (fun u10 hu10=>sv rfl (sv rfl (A1 (B3 ?_))))
 cases hz2
 obtain rfl:=ez2 _ rfl
 refine ⟨nofun,D7 ?_⟩
 rw [Sum.elim_inr]at h
 cases h
 exact A7 (.inr rfl) (B6 (B4 rfl) E1) (.refl _)
 refine A9 (A8 (lr (fun u11 hu11=>sp rfl rfl (sl rfl G_hit rfl (bs hz2 fun v4 hv4 hz2=>B1 rfl rfl A2 (A2u _ _ _ _ hv4) (.inl rfl) (B9 (.d (bo (!v4))) rfl rfl (sv rfl (gp rfl (T8 rfl) (fun _=>rfl) (gf rfl (vl rfl G_hit rfl) (gf rfl (fun _=>rfl) (bs hz2 fun v5 hv5 hz2=> ?_)))))))))))
 refine U8 _ (bo v5) (T8 rfl) (fun w4=>⟨_,[(di v1.Limit),(di 1),(di v2.1)],_,_,(by simp only [A3 w4];rfl),rfl,A2,A2u _ _ _ _ (C7 w4 hv5),(.inl rfl)⟩) ?_
 refine Z7 _ (.d (bo (!v5))) rfl (T8 rfl) (fun w5=>(by simp only [A3 w5];rfl)) ?_
 refine sd rfl (A0u rfl rfl (fun hc=>A3 (L6 hc))) (sv rfl (A1 (cc rfl hz2 (fun c4 hz2=> ?_) (fun c4 hz2=> ?_))))
 refine lr (fun u12 hu12=>sv rfl (A1 (B3 ?_)))
 cases hz2
 obtain rfl:=ez2 _ rfl
 refine ⟨nofun,D7 ?_⟩
 rw [Sum.elim_inr]at h
 cases h
 exact A7 (.inr rfl) (B6 (B4 rfl) E1) (.refl _)
 refine lr (fun u13 hu13=>sp rfl rfl (sl rfl G_hit rfl (sd rfl (E5 rfl) (sv rfl (sv rfl (A1 (cc rfl hz2 (fun c5 hz2=> ?_) (fun c5 hz2=> ?_))))))))
 refine lr (fun u14 hu14=>sv rfl (A1 (B3 ?_)))
 cases hz2
 obtain rfl:=ez2 _ rfl
 refine ⟨nofun,D7 ?_⟩
 rw [Sum.elim_inr]at h
 cases h
 exact A7 (.inr rfl) (B6 (B4 rfl) E1) (.refl _)
 refine lr (fun u15 hu15=>sp rfl rfl (sl rfl G_hit rfl (sv rfl (sv rfl (sp rfl rfl (sp rfl rfl (sl rfl (gq rfl) rfl (sd rfl (E5 rfl) (bs hz2 fun v6 hv6 hz2=>B1 rfl rfl A2 (B05 _ _ _ _ hv6) (.inl rfl) (B9 (.d (bo (!v6))) rfl rfl (sv rfl (A1 (cc rfl hz2 (fun c6 hz2=> ?_) (fun c6 hz2=> ?_))))))))))))))
 refine lr (fun u16 hu16=>sv rfl (A1 (B3 ?_)))
 cases hz2
 obtain rfl:=ez2 _ rfl
 refine ⟨nofun,D7 ?_⟩
 rw [Sum.elim_inr]at h
 cases h
 exact A7 (.inr rfl) (B6 (B4 rfl) E1) (.refl _)
 refine A9 (F9 (F9 (D0 fun u17 hu17=>sv rfl (sv rfl (A1 (G3 ?_))))))
 cases hz2
 exact ⟨rfl,(),(sbr rfl rfl)⟩
 refine C3 rfl ?_
 cases hz2
 obtain rfl:=ez2 _ rfl
 refine ⟨nofun,C0 rfl (l_j ?_)⟩
 exact ⟨_,(),rfl,(sbr rfl rfl)⟩
 rintro _ ⟨y1,g1,rfl,q1⟩
 rw [Sum.elim_inl]at h
 refine B5 q1 (lr (fun u18 hu18=>sv rfl (A1 (B3 ?_))))
 cases h
 exact A7 (.inr rfl) (B6 (B4 rfl) E1) (.refl _)
noncomputable def Q4 (p1:RoadsCheck)(v1:Lane)(v2:Spot)(x2:Int):Option (Stp Int (Sum Unit Int)):=
  cond (decide (x2< (v1.Next.length:Int))) ((D6 v1.Next x2).bind fun v3=>(D6 p1.Map_.Lanes v3).bind fun v4=>cond (v4.Kind !=v1.Kind) (some (.out (.inr 4))) ((D6 p1.Map_.Lanes v3).bind fun v5=>(D6 v5.Curve_.Pts 0).bind fun v6=>cond (!(v6.X==v2.X&& (v6.Y==v2.Y&&true))) (some (.out (.inr 3))) (some (.go (w64 (x2+1)))))) (some (.out (.inl ())))
noncomputable def Q5 (p1:RoadsCheck)(x1:Int):Option (Stp Int (Sum Unit Int)):=
  cond (decide (x1< (p1.Map_.Lanes.length:Int))) ((D6 p1.Map_.Lanes x1).bind fun v1=>(D6 v1.Curve_.Pts (w64 ((v1.Curve_.Pts.length:Int) - 1))).bind fun v2=>thenS (loop (Q4 p1 v1 v2) 0) (fun _=>some (.go (w64 (x1+1)))) (fun r=>some (.out (.inr r)))) (some (.out (.inl ())))
noncomputable def V5 (p1:RoadsCheck):Option Int:=
  thenS (loop (Q5 p1) 0) (fun _=>some 0) (fun r=>some r)
theorem B40 (p1:RoadsCheck)(r:Int)(h:V5 p1=some r):PCall Tryz.prog 150 [(.agg (A4h p1.Map_))] (i64 r):=by
 refine B8 (fk Tryz.func150 Tryz.ntmps150 m0 (by with_unfolding_all rfl)) (nl rfl) ?_
 unfold V5 at h
 refine B5 (s0:=⟨T [(0,(.d _))],G []⟩) (sbr rfl rfl) ?_
 refine lr (fun u1 hu1=>sn rfl rfl (sv rfl (A1 (A6 (lr (fun u2 hu2=>sp rfl rfl (sp rfl rfl (sl rfl G_hit rfl (sd rfl (E5 rfl) (sv rfl (A1 (js h fun z1 hz1 h=>E0 (fun s=> ∃(y1:Unit) (g1:Unit),z1= .inl y1∧Sb ⟨T [],G []⟩ s) ?_ ?_))))))))))))
 refine A8 (E7 (Q5 p1) (fun (x1:Int) (g2:Unit)=>⟨T [(1,(.ptr (1,u1) 0)),(10,(dl A7q p1.Map_.Lanes)),(11,(di (p1.Map_.Lanes.length:Int))),(12,(di x1))],G [((1,u1),some (.box 212 (A0i p1.Map_)))]⟩) 0 () _ hz1 (sbr rfl rfl) ?_)
 intro x1 g2 z2 hz2 ez2
 unfold Q5 at hz2
 refine lr (fun u3 hu3=>sv rfl (A1 (A6 (cc rfl hz2 (fun c1 hz2=> ?_) (fun c1 hz2=> ?_)))))
 refine A9 (A6 (A8 (lr (fun u4 hu4=>bs hz2 fun v1 hv1 hz2=>sd rfl (E4 rfl rfl hv1 rfl) (sd rfl (C4 rfl hv1 rfl rfl) (sn rfl rfl (sst rfl G_hit (C31 v1) rfl (A1 (lr (fun u5 hu5=>sp rfl rfl (sp rfl rfl (sl rfl G_hit rfl (sp rfl rfl (sp rfl rfl (sl rfl G_hit rfl (sd rfl (E5 rfl) (sv rfl (bs hz2 fun v2 hv2 hz2=>sd rfl (E4 rfl rfl hv2 rfl) (sd rfl (C4 rfl hv2 rfl rfl) (sn rfl rfl (sst rfl G_hit [(di v2.X),(di v2.Y)] rfl (A1 (lr (fun u6 hu6=>sp rfl rfl (sl rfl (gq rfl) rfl (sd rfl (E5 rfl) (sv rfl (A1 (js hz2 fun z3 hz3 hz2=>E0 (fun s=> ∃(y2:Unit) (g3:Unit),z3= .inl y2∧Sb ⟨T [(1,(.ptr (1,u1) 0)),(10,(dl A7q p1.Map_.Lanes)),(11,(di (p1.Map_.Lanes.length:Int))),(12,(di x1))],G [((1,u1),some (.box 212 (A0i p1.Map_)))]⟩ s) ?_ ?_)))))))))))))))))))))))))))))
 refine A8 (E7 (Q4 p1 v1 v2) (fun (x2:Int) (g4:Unit)=>⟨T [(1,(.ptr (1,u1) 0)),(4,(.ptr (4,u4) 0)),(5,(.ptr (5,u5) 0)),(10,(dl A7q p1.Map_.Lanes)),(11,(di (p1.Map_.Lanes.length:Int))),(12,(di x1)),(27,(dl A5 v1.Next)),(28,(di (v1.Next.length:Int))),(29,(di x2))],G [((1,u1),some (.box 212 (A0i p1.Map_))),((4,u4),some (.box 63 (C31 v1))),((5,u5),some (.box 104 [(di v2.X),(di v2.Y)]))]⟩) 0 () _ hz3 (sbr rfl rfl) ?_)
 intro x2 g4 z4 hz4 ez4
 unfold Q4 at hz4
 refine lr (fun u7 hu7=>sv rfl (A1 (A6 (cc rfl hz4 (fun c2 hz4=> ?_) (fun c2 hz4=> ?_)))))
 refine A9 (A6 (A8 (lr (fun u8 hu8=>bs hz4 fun v3 hv3 hz4=>sd rfl (E4 rfl rfl hv3 rfl) (sd rfl (F3 rfl hv3 rfl) (sv rfl (A1 (A6 (A6 (I6 rfl fun u9 hu9=>sp rfl rfl (sp rfl rfl (sl rfl G_hit rfl (sv rfl (bs hz4 fun v4 hv4 hz4=>sd rfl (E4 rfl rfl hv4 rfl) (sv rfl (sd rfl (F3 rfl hv4 rfl) (sp rfl rfl (sl rfl (gq rfl) rfl (sv rfl (A1 (cc rfl hz4 (fun c3 hz4=> ?_) (fun c3 hz4=> ?_))))))))))))))))))))))
 refine lr (fun u10 hu10=>sv rfl (A1 (B3 ?_)))
 cases hz4
 obtain rfl:=ez4 _ rfl
 refine ⟨nofun,D7 ?_⟩
 rw [Sum.elim_inr]at hz2
 cases hz2
 obtain rfl:=ez2 _ rfl
 refine ⟨nofun,D7 ?_⟩
 rw [Sum.elim_inr]at h
 cases h
 exact A7 (.inr rfl) (B6 (B4 rfl) E1) (.refl _)
 refine A9 (A6 (I6 rfl fun u11 hu11=>sp rfl rfl (sp rfl rfl (sl rfl G_hit rfl (sv rfl (bs hz4 fun v5 hv5 hz4=>sd rfl (E4 rfl rfl hv5 rfl) (sv rfl (sv rfl (sd rfl (F3 rfl hv5 rfl) (bs hz4 fun v6 hv6 hz4=>sd rfl (E4 rfl rfl hv6 rfl) (sd rfl (C4 rfl hv6 rfl rfl) (sd rfl (B2 rfl (gq rfl) rfl rfl) (B9 (.d (bo (!(v6.X==v2.X&& (v6.Y==v2.Y&&true))))) rfl rfl (A1 (cc rfl hz4 (fun c4 hz4=> ?_) (fun c4 hz4=> ?_))))))))))))))))
 refine lr (fun u12 hu12=>sv rfl (A1 (B3 ?_)))
 cases hz4
 obtain rfl:=ez4 _ rfl
 refine ⟨nofun,D7 ?_⟩
 rw [Sum.elim_inr]at hz2
 cases hz2
 obtain rfl:=ez2 _ rfl
 refine ⟨nofun,D7 ?_⟩
 rw [Sum.elim_inr]at h
 cases h
 exact A7 (.inr rfl) (B6 (B4 rfl) E1) (.refl _)
 refine A9 (F9 (D0 fun u13 hu13=>sv rfl (sv rfl (A1 (G3 ?_)))))
 cases hz4
 exact ⟨rfl,(),(sbr rfl rfl)⟩
 refine C3 rfl ?_
 cases hz4
 obtain rfl:=ez4 _ rfl
 refine ⟨nofun,C0 rfl (l_j ?_)⟩
 exact ⟨_,(),rfl,(sbr rfl rfl)⟩
 rintro _ ⟨y2,g3,rfl,q1⟩
 rw [Sum.elim_inl]at hz2
 refine F9 (B5 q1 (D0 fun u14 hu14=>sv rfl (sv rfl (A1 (G3 ?_)))))
 cases hz2
 exact ⟨rfl,(),(sbr rfl rfl)⟩
 refine C3 rfl ?_
 cases hz2
 obtain rfl:=ez2 _ rfl
 refine ⟨nofun,C0 rfl (l_j ?_)⟩
 exact ⟨_,(),rfl,(sbr rfl rfl)⟩
 rintro _ ⟨y1,g1,rfl,q2⟩
 rw [Sum.elim_inl]at h
 refine B5 q2 (lr (fun u15 hu15=>sv rfl (A1 (B3 ?_))))
 cases h
 exact A7 (.inr rfl) (B6 (B4 rfl) E1) (.refl _)
noncomputable def X3 (p1:Phase):Option Bool:=
  (A05 p1.Ticks 1 10000).bind fun v1=>some (!v1)
theorem B2c (p1:Phase)(r:Bool)(h:X3 p1=some r):PCall Tryz.prog 212 [(.agg [(i64 p1.Ticks),(.list (List.map A5 p1.Green))])] (bo r):=by
 refine B8 (fk Tryz.func212 Tryz.ntmps212 m0 (by with_unfolding_all rfl)) (nl rfl) ?_
 unfold X3 at h
 refine B5 (s0:=⟨T [(0,(.d _))],G []⟩) (sbr rfl rfl) ?_
 refine lr (fun u1 hu1=>sn rfl rfl (sv rfl (A1 (lr (fun u2 hu2=>sp rfl rfl (sl rfl G_hit rfl (bs h fun v1 hv1 h=>B1 rfl rfl A2 (A2u _ _ _ _ hv1) (.inl rfl) (B9 (.d (bo (!v1))) rfl rfl (sv rfl (A1 (B3 ?_)))))))))))
 cases h
 exact A7 (.inr rfl) (B6 (B4 rfl) E1) (.refl _)
noncomputable def C5 (p1:(List Phase))(x1:Int):Option (Stp Int (Sum Unit Int)):=
  cond (decide (x1< (p1.length:Int))) ((D6 p1 x1).bind fun v1=>(X3 v1).bind fun v2=>cond v2 (some (.out (.inr x1))) (some (.go (w64 (x1+1))))) (some (.out (.inl ())))
noncomputable def D4 (p1:(List Phase)):Option Int:=
  thenS (loop (C5 p1) 0) (fun _=>some (-1)) (fun r=>some r)
theorem A0w (p1:(List Phase))(r:Int)(h:D4 p1=some r):PCall Tryz.prog 243 [(.list (List.map A5q p1)),(.fn (.func 212) [] [])] (i64 r):=by
 refine B8 (fk Tryz.func243 Tryz.ntmps243 m0 (by with_unfolding_all rfl)) (nl rfl) ?_
 unfold D4 at h
 refine B5 (s0:=⟨T [(0,(.d _)),(1,(.d _))],G []⟩) (sbr rfl rfl) ?_
 refine lr (fun u1 hu1=>sv rfl (A1 (A6 (lr (fun u2 hu2=>sv rfl (sd rfl (E5 rfl) (sv rfl (A1 (js h fun z1 hz1 h=>E0 (fun s=> ∃(y1:Unit) (g1:Unit),z1= .inl y1∧Sb ⟨T [],G []⟩ s) ?_ ?_)))))))))
 refine A8 (E7 (C5 p1) (fun (x1:Int) (g2:Unit)=>⟨T [(0,(dl A5q p1)),(1,(.d (.fn (.func 212) [] []))),(7,(di (p1.length:Int))),(8,(di x1))],G []⟩) 0 () _ hz1 (sbr rfl rfl) ?_)
 intro x1 g2 z2 hz2 ez2
 unfold C5 at hz2
 refine lr (fun u3 hu3=>sv rfl (A1 (A6 (cc rfl hz2 (fun c1 hz2=> ?_) (fun c1 hz2=> ?_)))))
 refine A9 (A6 (A8 (lr (fun u4 hu4=>sv rfl (sv rfl (A1 (lr (fun u5 hu5=>sv rfl (sv rfl (sv rfl (bs hz2 fun v1 hv1 hz2=>sd rfl (E4 rfl rfl hv1 rfl) (sd rfl (C4 rfl hv1 rfl rfl) (bs hz2 fun v2 hv2 hz2=>B1 rfl rfl A2 (B2c _ _ hv2) (.inl rfl) (A1 (cc rfl hz2 (fun c2 hz2=> ?_) (fun c2 hz2=> ?_))))))))))))))))
 refine lr (fun u6 hu6=>sv rfl (sv rfl (A1 (B3 ?_))))
 cases hz2
 obtain rfl:=ez2 _ rfl
 refine ⟨nofun,D7 ?_⟩
 rw [Sum.elim_inr]at h
 cases h
 exact A7 (.inr rfl) (B6 (B4 rfl) E1) (.refl _)
 refine A9 (F9 (D0 fun u7 hu7=>sv rfl (sv rfl (A1 (G3 ?_)))))
 cases hz2
 exact ⟨rfl,(),(sbr rfl rfl)⟩
 refine C3 rfl ?_
 cases hz2
 obtain rfl:=ez2 _ rfl
 refine ⟨nofun,C0 rfl (l_j ?_)⟩
 exact ⟨_,(),rfl,(sbr rfl rfl)⟩
 rintro _ ⟨y1,g1,rfl,q1⟩
 rw [Sum.elim_inl]at h
 refine B5 q1 (lr (fun u8 hu8=>sv rfl (A1 (B3 ?_))))
 cases h
 exact A7 (.inr rfl) (B6 (B4 rfl) E1) (.refl _)
noncomputable def C6 (p1:(List Phase)):Option Bool:=
  (D4 p1).bind fun v1=>some (decide (v1≥0))
theorem A0f (p1:(List Phase))(r:Bool)(h:C6 p1=some r):PCall Tryz.prog 211 [(.list (List.map A5q p1)),(.fn (.func 212) [] [])] (bo r):=by
 refine B8 (fk Tryz.func211 Tryz.ntmps211 m0 (by with_unfolding_all rfl)) (nl rfl) ?_
 unfold C6 at h
 refine B5 (s0:=⟨T [(0,(.d _)),(1,(.d _))],G []⟩) (sbr rfl rfl) ?_
 refine lr (fun u1 hu1=>sv rfl (A1 (lr (fun u2 hu2=>sv rfl (sv rfl (bs h fun v1 hv1 h=>B1 rfl rfl A2 (A0w _ _ hv1) (.inl rfl) (sv rfl (sv rfl (A1 (B3 ?_))))))))))
 cases h
 exact A7 (.inr rfl) (B6 (B4 rfl) E1) (.refl _)
noncomputable def U7 (p1:Phase)(p2:RoadsCheck):Option Bool:=
  (A21 p1.Green 0 (p2.Map_.Lanes.length:Int)).bind fun v1=>some (!v1)
theorem B14 (p1:Phase)(p2:RoadsCheck)(r:Bool)(h:U7 p1 p2=some r):PCall Tryz.prog 213 [(.agg [(i64 p1.Ticks),(.list (List.map A5 p1.Green))]),(.bp (A4h p2.Map_) 0)] (bo r):=by
 refine B8 (fk Tryz.func213 Tryz.ntmps213 m0 (by with_unfolding_all rfl)) (nl rfl) ?_
 unfold U7 at h
 refine B5 (s0:=⟨T [(0,(.d _)),(1,(.d _))],G []⟩) (sbr rfl rfl) ?_
 refine lr (fun u1 hu1=>sn rfl rfl (sv rfl (A1 (lr (fun u2 hu2=>sp rfl rfl (sl rfl G_hit rfl (sv rfl (sv rfl (sv rfl (sd rfl (E5 rfl) (bs h fun v1 hv1 h=>B1 rfl rfl A2 (B05 _ _ _ _ hv1) (.inl rfl) (B9 (.d (bo (!v1))) rfl rfl (sv rfl (A1 (B3 ?_)))))))))))))))
 cases h
 exact A7 (.inr rfl) (B6 (B4 rfl) E1) (.refl _)
noncomputable def C1 (p1:(List Phase))(p2:RoadsCheck)(x1:Int):Option (Stp Int (Sum Unit Int)):=
  cond (decide (x1< (p1.length:Int))) ((D6 p1 x1).bind fun v1=>(U7 v1 p2).bind fun v2=>cond v2 (some (.out (.inr x1))) (some (.go (w64 (x1+1))))) (some (.out (.inl ())))
noncomputable def D3 (p1:(List Phase))(p2:RoadsCheck):Option Int:=
  thenS (loop (C1 p1 p2) 0) (fun _=>some (-1)) (fun r=>some r)
theorem A0s (p1:(List Phase))(p2:RoadsCheck)(r:Int)(h:D3 p1 p2=some r):PCall Tryz.prog 243 [(.list (List.map A5q p1)),(.fn (.func 213) [] [(.bp (A4h p2.Map_) 0)])] (i64 r):=by
 refine B8 (fk Tryz.func243 Tryz.ntmps243 m0 (by with_unfolding_all rfl)) (nl rfl) ?_
 unfold D3 at h
 refine B5 (s0:=⟨T [(0,(.d _)),(1,(.d _))],G []⟩) (sbr rfl rfl) ?_
 refine lr (fun u1 hu1=>sv rfl (A1 (A6 (lr (fun u2 hu2=>sv rfl (sd rfl (E5 rfl) (sv rfl (A1 (js h fun z1 hz1 h=>E0 (fun s=> ∃(y1:Unit) (g1:Unit),z1= .inl y1∧Sb ⟨T [],G []⟩ s) ?_ ?_)))))))))
 refine A8 (E7 (C1 p1 p2) (fun (x1:Int) (g2:Unit)=>⟨T [(0,(dl A5q p1)),(1,(.d (.fn (.func 213) [] [(.bp (A4h p2.Map_) 0)]))),(7,(di (p1.length:Int))),(8,(di x1))],G []⟩) 0 () _ hz1 (sbr rfl rfl) ?_)
 intro x1 g2 z2 hz2 ez2
 unfold C1 at hz2
 refine lr (fun u3 hu3=>sv rfl (A1 (A6 (cc rfl hz2 (fun c1 hz2=> ?_) (fun c1 hz2=> ?_)))))
 refine A9 (A6 (A8 (lr (fun u4 hu4=>sv rfl (sv rfl (A1 (lr (fun u5 hu5=>sv rfl (sv rfl (sv rfl (bs hz2 fun v1 hv1 hz2=>sd rfl (E4 rfl rfl hv1 rfl) (sd rfl (C4 rfl hv1 rfl rfl) (bs hz2 fun v2 hv2 hz2=>B1 rfl rfl A2 (B14 _ _ _ hv2) (.inl rfl) (A1 (cc rfl hz2 (fun c2 hz2=> ?_) (fun c2 hz2=> ?_))))))))))))))))
 refine lr (fun u6 hu6=>sv rfl (sv rfl (A1 (B3 ?_))))
 cases hz2
 obtain rfl:=ez2 _ rfl
 refine ⟨nofun,D7 ?_⟩
 rw [Sum.elim_inr]at h
 cases h
 exact A7 (.inr rfl) (B6 (B4 rfl) E1) (.refl _)
 refine A9 (F9 (D0 fun u7 hu7=>sv rfl (sv rfl (A1 (G3 ?_)))))
 cases hz2
 exact ⟨rfl,(),(sbr rfl rfl)⟩
 refine C3 rfl ?_
 cases hz2
 obtain rfl:=ez2 _ rfl
 refine ⟨nofun,C0 rfl (l_j ?_)⟩
 exact ⟨_,(),rfl,(sbr rfl rfl)⟩
 rintro _ ⟨y1,g1,rfl,q1⟩
 rw [Sum.elim_inl]at h
 refine B5 q1 (lr (fun u8 hu8=>sv rfl (A1 (B3 ?_))))
 cases h
 exact A7 (.inr rfl) (B6 (B4 rfl) E1) (.refl _)
noncomputable def C2 (p1:(List Phase))(p2:RoadsCheck):Option Bool:=
  (D3 p1 p2).bind fun v1=>some (decide (v1≥0))
theorem A06 (p1:(List Phase))(p2:RoadsCheck)(r:Bool)(h:C2 p1 p2=some r):PCall Tryz.prog 211 [(.list (List.map A5q p1)),(.fn (.func 213) [] [(.bp (A4h p2.Map_) 0)])] (bo r):=by
 refine B8 (fk Tryz.func211 Tryz.ntmps211 m0 (by with_unfolding_all rfl)) (nl rfl) ?_
 unfold C2 at h
 refine B5 (s0:=⟨T [(0,(.d _)),(1,(.d _))],G []⟩) (sbr rfl rfl) ?_
 refine lr (fun u1 hu1=>sv rfl (A1 (lr (fun u2 hu2=>sv rfl (sv rfl (bs h fun v1 hv1 h=>B1 rfl rfl A2 (A0s _ _ _ hv1) (.inl rfl) (sv rfl (sv rfl (A1 (B3 ?_))))))))))
 cases h
 exact A7 (.inr rfl) (B6 (B4 rfl) E1) (.refl _)
noncomputable def P1 (p1:RoadsCheck)(x1:Int):Option (Stp Int (Sum Unit Int)):=
  cond (decide (x1< (p1.Map_.Signals.length:Int))) ((D6 p1.Map_.Signals x1).bind fun v1=>cond ((v1.Phases.length:Int)==0) (some (.out (.inr 6))) (cond (decide ((v1.Phases.length:Int)>6)) (some (.out (.inr 8))) ((A05 v1.Offset 0 1099511627776).bind fun v2=>cond (!v2) (some (.out (.inr 2))) ((C6 v1.Phases).bind fun v3=>cond v3 (some (.out (.inr 2))) ((C2 v1.Phases p1).bind fun v4=>cond v4 (some (.out (.inr 11))) (some (.go (w64 (x1+1))))))))) (some (.out (.inl ())))
noncomputable def U1 (p1:RoadsCheck):Option Int:=
  thenS (loop (P1 p1) 0) (fun _=>some 0) (fun r=>some r)
theorem B3s (p1:RoadsCheck)(r:Int)(h:U1 p1=some r):PCall Tryz.prog 151 [(.agg (A4h p1.Map_))] (i64 r):=by
 refine B8 (fk Tryz.func151 Tryz.ntmps151 m0 (by with_unfolding_all rfl)) (nl rfl) ?_
 unfold U1 at h
 refine B5 (s0:=⟨T [(0,(.d _))],G []⟩) (sbr rfl rfl) ?_
 refine lr (fun u1 hu1=>sn rfl rfl (sv rfl (A1 (A6 (lr (fun u2 hu2=>sp rfl rfl (sp rfl rfl (sl rfl G_hit rfl (sd rfl (E5 rfl) (sv rfl (A1 (js h fun z1 hz1 h=>E0 (fun s=> ∃(y1:Unit) (g1:Unit),z1= .inl y1∧Sb ⟨T [],G []⟩ s) ?_ ?_))))))))))))
 refine A8 (E7 (P1 p1) (fun (x1:Int) (g2:Unit)=>⟨T [(1,(.ptr (1,u1) 0)),(8,(dl B00 p1.Map_.Signals)),(9,(di (p1.Map_.Signals.length:Int))),(10,(di x1))],G [((1,u1),some (.box 212 (A0i p1.Map_)))]⟩) 0 () _ hz1 (sbr rfl rfl) ?_)
 intro x1 g2 z2 hz2 ez2
 unfold P1 at hz2
 refine lr (fun u3 hu3=>sv rfl (A1 (A6 (cc rfl hz2 (fun c1 hz2=> ?_) (fun c1 hz2=> ?_)))))
 refine A9 (A6 (A8 (lr (fun u4 hu4=>bs hz2 fun v1 hv1 hz2=>sd rfl (E4 rfl rfl hv1 rfl) (sd rfl (C4 rfl hv1 rfl rfl) (sn rfl rfl (sst rfl G_hit [(di v1.Offset),(dl A5q v1.Phases)] rfl (A1 (lr (fun u5 hu5=>sp rfl rfl (sl rfl G_hit rfl (sd rfl (E5 rfl) (sv rfl (A1 (A8 (lr (fun u6 hu6=>sv rfl (sv rfl (sv rfl (A1 (cc rfl hz2 (fun c2 hz2=> ?_) (fun c2 hz2=> ?_))))))))))))))))))))))
 refine lr (fun u7 hu7=>sv rfl (A1 (B3 ?_)))
 cases hz2
 obtain rfl:=ez2 _ rfl
 refine ⟨nofun,D7 ?_⟩
 rw [Sum.elim_inr]at h
 cases h
 exact A7 (.inr rfl) (B6 (B4 rfl) E1) (.refl _)
 refine lr (fun u8 hu8=>sv rfl (sv rfl (sv rfl (A1 (cc rfl hz2 (fun c3 hz2=> ?_) (fun c3 hz2=> ?_))))))
 refine lr (fun u9 hu9=>sv rfl (A1 (B3 ?_)))
 cases hz2
 obtain rfl:=ez2 _ rfl
 refine ⟨nofun,D7 ?_⟩
 rw [Sum.elim_inr]at h
 cases h
 exact A7 (.inr rfl) (B6 (B4 rfl) E1) (.refl _)
 refine lr (fun u10 hu10=>sp rfl rfl (sl rfl G_hit rfl (bs hz2 fun v2 hv2 hz2=>B1 rfl rfl A2 (A2u _ _ _ _ hv2) (.inl rfl) (B9 (.d (bo (!v2))) rfl rfl (sv rfl (A1 (cc rfl hz2 (fun c4 hz2=> ?_) (fun c4 hz2=> ?_))))))))
 refine lr (fun u11 hu11=>sv rfl (A1 (B3 ?_)))
 cases hz2
 obtain rfl:=ez2 _ rfl
 refine ⟨nofun,D7 ?_⟩
 rw [Sum.elim_inr]at h
 cases h
 exact A7 (.inr rfl) (B6 (B4 rfl) E1) (.refl _)
 refine lr (fun u12 hu12=>sp rfl rfl (sl rfl G_hit rfl (bs hz2 fun v3 hv3 hz2=>B1 rfl rfl A2 (A0f _ _ hv3) (.inl rfl) (sv rfl (A1 (cc rfl hz2 (fun c5 hz2=> ?_) (fun c5 hz2=> ?_)))))))
 refine lr (fun u13 hu13=>sv rfl (A1 (B3 ?_)))
 cases hz2
 obtain rfl:=ez2 _ rfl
 refine ⟨nofun,D7 ?_⟩
 rw [Sum.elim_inr]at h
 cases h
 exact A7 (.inr rfl) (B6 (B4 rfl) E1) (.refl _)
 refine lr (fun u14 hu14=>sp rfl rfl (sl rfl G_hit rfl (B9 (.fn _ _ _) rfl rfl (bs hz2 fun v4 hv4 hz2=>B1 rfl (rD (C9 (C1a E2 (C9 (A2q (gq rfl) (rD (rD (rD (rD (rD E2)))))) E2)) E2)) A2 (A06 _ _ _ hv4) (.inr rfl) (sv rfl (A1 (cc rfl hz2 (fun c6 hz2=> ?_) (fun c6 hz2=> ?_))))))))
 refine lr (fun u15 hu15=>sv rfl (A1 (B3 ?_)))
 cases hz2
 obtain rfl:=ez2 _ rfl
 refine ⟨nofun,D7 ?_⟩
 rw [Sum.elim_inr]at h
 cases h
 exact A7 (.inr rfl) (B6 (B4 rfl) E1) (.refl _)
 refine A9 (F9 (F9 (D0 fun u16 hu16=>sv rfl (sv rfl (A1 (G3 ?_))))))
 cases hz2
 exact ⟨rfl,(),(sbr rfl rfl)⟩
 refine C3 rfl ?_
 cases hz2
 obtain rfl:=ez2 _ rfl
 refine ⟨nofun,C0 rfl (l_j ?_)⟩
 exact ⟨_,(),rfl,(sbr rfl rfl)⟩
 rintro _ ⟨y1,g1,rfl,q1⟩
 rw [Sum.elim_inl]at h
 refine B5 q1 (lr (fun u17 hu17=>sv rfl (A1 (B3 ?_))))
 cases h
 exact A7 (.inr rfl) (B6 (B4 rfl) E1) (.refl _)
/-- kerbstone/curve.pieces$1 -/
def B2d:AC:=(.seq (.reg [oo 3 (.mv (ci 0))]) (.seq (.reg [oo 8 (.fieldA 0 (.t 1)),oo 9 (.load 1 false (.t 8)),oo 10 (.len (.t 9)),oo 11 (.bin .sub (.t 10) (ci 1)),oo 12 (.mv (ci 0))]) (.block 0 (.loop (.seq (.reg [oo 13 (.bin .lss (.t 12) (.t 11))]) (.seq (.cond (.t 13) .skip (.exit 0)) (.seq (.block 1 (.seq (.reg [oo 14 (.mv (.t 12)),oo 4 (.mv (.t 14))]) (.seq (.draw [oo 15 (.fieldA 0 (.t 1)),oo 16 (.load 1 false (.t 15)),oo 17 (.mv (.t 4)),oo 18 (.idxS 2 (.t 16) (.t 17)),oo 19 (.load 2 true (.t 18)),oo 20 (.fieldA 0 (.t 1)),oo 21 (.load 1 false (.t 20)),oo 22 (.mv (.t 4)),oo 23 (.bin .add (.t 22) (ci 1)),oo 24 (.idxS 2 (.t 21) (.t 23)),oo 25 (.load 2 true (.t 24)),oo 26 (.call (cf 238) [(.t 19),(.t 25)]),oo 5 (.alloc 253 [z0,z0]),oe (.store 2 (.t 5) (.t 26))] []) (.seq (.reg [oo 28 (.load 2 true (.t 5)),oo 29 (.load 2 true (.t 5)),oo 30 (.call (cf 240) [(.t 28),(.t 29)]),oo 31 (.call (cf 239) [(.t 30)]),oo 27 (.mv (.t 31)),oo 32 (.ext (.t 27) 0),oo 33 (.ext (.t 27) 1),oo 6 (.mv (.t 32)),oo 7 (.mv (.t 33))]) (.seq (.seq (.drawB [oo 34 (.mv (.t 0)),oo 35 (.mv (.t 4)),oo 36 (.fieldA 0 (.t 1)),oo 37 (.load 1 false (.t 36)),oo 38 (.mv (.t 4)),oo 39 (.idxS 2 (.t 37) (.t 38)),oo 40 (.load 2 true (.t 39)),oo 41 (.load 2 true (.t 5)),oo 42 (.mv (.t 6)),oo 43 (.mv (.t 3)),oo 44 (.build [z0,z0,z0,z0,z0,z0] [(0,2,(.t 40)),(2,2,(.t 41)),(4,1,(.t 42)),(5,1,(.t 43))]),oo 45 (.icall (.t 34) [(.t 35),(.t 44)]),oo 46 (.un .not (.t 45))] 11 []) (.cond (.t 46) .ret .skip)) (.reg [oo 47 (.mv (.t 3)),oo 48 (.mv (.t 6)),oo 49 (.bin .add (.t 47) (.t 48)),oo 3 (.mv (.t 49))])))))) (.reg [oo 50 (.bin .add (.t 12) (ci 1)),oo 12 (.mv (.t 50))]))))))))
theorem B7r:FnOK Tryz.prog 260 51 [] B2d:=⟨_,_,Tryz.func260,rfl,Tryz.ntmps260,by kernel_rfl,⟨fun r=>if r==6 then [11]else [],by kernel_rfl⟩,by kernel_rfl⟩
/-- The pieces of a chain of points, from a number on. -/
noncomputable def A74 (pts:List Spot):Nat→Nat→Int→Option (List (Int×CurvePiece))
  |0,_,_=>some []
  |n+1,i,start=>(pts[i]?).bind fun p=>(pts[i+1]?).bind fun q=>(A6o p q).bind fun v=>(W7 v v).bind fun d=>(A5b d).bind fun r=>
   (A74 pts n (i+1) (w64 (start+r.1))).bind fun l=>some (((i:Int),CurvePiece.mk p v r.1 start)::l)
noncomputable def B5r (pts:List Spot):Option (List (Int×CurvePiece)):=if pts.length≤1000000 then A74 pts (pts.length - 1) 0 0 else none
/-- kerbstone/curve.pieces -/
def B41:AC:=(.seq (.reg [oo 1 (.box 61 true (.t 0)),oo 2 (.mv (.c (.v .nilFunc)))]) (.seq (.reg [oo 3 (.mkfn (.func 260) [] [(.t 1)]),oo 2 (.mv (.t 3))]) .ret))
theorem C0a:FnOK Tryz.prog 241 4 [.t 2] B41:=⟨_,_,Tryz.func241,rfl,Tryz.ntmps241,by kernel_rfl,⟨fun _=> [],by kernel_rfl⟩,by kernel_rfl⟩
abbrev C7o (a:Int×CurvePiece):List D:= [i64 a.1, .agg [i64 a.2.p.X,i64 a.2.p.Y,i64 a.2.v.x,i64 a.2.v.y,i64 a.2.l,i64 a.2.start]]
theorem C63 (c:Curve):PCall Tryz.prog 241 [.agg [.list (List.map A5a c.Pts)]] (.fn (.func 260) [] [.bp [.list (List.map A5a c.Pts)] 0]):=by
  refine D32 C0a (by simp) ?_
  unfold B41
  refine B29 (B3x fun u hu=> ?_)
  refine D05 (.ptr _ _) _ rfl rfl ?_
  refine E6 (.d _) rfl rfl ?_
  refine A2p ?_
  refine B29 (B3x fun u' hu'=> ?_)
  refine E6 (.fn _ _ _) rfl rfl ?_
  refine E6 (.fn _ _ _) rfl rfl ?_
  refine A2p ?_
  refine C9y ⟨.inr rfl,?_⟩
  refine B6 (B4 (v:= .fn _ _ _) rfl) ?_
  exact C1a E2 (C9 (A2q (by simp only [upd,if_true];rfl) (C9 E1 E2)) E2)
theorem D3l (ps:List Spot)(n:Int)(i:Nat)(p:Spot)(hn:n=i)(h:ps[i]? =some p):(List.map A5a ps)[n.toNat]? =some (A5a p):=by
  subst hn
  rw [Int.toNat_natCast,List.getElem?_map,h];rfl
theorem D17 {n:Int}(h: -9223372036854775808≤n∧n≤9223372036854775807):w64 n=n:=Go.IntWalk.i64_in n h
theorem C0b (pts:List Spot): ∀n i s L,A74 pts n i s=some L→L.length=n:=by
  intro n
  induction n with
  |zero=>intro i s L h;cases h;rfl
  |succ n ih=>
   intro i s L h
   rw [A74]at h
   obtain ⟨p,hp,h⟩:=bind_some h
   obtain ⟨q,hq,h⟩:=bind_some h
   obtain ⟨v,hv,h⟩:=bind_some h
   obtain ⟨d,hd,h⟩:=bind_some h
   obtain ⟨r,hr,h⟩:=bind_some h
   obtain ⟨l,hl,h⟩:=bind_some h
   cases h
   rw [List.length_cons,ih _ _ _ hl]
theorem C64 {pts:List Spot}{L:List (Int×CurvePiece)}(h:B5r pts=some L):D4i Tryz.prog (.fn (.func 260) [] [.bp [.list (List.map A5a pts)] 0]) (L.map C7o):=by
  unfold B5r at h
  split at h
  case isFalse=>cases h
  rename_i hlen
  refine ⟨260,[],_,rfl,?_⟩
  intro k h0 Inv Stop hi0 hy
  refine C2m B7r (by simp) ?_
  unfold B2d
  refine B29 (B3x fun u hu=> ?_)
  refine E6 (.d _) rfl rfl ?_
  refine A2p ?_
  refine B29 (B3x fun u hu=> ?_)
  refine E6 (.d _) rfl rfl ?_
  refine E6 (.d _) rfl rfl ?_
  refine E6 (.d (i64 pts.length)) rfl (E5 (f:=A5a) rfl) ?_
  refine E6 (.d _) rfl rfl ?_
  refine E6 (.d _) rfl rfl ?_
  refine A2p ?_
  refine C2k ?_
  refine C74 (α:=Nat×Int×J2) (fun x=>⟨T [(0, .yld k),(1, .d (.bp [.list (List.map A5a pts)] 0)),(3, .d (i64 x.2.1)),(11, .d (i64 (w64 (pts.length - 1)))),(12, .d (i64 x.1))],x.2.2⟩) (fun x=>pts.length - x.1)
    (fun x=>Inv x.1 x.2.2∧x.1≤pts.length - 1∧A74 pts (pts.length - 1 - x.1) x.1 x.2.1=some (L.drop x.1)) (0,0,h0) ⟨hi0,by omega,h⟩ (B8c ⟨rfl,rfl,rfl,rfl,rfl,trivial⟩ fun _ _ h=>h) ?_
  rintro ⟨i,start,hh⟩ ⟨hinv,hi,hgo⟩
  dsimp only at hinv hi hgo ⊢
  refine B29 (B3x fun u hu=> ?_)
  refine E6 (.d _) rfl rfl ?_
  refine A2p ?_
  refine B29 ?_
  refine D34 rfl (fun hlt=> ?_) (fun hlt=> ?_)
  ·refine C5p ?_
   have hlen1:w64 ((pts.length:Int) - 1)=pts.length - 1:=D17 (by omega)
   rw [hlen1]at hlt
   have hi1:i+1<pts.length:=by omega
   have hw1:IntKind.i64.wrap ((i:Int)+1)=(i:Int)+1:=D17 (by omega)
   obtain ⟨m,hm⟩: ∃m,pts.length - 1 - i=m+1:=⟨pts.length - 1 - i - 1,by omega⟩
   rw [hm,A74]at hgo
   obtain ⟨p,hp,hgo⟩:=bind_some hgo
   obtain ⟨q,hq,hgo⟩:=bind_some hgo
   obtain ⟨v,hv,hgo⟩:=bind_some hgo
   obtain ⟨d,hd,hgo⟩:=bind_some hgo
   obtain ⟨r,hr,hgo⟩:=bind_some hgo
   obtain ⟨l,hl,hgo⟩:=bind_some hgo
   have hgo:((i:Int),CurvePiece.mk p v r.1 start)::l=L.drop i:=Option.some.inj hgo
   have hLi:L[i]? =some ((i:Int),CurvePiece.mk p v r.1 start):=by
     have:=congrArg (fun z=>z[0]?) hgo
     simpa using this.symm
   have hLd:L.drop (i+1)=l:=by
     have:=congrArg (fun z=>z.drop 1) hgo
     simpa using this.symm
   have hin: ∀(p:Spot) (n:Int) (j:Nat),n=j→pts[j]? =some p→(List.map A5a pts)[n.toNat]? =some (A5a p):=fun p n j=>D3l pts n j p
   refine B29 ?_
   refine C2k ?_
   refine B29 (B3x fun u hu=> ?_)
   refine E6 (.d _) rfl rfl ?_
   refine E6 (.d _) rfl rfl ?_
   refine A2p ?_
   refine B29 (D01 rfl fun u hu=> ?_)
   refine E6 (.d _) rfl rfl ?_
   refine E6 (.d _) rfl rfl ?_
   refine E6 (.d _) rfl rfl ?_
   refine D07 _ _ _ _ rfl rfl (Int.natCast_nonneg i) (hin p _ i rfl hp) rfl ?_
   refine B9s _ _ _ _ _ rfl (hin p _ i rfl hp) (by simp) rfl ?_
   refine E6 (.d _) rfl rfl ?_
   refine E6 (.d _) rfl rfl ?_
   refine E6 (.d _) rfl rfl ?_
   refine E6 (.d _) rfl rfl ?_
   refine D07 _ _ _ _ rfl rfl (by rw [hw1];omega) (hin q _ (i+1) (by rw [hw1];rfl) hq) rfl ?_
   refine B9s _ _ _ _ _ rfl (hin q _ (i+1) (by rw [hw1];rfl) hq) (by simp) rfl ?_
   refine B7i rfl rfl (B6r p q _ hv) (.inl rfl) ?_
   refine D05 (.ptr _ _) _ rfl rfl ?_
   refine C77 _ _ _ _ _ rfl rfl rfl (by simp only [upd,if_true];rfl) (by simp) ?_
   refine A2p ?_
   refine B29 (B3x fun u' hu'=> ?_)
   refine C2o _ _ _ _ (.d (.agg [i64 v.x,i64 v.y])) rfl (by simp only [upd,if_true];rfl) (by simp [B4k]) rfl ?_
   refine C2o _ _ _ _ (.d (.agg [i64 v.x,i64 v.y])) rfl (by simp only [upd,if_true];rfl) (by simp [B4k]) rfl ?_
   refine B7i rfl rfl (A6c v v _ hd) (.inl rfl) ?_
   refine B7i rfl rfl (B6s d _ hr) (.inl rfl) ?_
   refine E6 (.d _) rfl rfl ?_
   refine E6 (.d _) rfl rfl ?_
   refine E6 (.d _) rfl rfl ?_
   refine E6 (.d _) rfl rfl ?_
   refine E6 (.d _) rfl rfl ?_
   refine A2p ?_
   refine B29 (B29 ?_)
   refine D30 rfl fun u2 hu2=> ?_
   simp only [List.take,List.drop]
   refine E6 (.yld _) rfl rfl ?_
   refine E6 (.d _) rfl rfl ?_
   refine E6 (.d _) rfl rfl ?_
   refine E6 (.d _) rfl rfl ?_
   refine E6 (.d _) rfl rfl ?_
   refine D07 _ _ _ _ rfl rfl (Int.natCast_nonneg i) (hin p _ i rfl hp) rfl ?_
   refine B9s _ _ _ _ _ rfl (hin p _ i rfl hp) (by simp) rfl ?_
   refine C2o _ _ _ _ (.d (.agg [i64 v.x,i64 v.y])) rfl (by simp only [upd,if_true];rfl) (by simp [B4k]) rfl ?_
   refine E6 (.d _) rfl rfl ?_
   refine E6 (.d _) rfl rfl ?_
   refine E6 (.d _) rfl rfl ?_
   refine A2p ?_
   intro u3 hu3
   refine D37 k ((C7o ((i:Int),CurvePiece.mk p v r.1 start)).map .d) rfl rfl ?_
   refine YCall.weak (D09 hu (D09 hu fun _ _ h=>h)) ((hy i hh _ (by rw [List.getElem?_map,hLi];rfl) hinv).mono ?_)
   rintro v' h' (⟨rfl,hin⟩|⟨rfl,hst⟩)
   ·intro u4 hu4
    refine E6 (.d _) rfl rfl ?_
    refine A2p ?_
    refine B92 (t:=false) rfl (fun h=>by cases h) (fun _=> ?_)
    refine C5p ?_
    refine B3x fun u hu=> ?_
    refine E6 (.d _) rfl rfl ?_
    refine E6 (.d _) rfl rfl ?_
    refine E6 (.d _) rfl rfl ?_
    refine E6 (.d _) rfl rfl ?_
    refine A2p ?_
    refine B3x fun u hu=> ?_
    refine E6 (.d _) rfl rfl ?_
    refine E6 (.d _) rfl rfl ?_
    refine A2p ?_
    refine ⟨(i+1,w64 (start+r.1),h'),⟨hin,by dsimp only;omega,?_⟩,by dsimp only;omega,B8c ⟨rfl,rfl,rfl,rfl,?_,trivial⟩ fun _ _ h=>h⟩
    ·dsimp only
     rw [hLd,show pts.length - 1 - (i+1)=m by omega];exact hl
    ·show AV.d (i64 (IntKind.i64.wrap ((i:Int)+1)))=_
     rw [hw1];rfl
   ·intro u4 hu4
    refine E6 (.d _) rfl rfl ?_
    refine A2p ?_
    refine B92 (t:=true) rfl (fun _=> ?_) (fun h=>by cases h)
    refine C9y ?_
    dsimp only
    exact ⟨Or.inr trivial,AV.tup [],rfl,Or.inr hst⟩
  ·refine C5q ?_
   have hlen1:1≤pts.length→w64 ((pts.length:Int) - 1)=pts.length - 1:=fun _=>D17 (by omega)
   have:i=pts.length - 1:=by
     by_cases h:1≤pts.length
     ·rw [hlen1 h]at hlt;omega
     ·omega
   subst this
   rw [Nat.sub_self,A74]at hgo
   have hL:(L.map C7o).length=pts.length - 1:=by
     have h1:L.drop (pts.length - 1)= []:=(Option.some.inj hgo).symm
     have h2:=List.drop_eq_nil_iff.1 h1
     rw [List.length_map]
     refine Nat.le_antisymm h2 ?_
     exact Nat.le_of_eq (C0b _ _ _ _ _ h).symm
   exact ⟨.inl rfl,_,rfl, .inl (by rw [hL];exact hinv)⟩
noncomputable def A07 (x1:(List Int))(a1:(Int×CurvePiece)):Option (Stp (List Int) (List Int)):=
  (A8h x1 [a1.2.l]).bind fun v3=>some (.go v3)
noncomputable def A4k (p1:Curve):Option (List Int):=
  (A4j p1).bind fun v1=>cond (v1 !=0) (some []) (((B5r p1.Pts).bind fun v2=>loopL (A07) (fun (x1:(List Int))=>x1) v2 []).bind fun y1=>some y1)
theorem C0c (p1:Curve)(r:(List Int))(h:A4k p1=some r):PCall Tryz.prog 261 [(.agg [(.list (List.map A5a p1.Pts))])] (.list (List.map A5 r)):=by
 refine B8 (fk Tryz.func261 Tryz.ntmps261 (fun r=>if r==6 then [1003]else []) (by with_unfolding_all rfl)) (nl rfl) ?_
 unfold A4k at h
 refine B5 (s0:=⟨T [(0,(.d _))],G []⟩) (sbr rfl rfl) ?_
 refine lr (fun u1 hu1=>sn rfl rfl (sv rfl (A1 (A6 (lr (fun u2 hu2=>sd rfl (B2 rfl G_hit rfl rfl) (bs h fun v1 hv1 h=>B1 rfl rfl A2 (B58 _ _ hv1) (.inl rfl) (sv rfl (A1 (cc rfl h (fun c1 h=> ?_) (fun c1 h=> ?_)))))))))))
 refine lr (fun u3 hu3=>sv rfl (A1 (B3 ?_)))
 cases h
 exact A7 (.inr rfl) (B6 (B4 rfl) E1) DLe.nil
 refine A9 (lr (fun u4 hu4=>sn rfl rfl (A1 (A6 (lr (fun u5 hu5=>sd rfl (B2 rfl (gq rfl) rfl rfl) (B1 rfl rfl A2 (C63 p1) (.inl rfl) (A1 (bs h fun y1 hy1 h=>E0 (fun s=> ∃g1:Nat,Sb ⟨T [(3,(.ptr (3,u4) 0))],G [((3,u4),some (.box 48 [(oS y1 (17,g1))])),((17,g1),oB 2 1 A5 y1)]⟩ s) ?_ ?_)))))))))
 refine A8 (bs hy1 fun v2 hv2 hy1=>B5 (s0:=⟨T [(3,(.ptr _ _)),(10,(.d _))],G [((3,u4),some (.box 48 _))]⟩) (sbr rfl rfl) ?_)
 refine D39 (.fn (.func 260) [] [(.bp [(.list (List.map A5a p1.Pts))] 0)]) C7o v2 (A07) (fun (x1:(List Int))=>x1) (fun (x1:(List Int)) (g2:Nat)=> [((3,u4),some (.box 48 [(oS x1 (17,g2))])),((17,g2),oB 2 1 A5 x1)]) [] 0 _ rfl (C64 hv2) (fun _=>rfl) hy1 (G8 trivial (B0 G_hit (.of rfl) (Y3 trivial))) nofun ?_ ?_
 intro u7 hu7 hku7
 refine ⟨fun x1 g2=>(A4 rfl (A4 rfl rfl)),?_⟩
 intro r1 x1 g2 a1 z1 hrr1 hz1 ez1
 unfold A07 at hz1
 show AWL _ _ _ _ _ _ ⟨T [(12,(.d (.agg (C60 a1.2)))),(11,(di a1.1)),(3,(.ptr (3,u4) 0)),(10,(.d (.fn (.func 260) [] [(.bp [(.list (List.map A5a p1.Pts))] 0)])))],G [((1000000,u7),some (.obj (T [(3,(.ptr (3,u4) 0)),(10,(.d (.fn (.func 260) [] [(.bp [(.list (List.map A5a p1.Pts))] 0)])))]) r1)),((3,u4),some (.box 48 [(oS x1 (17,g2))])),((17,g2),oB 2 1 A5 x1)]⟩
 refine D0 fun u8 hu8=>sn rfl rfl (sst rfl G_hit (C61 a1.2) rfl (A1 (l_j (D0h (gq rfl) ?_))))
 refine A8 (D0 fun u9 hu9=>B9 (oS x1 (17,g2)) rfl (X1 rfl (gq rfl) rfl) (sp rfl rfl (sl rfl (gq rfl) rfl (B9 (dl A5 [a1.2.l]) rfl rfl (bs hz1 fun v3 hv3 hz1=>X0 A5 (17,g2) x1 a1.2.l [] _ (O2 (fun _=>rfl)) rfl (gq rfl) hv3 (sst rfl (gq rfl) [(.sl (17,u9))] rfl (A1 (F9 (G3 ?_)))))))))
 cases hz1
 exact D4j (gq rfl) u9 (B0 G_hit (.box (.cons (.of (A2r (A18 hv3)).symm) .nil)) (T1 (gq rfl) trivial))
 rintro x1 g2 _ rfl qx1
 refine F9 (l_j ?_)
 exact ⟨g2,(Sb.after qx1 (G8 ⟨.of rfl,trivial⟩ (B0 G_hit (.of rfl) (B7 (gq rfl) trivial))))⟩
 rintro _ ⟨g1,q1⟩
 refine B5 q1 (lr (fun u10 hu10=>B9 (oS y1 (17,g1)) rfl (X1 rfl G_hit rfl) (B9 (oS y1 (17,g1)) rfl rfl (A1 (B3 ?_)))))
 cases h
 exact A7 (.inr rfl) (B6 (B4 rfl) (A1x (gq rfl))) A1w
noncomputable def V9 (v1:(List Int))(x1:(Int×Int)):Option (Stp (Int×Int) Int):=
  cond (decide (x1.2< (v1.length:Int))) ((D6 v1 x1.2).bind fun v2=>some (.go ((w64 (x1.1+v2)),(w64 (x1.2+1))))) (some (.out x1.1))
noncomputable def A4l (p1:Curve):Option Int:=
  (A4k p1).bind fun v1=>(loop (V9 v1) (0,0)).bind fun y1=>some y1
theorem C0d (p1:Curve)(r:Int)(h:A4l p1=some r):PCall Tryz.prog 242 [(.agg [(.list (List.map A5a p1.Pts))])] (i64 r):=by
 refine B8 (fk Tryz.func242 Tryz.ntmps242 m0 (by with_unfolding_all rfl)) (nl rfl) ?_
 unfold A4l at h
 refine B5 (s0:=⟨T [(0,(.d _))],G []⟩) (sbr rfl rfl) ?_
 refine lr (fun u1 hu1=>sn rfl rfl (sv rfl (A1 (lr (fun u2 hu2=>sv rfl (A1 (A6 (lr (fun u3 hu3=>sd rfl (B2 rfl G_hit rfl rfl) (bs h fun v1 hv1 h=>B1 rfl rfl A2 (C0c _ _ hv1) (.inl rfl) (sd rfl (E5 rfl) (sv rfl (A1 (bs h fun y1 hy1 h=>E0 (fun s=> ∃g1:Unit,Sb ⟨T [(3,(di y1))],G []⟩ s) ?_ ?_))))))))))))))
 refine A8 (E7 (V9 v1) (fun (x1:(Int×Int)) (g2:Unit)=>⟨T [(3,(di x1.1)),(7,(dl A5 v1)),(8,(di (v1.length:Int))),(9,(di x1.2))],G []⟩) (0,0) () _ hy1 (sbr rfl rfl) ?_)
 intro x1 g2 z1 hz1 ez1
 unfold V9 at hz1
 refine lr (fun u4 hu4=>sv rfl (A1 (A6 (cc rfl hz1 (fun c1 hz1=> ?_) (fun c1 hz1=> ?_)))))
 refine A9 (A6 (A8 (lr (fun u5 hu5=>bs hz1 fun v2 hv2 hz1=>sd rfl (E4 rfl rfl hv2 rfl) (sd rfl (F3 rfl hv2 rfl) (sv rfl (A1 (D0 fun u6 hu6=>sv rfl (sv rfl (sv rfl (sv rfl (A1 (F9 (D0 fun u7 hu7=>sv rfl (sv rfl (A1 (G3 ?_)))))))))))))))))
 cases hz1
 exact ⟨rfl,(),(sbr rfl rfl)⟩
 refine C3 rfl ?_
 cases hz1
 obtain rfl:=ez1 _ rfl
 refine ⟨nofun,C0 rfl (l_j ?_)⟩
 exact ⟨(),(sbr rfl rfl)⟩
 rintro _ ⟨g1,q1⟩
 refine B5 q1 (lr (fun u8 hu8=>sv rfl (sv rfl (A1 (B3 ?_)))))
 cases h
 exact A7 (.inr rfl) (B6 (B4 rfl) E1) (.refl _)
noncomputable def A2v (p1:Map)(p2:Int):Option Int:=
  (D6 p1.Lanes p2).bind fun v1=>(A4l v1.Curve_).bind fun v2=>some v2
theorem A9i (p1:Map)(p2:Int)(r:Int)(h:A2v p1 p2=some r):PCall Tryz.prog 207 [(.agg (A4h p1)),(i64 p2)] (i64 r):=by
 refine B8 (fk Tryz.func207 Tryz.ntmps207 m0 (by with_unfolding_all rfl)) (nl rfl) ?_
 unfold A2v at h
 refine B5 (s0:=⟨T [(0,(.d _)),(1,(.d _))],G []⟩) (sbr rfl rfl) ?_
 refine lr (fun u1 hu1=>sn rfl rfl (sv rfl (A1 (lr (fun u2 hu2=>sp rfl rfl (sl rfl G_hit rfl (sv rfl (bs h fun v1 hv1 h=>sd rfl (E4 rfl rfl hv1 rfl) (sv rfl (sd rfl (C4 rfl hv1 rfl rfl) (bs h fun v2 hv2 h=>B1 rfl rfl A2 (C0d _ _ hv2) (.inl rfl) (sv rfl (A1 (B3 ?_))))))))))))))
 cases h
 exact A7 (.inr rfl) (B6 (B4 rfl) E1) (.refl _)
noncomputable def S3 (p1:RoadsCheck)(v1:Zone)(x3:Int):Option (Stp Int (Sum Unit Int)):=
  cond (decide (x3< (v1.Parts.length:Int))) ((D6 v1.Parts x3).bind fun v5=>((cond (!((decide (v5.From<0))||(decide (v5.From≥v5.To)))) (A2v p1.Map_ v5.Lane_) (some default))).bind fun v6=>cond (((((decide (v5.From<0))||(decide (v5.From≥v5.To)))||(decide (v5.To>v6)))||(decide (v5.Rank<0)))||(decide (v5.Rank>100))) (some (.out (.inr 2))) (some (.go (w64 (x3+1))))) (some (.out (.inl ())))
noncomputable def Z0 (v1:Zone)(x2:((List Int)×Int)):Option (Stp ((List Int)×Int) (List Int)):=
  cond (decide (x2.2< (v1.Parts.length:Int))) ((D6 v1.Parts x2.2).bind fun v2=>(A8h x2.1 [v2.Lane_]).bind fun v3=>some (.go (v3,(w64 (x2.2+1))))) (some (.out x2.1))
noncomputable def S4 (p1:RoadsCheck)(x1:Int):Option (Stp Int (Sum Unit Int)):=
  cond (decide (x1< (p1.Map_.Zones.length:Int))) ((D6 p1.Map_.Zones x1).bind fun v1=>cond (decide ((v1.Parts.length:Int)<2)) (some (.out (.inr 6))) (cond (decide ((v1.Parts.length:Int)>6)) (some (.out (.inr 8))) (cond ((decide (v1.Signal_<0))||(decide (v1.Signal_>(p1.Map_.Signals.length:Int)))) (some (.out (.inr 2))) ((loop (Z0 v1) ([],0)).bind fun y2=>(A21 y2 0 (p1.Map_.Lanes.length:Int)).bind fun v4=>cond (!v4) (some (.out (.inr 11))) (thenS (loop (S3 p1 v1) 0) (fun _=>some (.go (w64 (x1+1)))) (fun r=>some (.out (.inr r)))))))) (some (.out (.inl ())))
noncomputable def X4 (p1:RoadsCheck):Option Int:=
  thenS (loop (S4 p1) 0) (fun _=>some 0) (fun r=>some r)
theorem B4v (p1:RoadsCheck)(r:Int)(h:X4 p1=some r):PCall Tryz.prog 152 [(.agg (A4h p1.Map_))] (i64 r):=by
 refine B8 (fk Tryz.func152 Tryz.ntmps152 (fun r=>if r==15 then [1003]else []) (by with_unfolding_all rfl)) (nl rfl) ?_
 unfold X4 at h
 refine B5 (s0:=⟨T [(0,(.d _))],G []⟩) (sbr rfl rfl) ?_
 refine lr (fun u1 hu1=>sn rfl rfl (sv rfl (A1 (A6 (lr (fun u2 hu2=>sp rfl rfl (sp rfl rfl (sl rfl G_hit rfl (sd rfl (E5 rfl) (sv rfl (A1 (js h fun z1 hz1 h=>E0 (fun s=> ∃(y1:Unit) (g1:Unit),z1= .inl y1∧Sb ⟨T [],G []⟩ s) ?_ ?_))))))))))))
 refine A8 (E7 (S4 p1) (fun (x1:Int) (g2:Unit)=>⟨T [(1,(.ptr (1,u1) 0)),(13,(dl A7r p1.Map_.Zones)),(14,(di (p1.Map_.Zones.length:Int))),(15,(di x1))],G [((1,u1),some (.box 212 (A0i p1.Map_)))]⟩) 0 () _ hz1 (sbr rfl rfl) ?_)
 intro x1 g2 z2 hz2 ez2
 unfold S4 at hz2
 refine lr (fun u3 hu3=>sv rfl (A1 (A6 (cc rfl hz2 (fun c1 hz2=> ?_) (fun c1 hz2=> ?_)))))
 refine A9 (A6 (A8 (lr (fun u4 hu4=>bs hz2 fun v1 hv1 hz2=>sd rfl (E4 rfl rfl hv1 rfl) (sd rfl (C4 rfl hv1 rfl rfl) (sn rfl rfl (sst rfl G_hit [(dl A6b v1.Parts),(di v1.Signal_)] rfl (A1 (A6 (lr (fun u5 hu5=>sp rfl rfl (sl rfl G_hit rfl (sd rfl (E5 rfl) (sv rfl (A1 (A8 (lr (fun u6 hu6=>sv rfl (sv rfl (sv rfl (A1 (cc rfl hz2 (fun c2 hz2=> ?_) (fun c2 hz2=> ?_)))))))))))))))))))))))
 refine lr (fun u7 hu7=>sv rfl (A1 (B3 ?_)))
 cases hz2
 obtain rfl:=ez2 _ rfl
 refine ⟨nofun,D7 ?_⟩
 rw [Sum.elim_inr]at h
 cases h
 exact A7 (.inr rfl) (B6 (B4 rfl) E1) (.refl _)
 refine lr (fun u8 hu8=>sv rfl (sv rfl (sv rfl (A1 (cc rfl hz2 (fun c3 hz2=> ?_) (fun c3 hz2=> ?_))))))
 refine lr (fun u9 hu9=>sv rfl (A1 (B3 ?_)))
 cases hz2
 obtain rfl:=ez2 _ rfl
 refine ⟨nofun,D7 ?_⟩
 rw [Sum.elim_inr]at h
 cases h
 exact A7 (.inr rfl) (B6 (B4 rfl) E1) (.refl _)
 refine lr (fun u10 hu10=>sp rfl rfl (sl rfl G_hit rfl (sv rfl (sv rfl (gp rfl (T8 rfl) (fun _=>rfl) (gf rfl (vl rfl G_hit rfl) (gp rfl (T8 rfl) (fun _=>rfl) ?_)))))))
 refine Z7 _ (.ptr _ _) rfl (T8 rfl) (fun w4=>(by simp only [A3 w4];rfl)) ?_
 refine gf rfl (vl rfl (gq rfl) rfl) (gf rfl (fun w6=>(E5 (A3 w6))) (gf rfl (fun w7=>(V8 (A3 w7) (A3 w7) rfl)) (sd rfl (A0u rfl rfl (fun hc=>A3 (L6 hc))) (sv rfl (A1 (cc rfl hz2 (fun c4 hz2=> ?_) (fun c4 hz2=> ?_)))))))
 refine lr (fun u11 hu11=>sv rfl (A1 (B3 ?_)))
 cases hz2
 obtain rfl:=ez2 _ rfl
 refine ⟨nofun,D7 ?_⟩
 rw [Sum.elim_inr]at h
 cases h
 exact A7 (.inr rfl) (B6 (B4 rfl) E1) (.refl _)
 refine A9 (F9 (lr (fun u12 hu12=>sv rfl (A1 (A6 (lr (fun u13 hu13=>sp rfl rfl (sl rfl G_hit rfl (sd rfl (E5 rfl) (sv rfl (A1 (bs hz2 fun y2 hy2 hz2=>E0 (fun s=> ∃g3:Nat,Sb ⟨T [(1,(.ptr (1,u1) 0)),(4,(.ptr (4,u4) 0)),(6,(oS y2 (52,g3))),(13,(dl A7r p1.Map_.Zones)),(14,(di (p1.Map_.Zones.length:Int))),(15,(di x1))],G [((1,u1),some (.box 212 (A0i p1.Map_))),((4,u4),some (.box 117 [(dl A6b v1.Parts),(di v1.Signal_)])),((52,g3),oB 3 1 A5 y2)]⟩ s) ?_ ?_))))))))))))
 refine A8 (E7 (Z0 v1) (fun (x2:((List Int)×Int)) (g4:Nat)=>⟨T [(1,(.ptr (1,u1) 0)),(4,(.ptr (4,u4) 0)),(6,(oS x2.1 (52,g4))),(13,(dl A7r p1.Map_.Zones)),(14,(di (p1.Map_.Zones.length:Int))),(15,(di x1)),(42,(dl A6b v1.Parts)),(43,(di (v1.Parts.length:Int))),(44,(di x2.2))],G [((1,u1),some (.box 212 (A0i p1.Map_))),((4,u4),some (.box 117 [(dl A6b v1.Parts),(di v1.Signal_)])),((52,g4),oB 3 1 A5 x2.1)]⟩) ([],0) 0 _ hy2 (G8 ⟨.of rfl, .of rfl, .of rfl, .of rfl, .of rfl, .of rfl, .of rfl, .of rfl, .of rfl,trivial⟩ (sg rfl (B0 G_hit (.of rfl) (Y3 trivial)))) ?_)
 intro x2 g4 z3 hz3 ez3
 unfold Z0 at hz3
 refine lr (fun u14 hu14=>sv rfl (A1 (A6 (cc rfl hz3 (fun c5 hz3=> ?_) (fun c5 hz3=> ?_)))))
 refine A9 (A6 (A8 (lr (fun u15 hu15=>bs hz3 fun v2 hv2 hz3=>sd rfl (E4 rfl rfl hv2 rfl) (sd rfl (C4 rfl hv2 rfl rfl) (sn rfl rfl (sst rfl G_hit (C62 v2) rfl (A1 (D0 fun u16 hu16=>B9 (oS x2.1 (52,g4)) rfl rfl (sp rfl rfl (sl rfl G_hit rfl (B9 (dl A5 [v2.Lane_]) rfl rfl (bs hz3 fun v3 hv3 hz3=>X0 A5 (52,g4) x2.1 v2.Lane_ [] _ (O2 (fun _=>rfl)) rfl (gq rfl) hv3 (ss rfl (A1 (F9 (D0 fun u17 hu17=>sv rfl (sv rfl (A1 (G3 ?_))))))))))))))))))))
 cases hz3
 exact ⟨rfl,u16,(G8 ⟨.of rfl, .of rfl,(.of (A2r (A18 hv3)).symm), .of rfl, .of rfl, .of rfl, .of rfl, .of rfl, .of rfl,trivial⟩ (sg rfl (sg rfl (T1 G_hit trivial))))⟩
 refine C3 rfl ?_
 cases hz3
 obtain rfl:=ez3 _ rfl
 refine ⟨nofun,C0 rfl (l_j ?_)⟩
 exact ⟨g4,(G8 ⟨.of rfl, .of rfl, .of rfl, .of rfl, .of rfl, .of rfl,trivial⟩ (B0 G_hit (.of rfl) (sg rfl (B7 (gq rfl) trivial))))⟩
 rintro _ ⟨g3,q1⟩
 refine B5 q1 (A6 (lr (fun u18 hu18=>B9 (oS y2 (52,g3)) rfl rfl (sp rfl rfl (sp rfl rfl (sl rfl G_hit rfl (sd rfl (E5 rfl) (bs hz2 fun v4 hv4 hz2=>B1 rfl (C9 (A1x (gq rfl)) (rD (rD E2))) (.cons A1w (.cons (.refl _) A2)) (B05 _ _ _ _ hv4) (.inr rfl) (B9 (.d (bo (!v4))) rfl rfl (A1 (cc rfl hz2 (fun c6 hz2=> ?_) (fun c6 hz2=> ?_))))))))))))
 refine lr (fun u19 hu19=>sv rfl (A1 (B3 ?_)))
 cases hz2
 obtain rfl:=ez2 _ rfl
 refine ⟨nofun,D7 ?_⟩
 rw [Sum.elim_inr]at h
 cases h
 exact A7 (.inr rfl) (B6 (B4 rfl) E1) (.refl _)
 refine A9 (lr (fun u20 hu20=>sp rfl rfl (sl rfl (gq rfl) rfl (sd rfl (E5 rfl) (sv rfl (A1 (js hz2 fun z4 hz4 hz2=>E0 (fun s=> ∃(y3:Unit) (g5:Unit),z4= .inl y3∧Sb ⟨T [(1,(.ptr (1,u1) 0)),(13,(dl A7r p1.Map_.Zones)),(14,(di (p1.Map_.Zones.length:Int))),(15,(di x1))],G [((1,u1),some (.box 212 (A0i p1.Map_)))]⟩ s) ?_ ?_)))))))
 refine A8 (E7 (S3 p1 v1) (fun (x3:Int) (g6:Unit)=>⟨T [(1,(.ptr (1,u1) 0)),(13,(dl A7r p1.Map_.Zones)),(14,(di (p1.Map_.Zones.length:Int))),(15,(di x1)),(62,(dl A6b v1.Parts)),(63,(di (v1.Parts.length:Int))),(64,(di x3))],G [((1,u1),some (.box 212 (A0i p1.Map_)))]⟩) 0 () _ hz4 (sbr rfl rfl) ?_)
 intro x3 g6 z5 hz5 ez5
 unfold S3 at hz5
 refine lr (fun u21 hu21=>sv rfl (A1 (A6 (cc rfl hz5 (fun c7 hz5=> ?_) (fun c7 hz5=> ?_)))))
 refine A9 (A6 (A8 (lr (fun u22 hu22=>bs hz5 fun v5 hv5 hz5=>sd rfl (E4 rfl rfl hv5 rfl) (sd rfl (C4 rfl hv5 rfl rfl) (sn rfl rfl (sst rfl G_hit (C62 v5) rfl (A1 (A6 (I6 rfl fun u23 hu23=>sp rfl rfl (sl rfl G_hit rfl (sv rfl (sv rfl (gp rfl (T8 rfl) (fun _=>rfl) (gf rfl (vl rfl G_hit rfl) (gp rfl (T8 rfl) (fun _=>rfl) (gf rfl (vl rfl G_hit rfl) (gf rfl (fun w12=>(V8 (A3 w12) (A3 w12) rfl)) (sd rfl (A0u rfl rfl (fun hc=>A3 (L6 hc))) (sv rfl (gp rfl (T8 rfl) (fun _=>rfl) (gf rfl (vl rfl G_hit rfl) (gp rfl (T8 rfl) (fun _=>rfl) (gf rfl (fun w16=>(B2 (A3 w16) (gq rfl) rfl rfl)) (gp rfl (T8 rfl) (fun _=>rfl) (gf rfl (vl rfl G_hit rfl) (bs hz5 fun v6 hv6 hz5=> ?_)))))))))))))))))))))))))))
 refine U8 _ (i64 v6) (T8 rfl) (fun w19=>⟨_,[(.d (.agg (A4h p1.Map_))),(di v5.Lane_)],_,_,(by simp only [A3 w19];rfl),rfl,A2,A9i _ _ _ (C7 w19 hv6),(.inl rfl)⟩) ?_
 refine gf rfl (fun w20=>(V8 (A3 w20) (A3 w20) rfl)) (sd rfl (A0u rfl rfl (fun hc=>A3 (L6 hc))) (sv rfl (gp rfl (T8 rfl) (fun _=>rfl) (gf rfl (vl rfl G_hit rfl) (gf rfl (vb rfl rfl rfl) (sd rfl (A0u rfl rfl (fun hc=>A3 (L6 hc))) (sv rfl (gp rfl (T8 rfl) (fun _=>rfl) (gf rfl (vl rfl G_hit rfl) (gf rfl (vb rfl rfl rfl) (sd rfl (A0u rfl rfl (fun hc=>A3 (L6 hc))) (A1 (cc rfl hz5 (fun c8 hz5=> ?_) (fun c8 hz5=> ?_))))))))))))))
 refine lr (fun u24 hu24=>sv rfl (A1 (B3 ?_)))
 cases hz5
 obtain rfl:=ez5 _ rfl
 refine ⟨nofun,D7 ?_⟩
 rw [Sum.elim_inr]at hz2
 cases hz2
 obtain rfl:=ez2 _ rfl
 refine ⟨nofun,D7 ?_⟩
 rw [Sum.elim_inr]at h
 cases h
 exact A7 (.inr rfl) (B6 (B4 rfl) E1) (.refl _)
 refine A9 (F9 (D0 fun u25 hu25=>sv rfl (sv rfl (A1 (G3 ?_)))))
 cases hz5
 exact ⟨rfl,(),(sbr rfl rfl)⟩
 refine C3 rfl ?_
 cases hz5
 obtain rfl:=ez5 _ rfl
 refine ⟨nofun,C0 rfl (l_j ?_)⟩
 exact ⟨_,(),rfl,(sbr rfl rfl)⟩
 rintro _ ⟨y3,g5,rfl,q2⟩
 rw [Sum.elim_inl]at hz2
 refine F9 (B5 q2 (D0 fun u26 hu26=>sv rfl (sv rfl (A1 (G3 ?_)))))
 cases hz2
 exact ⟨rfl,(),(sbr rfl rfl)⟩
 refine C3 rfl ?_
 cases hz2
 obtain rfl:=ez2 _ rfl
 refine ⟨nofun,C0 rfl (l_j ?_)⟩
 exact ⟨_,(),rfl,(sbr rfl rfl)⟩
 rintro _ ⟨y1,g1,rfl,q3⟩
 rw [Sum.elim_inl]at h
 refine B5 q3 (lr (fun u27 hu27=>sv rfl (A1 (B3 ?_))))
 cases h
 exact A7 (.inr rfl) (B6 (B4 rfl) E1) (.refl _)
noncomputable def S5 (p1:RoadsCheck)(x1:Int):Option (Stp Int (Sum Unit Int)):=
  cond (decide (x1< (p1.Map_.Works.length:Int))) ((D6 p1.Map_.Works x1).bind fun v1=>cond ((decide (v1.Lane_<0))||(decide (v1.Lane_≥(p1.Map_.Lanes.length:Int)))) (some (.out (.inr 7))) ((D6 p1.Map_.Lanes v1.Lane_).bind fun v2=>(A0y v2.Kind).bind fun v3=>((cond (!((decide (v1.From<0))||(decide (v1.From>v1.To)))) (A2v p1.Map_ v1.Lane_) (some default))).bind fun v4=>((cond (!((((((decide (v1.From<0))||(decide (v1.From>v1.To)))||(decide (v1.To>v4)))||(decide (v1.Begin<0)))||(decide (v1.Begin≥v1.End)))||(decide (v1.End>1099511627776)))) (A05 v1.Limit 0 v3.1) (some default))).bind fun v5=>cond (((((((decide (v1.From<0))||(decide (v1.From>v1.To)))||(decide (v1.To>v4)))||(decide (v1.Begin<0)))||(decide (v1.Begin≥v1.End)))||(decide (v1.End>1099511627776)))||(!v5)) (some (.out (.inr 2))) (some (.go (w64 (x1+1)))))) (some (.out (.inl ())))
noncomputable def X5 (p1:RoadsCheck):Option Int:=
  thenS (loop (S5 p1) 0) (fun _=>some 0) (fun r=>some r)
theorem B4w (p1:RoadsCheck)(r:Int)(h:X5 p1=some r):PCall Tryz.prog 153 [(.agg (A4h p1.Map_))] (i64 r):=by
 refine B8 (fk Tryz.func153 Tryz.ntmps153 m0 (by with_unfolding_all rfl)) (nl rfl) ?_
 unfold X5 at h
 refine B5 (s0:=⟨T [(0,(.d _))],G []⟩) (sbr rfl rfl) ?_
 refine lr (fun u1 hu1=>sn rfl rfl (sv rfl (A1 (A6 (lr (fun u2 hu2=>sp rfl rfl (sp rfl rfl (sl rfl G_hit rfl (sd rfl (E5 rfl) (sv rfl (A1 (js h fun z1 hz1 h=>E0 (fun s=> ∃(y1:Unit) (g1:Unit),z1= .inl y1∧Sb ⟨T [],G []⟩ s) ?_ ?_))))))))))))
 refine A8 (E7 (S5 p1) (fun (x1:Int) (g2:Unit)=>⟨T [(1,(.ptr (1,u1) 0)),(10,(dl B7q p1.Map_.Works)),(11,(di (p1.Map_.Works.length:Int))),(12,(di x1))],G [((1,u1),some (.box 212 (A0i p1.Map_)))]⟩) 0 () _ hz1 (sbr rfl rfl) ?_)
 intro x1 g2 z2 hz2 ez2
 unfold S5 at hz2
 refine lr (fun u3 hu3=>sv rfl (A1 (A6 (cc rfl hz2 (fun c1 hz2=> ?_) (fun c1 hz2=> ?_)))))
 refine A9 (A6 (A8 (lr (fun u4 hu4=>bs hz2 fun v1 hv1 hz2=>sd rfl (E4 rfl rfl hv1 rfl) (sd rfl (C4 rfl hv1 rfl rfl) (sn rfl rfl (sst rfl G_hit (D8z v1) rfl (A1 (A6 (lr (fun u5 hu5=>sp rfl rfl (sl rfl G_hit rfl (sv rfl (sv rfl (gp rfl (T8 rfl) (fun _=>rfl) (gf rfl (vl rfl G_hit rfl) (gp rfl (T8 rfl) (fun _=>rfl) ?_)))))))))))))))))
 refine Z7 _ (.ptr _ _) rfl (T8 rfl) (fun w4=>(by simp only [A3 w4];rfl)) ?_
 refine gf rfl (vl rfl (gq rfl) rfl) (gf rfl (fun w6=>(E5 (A3 w6))) (gf rfl (fun w7=>(V8 (A3 w7) (A3 w7) rfl)) (sd rfl (A0u rfl rfl (fun hc=>A3 (L6 hc))) (A1 (cc rfl hz2 (fun c2 hz2=> ?_) (fun c2 hz2=> ?_))))))
 refine lr (fun u6 hu6=>sv rfl (A1 (B3 ?_)))
 cases hz2
 obtain rfl:=ez2 _ rfl
 refine ⟨nofun,D7 ?_⟩
 rw [Sum.elim_inr]at h
 cases h
 exact A7 (.inr rfl) (B6 (B4 rfl) E1) (.refl _)
 refine A9 (lr (fun u7 hu7=>sp rfl rfl (sp rfl rfl (sl rfl (gq rfl) rfl (sp rfl rfl (sl rfl G_hit rfl (bs hz2 fun v2 hv2 hz2=>sd rfl (E4 rfl rfl hv2 rfl) (sv rfl (sd rfl (F3 rfl hv2 rfl) (bs hz2 fun v3 hv3 hz2=>B1 rfl rfl A2 (A73 _ _ hv3) (.inl rfl) (sv rfl (sv rfl (sv rfl (sv rfl (sv rfl (sv rfl (sv rfl (A1 (A6 (I6 rfl fun u8 hu8=>sp rfl rfl (sl rfl G_hit rfl (sv rfl (sv rfl (gp rfl (T8 rfl) (fun _=>rfl) (gf rfl (vl rfl G_hit rfl) (gp rfl (T8 rfl) (fun _=>rfl) (gf rfl (vl rfl G_hit rfl) (gf rfl (fun w12=>(V8 (A3 w12) (A3 w12) rfl)) (sd rfl (A0u rfl rfl (fun hc=>A3 (L6 hc))) (sv rfl (gp rfl (T8 rfl) (fun _=>rfl) (gf rfl (vl rfl G_hit rfl) (gp rfl (T8 rfl) (fun _=>rfl) (gf rfl (fun w16=>(B2 (A3 w16) (gq rfl) rfl rfl)) (gp rfl (T8 rfl) (fun _=>rfl) (gf rfl (vl rfl G_hit rfl) (bs hz2 fun v4 hv4 hz2=> ?_)))))))))))))))))))))))))))))))))))))
 refine U8 _ (i64 v4) (T8 rfl) (fun w19=>⟨_,[(.d (.agg (A4h p1.Map_))),(di v1.Lane_)],_,_,(by simp only [A3 w19];rfl),rfl,A2,A9i _ _ _ (C7 w19 hv4),(.inl rfl)⟩) ?_
 refine gf rfl (fun w20=>(V8 (A3 w20) (A3 w20) rfl)) (sd rfl (A0u rfl rfl (fun hc=>A3 (L6 hc))) (sv rfl (gp rfl (T8 rfl) (fun _=>rfl) (gf rfl (vl rfl G_hit rfl) (gf rfl (vb rfl rfl rfl) (sd rfl (A0u rfl rfl (fun hc=>A3 (L6 hc))) (sv rfl (gp rfl (T8 rfl) (fun _=>rfl) (gf rfl (vl rfl G_hit rfl) (gp rfl (T8 rfl) (fun _=>rfl) (gf rfl (vl rfl G_hit rfl) (gf rfl (fun w28=>(V8 (A3 w28) (A3 w28) rfl)) (sd rfl (A0u rfl rfl (fun hc=>A3 (L6 hc))) (sv rfl (gp rfl (T8 rfl) (fun _=>rfl) (gf rfl (vl rfl G_hit rfl) (gf rfl (vb rfl rfl rfl) (sd rfl (A0u rfl rfl (fun hc=>A3 (L6 hc))) (sv rfl (gp rfl (T8 rfl) (fun _=>rfl) (gf rfl (vl rfl G_hit rfl) (gf rfl (fun _=>rfl) (bs hz2 fun v5 hv5 hz2=> ?_)))))))))))))))))))))))
 refine U8 _ (bo v5) (T8 rfl) (fun w35=>⟨_,[(di v1.Limit),(di 0),(di v3.1)],_,_,(by simp only [A3 w35];rfl),rfl,A2,A2u _ _ _ _ (C7 w35 hv5),(.inl rfl)⟩) ?_
 refine Z7 _ (.d (bo (!v5))) rfl (T8 rfl) (fun w36=>(by simp only [A3 w36];rfl)) ?_
 refine sd rfl (A0u rfl rfl (fun hc=>A3 (L6 hc))) (A1 (cc rfl hz2 (fun c3 hz2=> ?_) (fun c3 hz2=> ?_)))
 refine A6 (B5 (s0:=⟨T [],G []⟩) (sbr rfl rfl) ?_)
 refine D0 fun u9 hu9=>sv rfl (A1 (B3 ?_))
 cases hz2
 obtain rfl:=ez2 _ rfl
 refine ⟨nofun,D7 ?_⟩
 rw [Sum.elim_inr]at h
 cases h
 exact A7 (.inr rfl) (B6 (B4 rfl) E1) (.refl _)
 refine A9 (F9 (B5 (s0:=⟨T [(1,(.ptr _ _)),(10,(.d _)),(11,(.d _)),(12,(.d _))],G [((1,u1),some (.box 212 _))]⟩) (sbr rfl rfl) ?_))
 refine D0 fun u10 hu10=>sv rfl (sv rfl (A1 (G3 ?_)))
 cases hz2
 exact ⟨rfl,(),(sbr rfl rfl)⟩
 refine C3 rfl ?_
 cases hz2
 obtain rfl:=ez2 _ rfl
 refine ⟨nofun,C0 rfl (l_j ?_)⟩
 exact ⟨_,(),rfl,(sbr rfl rfl)⟩
 rintro _ ⟨y1,g1,rfl,q1⟩
 rw [Sum.elim_inl]at h
 refine B5 q1 (lr (fun u11 hu11=>sv rfl (A1 (B3 ?_))))
 cases h
 exact A7 (.inr rfl) (B6 (B4 rfl) E1) (.refl _)
noncomputable def U9 (v:Nat)(p1:RoadsCheck):Option Int:=
  cond (Nat.beq v 148) (U0 p1) (cond (Nat.beq v 149) (X2 p1) (cond (Nat.beq v 150) (V5 p1) (cond (Nat.beq v 151) (U1 p1) (cond (Nat.beq v 152) (X4 p1) (cond (Nat.beq v 153) (X5 p1) (none))))))
theorem A90 (v:Nat)(p1:RoadsCheck)(r:Int)(h:U9 v p1=some r):PCall Tryz.prog v [(.agg [(i64 p1.Map_.Version),(.list (List.map A7q p1.Map_.Lanes)),(.list (List.map A7r p1.Map_.Zones)),(.list (List.map B00 p1.Map_.Signals)),(.list (List.map B7q p1.Map_.Works))])] (i64 r):=by
  unfold U9 at h
  rcases C1z h with ⟨rfl,h⟩|⟨_,h⟩
  ·exact B3r _ r h
  rcases C1z h with ⟨rfl,h⟩|⟨_,h⟩
  ·exact B4u _ r h
  rcases C1z h with ⟨rfl,h⟩|⟨_,h⟩
  ·exact B40 _ r h
  rcases C1z h with ⟨rfl,h⟩|⟨_,h⟩
  ·exact B3s _ r h
  rcases C1z h with ⟨rfl,h⟩|⟨_,h⟩
  ·exact B4v _ r h
  rcases C1z h with ⟨rfl,h⟩|⟨_,h⟩
  ·exact B4w _ r h
  cases h
noncomputable def N9 (p1:Map)(x1:Int):Option (Stp Int (Sum Unit Int)):=
  cond (decide (x1< ([148,149,150,151,152,153].length:Int))) ((D6 [148,149,150,151,152,153] x1).bind fun v1=>(U9 v1 (RoadsCheck.mk p1)).bind fun v2=>cond (v2 !=0) (some (.out (.inr v2))) (some (.go (w64 (x1+1))))) (some (.out (.inl ())))
noncomputable def A3c (p1:Map):Option Int:=
  thenS (loop (N9 p1) 0) (fun _=>some 0) (fun r=>some r)
theorem B1f (p1:Map)(r:Int)(h:A3c p1=some r):PCall Tryz.prog 71 [(.agg (A4h p1))] (i64 r):=by
 refine B8 (fk Tryz.func71 Tryz.ntmps71 (fun r=>if r==1 then [1000]else []) (by with_unfolding_all rfl)) (nl rfl) ?_
 unfold A3c at h
 refine B5 (s0:=⟨T [(0,(.d _))],G []⟩) (sbr rfl rfl) ?_
 refine lr (fun u1 hu1=>sn rfl rfl (sv rfl (A1 (A6 (lr (fun u2 hu2=>B9 (dl eFn [148,149,150,151,152,153]) rfl rfl (sd rfl (E5 rfl) (sv rfl (A1 (js h fun z1 hz1 h=>E0 (fun s=> ∃(y1:Unit) (g1:Unit),z1= .inl y1∧Sb ⟨T [],G []⟩ s) ?_ ?_))))))))))
 refine A8 (E7 (N9 p1) (fun (x1:Int) (g2:Unit)=>⟨T [(1,(.ptr (1,u1) 0)),(6,(dl eFn [148,149,150,151,152,153])),(7,(di ([148,149,150,151,152,153].length:Int))),(8,(di x1))],G [((1,u1),some (.box 33 (A0i p1)))]⟩) 0 () _ hz1 (sbr rfl rfl) ?_)
 intro x1 g2 z2 hz2 ez2
 unfold N9 at hz2
 refine lr (fun u3 hu3=>sv rfl (A1 (A6 (cc rfl hz2 (fun c1 hz2=> ?_) (fun c1 hz2=> ?_)))))
 refine A9 (A6 (A8 (lr (fun u4 hu4=>bs hz2 fun v1 hv1 hz2=>sd rfl (E4 rfl rfl hv1 rfl) (sd rfl (F3 rfl hv1 rfl) (sv rfl (A1 (lr (fun u5 hu5=>sv rfl (sd rfl (B2 rfl G_hit rfl rfl) (sv rfl (bs hz2 fun v2 hv2 hz2=>B1 rfl rfl A2 (A90 _ _ _ hv2) (.inl rfl) (sv rfl (A1 (lr (fun u6 hu6=>sv rfl (sv rfl (A1 (cc rfl hz2 (fun c2 hz2=> ?_) (fun c2 hz2=> ?_))))))))))))))))))))
 refine lr (fun u7 hu7=>sv rfl (sv rfl (A1 (B3 ?_))))
 cases hz2
 obtain rfl:=ez2 _ rfl
 refine ⟨nofun,D7 ?_⟩
 rw [Sum.elim_inr]at h
 cases h
 exact A7 (.inr rfl) (B6 (B4 rfl) E1) (.refl _)
 refine A9 (F9 (D0 fun u8 hu8=>sv rfl (sv rfl (A1 (G3 ?_)))))
 cases hz2
 exact ⟨rfl,(),(sbr rfl rfl)⟩
 refine C3 rfl ?_
 cases hz2
 obtain rfl:=ez2 _ rfl
 refine ⟨nofun,C0 rfl (l_j ?_)⟩
 exact ⟨_,(),rfl,(sbr rfl rfl)⟩
 rintro _ ⟨y1,g1,rfl,q1⟩
 rw [Sum.elim_inl]at h
 refine B5 q1 (lr (fun u9 hu9=>sv rfl (A1 (B3 ?_))))
 cases h
 exact A7 (.inr rfl) (B6 (B4 rfl) E1) (.refl _)
noncomputable def Q7 (p1:(List Int))(p2:Int)(x1:Int):Option (Stp Int (Sum Unit Int)):=
  cond (decide (x1< (p1.length:Int))) ((D6 p1 x1).bind fun v1=>cond (p2==v1) (some (.out (.inr x1))) (some (.go (w64 (x1+1))))) (some (.out (.inl ())))
noncomputable def V1 (p1:(List Int))(p2:Int):Option Int:=
  thenS (loop (Q7 p1 p2) 0) (fun _=>some (-1)) (fun r=>some r)
theorem A75 (p1:(List Int))(p2:Int)(r:Int)(h:V1 p1 p2=some r):PCall Tryz.prog 244 [(.list (List.map A5 p1)),(i64 p2)] (i64 r):=by
 refine B8 (fk Tryz.func244 Tryz.ntmps244 m0 (by with_unfolding_all rfl)) (nl rfl) ?_
 unfold V1 at h
 refine B5 (s0:=⟨T [(0,(.d _)),(1,(.d _))],G []⟩) (sbr rfl rfl) ?_
 refine lr (fun u1 hu1=>sv rfl (A1 (A6 (lr (fun u2 hu2=>sv rfl (sd rfl (E5 rfl) (sv rfl (A1 (js h fun z1 hz1 h=>E0 (fun s=> ∃(y1:Unit) (g1:Unit),z1= .inl y1∧Sb ⟨T [],G []⟩ s) ?_ ?_)))))))))
 refine A8 (E7 (Q7 p1 p2) (fun (x1:Int) (g2:Unit)=>⟨T [(0,(dl A5 p1)),(1,(di p2)),(7,(di (p1.length:Int))),(8,(di x1))],G []⟩) 0 () _ hz1 (sbr rfl rfl) ?_)
 intro x1 g2 z2 hz2 ez2
 unfold Q7 at hz2
 refine lr (fun u3 hu3=>sv rfl (A1 (A6 (cc rfl hz2 (fun c1 hz2=> ?_) (fun c1 hz2=> ?_)))))
 refine A9 (A6 (A8 (lr (fun u4 hu4=>sv rfl (sv rfl (A1 (lr (fun u5 hu5=>sv rfl (sv rfl (sv rfl (bs hz2 fun v1 hv1 hz2=>sd rfl (E4 rfl rfl hv1 rfl) (sd rfl (F3 rfl hv1 rfl) (sv rfl (A1 (cc rfl hz2 (fun c2 hz2=> ?_) (fun c2 hz2=> ?_))))))))))))))))
 refine lr (fun u6 hu6=>sv rfl (sv rfl (A1 (B3 ?_))))
 cases hz2
 obtain rfl:=ez2 _ rfl
 refine ⟨nofun,D7 ?_⟩
 rw [Sum.elim_inr]at h
 cases h
 exact A7 (.inr rfl) (B6 (B4 rfl) E1) (.refl _)
 refine A9 (F9 (D0 fun u7 hu7=>sv rfl (sv rfl (A1 (G3 ?_)))))
 cases hz2
 exact ⟨rfl,(),(sbr rfl rfl)⟩
 refine C3 rfl ?_
 cases hz2
 obtain rfl:=ez2 _ rfl
 refine ⟨nofun,C0 rfl (l_j ?_)⟩
 exact ⟨_,(),rfl,(sbr rfl rfl)⟩
 rintro _ ⟨y1,g1,rfl,q1⟩
 rw [Sum.elim_inl]at h
 refine B5 q1 (lr (fun u8 hu8=>sv rfl (A1 (B3 ?_))))
 cases h
 exact A7 (.inr rfl) (B6 (B4 rfl) E1) (.refl _)
noncomputable def L8 (p1:(List Int))(p2:Int):Option Bool:=
  (V1 p1 p2).bind fun v1=>some (decide (v1≥0))
theorem A1m (p1:(List Int))(p2:Int)(r:Bool)(h:L8 p1 p2=some r):PCall Tryz.prog 215 [(.list (List.map A5 p1)),(i64 p2)] (bo r):=by
 refine B8 (fk Tryz.func215 Tryz.ntmps215 m0 (by with_unfolding_all rfl)) (nl rfl) ?_
 unfold L8 at h
 refine B5 (s0:=⟨T [(0,(.d _)),(1,(.d _))],G []⟩) (sbr rfl rfl) ?_
 refine lr (fun u1 hu1=>sv rfl (A1 (lr (fun u2 hu2=>sv rfl (sv rfl (bs h fun v1 hv1 h=>B1 rfl rfl A2 (A75 _ _ _ hv1) (.inl rfl) (sv rfl (sv rfl (A1 (B3 ?_))))))))))
 cases h
 exact A7 (.inr rfl) (B6 (B4 rfl) E1) (.refl _)
noncomputable def A1b (p1:Map)(p2:Int)(x1:((List Int)×Int)):Option (Stp ((List Int)×Int) (List Int)):=
  cond (decide (x1.2< (p1.Lanes.length:Int))) ((D6 p1.Lanes x1.2).bind fun v1=>(L8 v1.Next p2).bind fun v2=>cond v2 ((A8h x1.1 [x1.2]).bind fun v3=>some (.go (v3,(w64 (x1.2+1))))) (some (.go (x1.1,(w64 (x1.2+1)))))) (some (.out x1.1))
noncomputable def A4m (p1:Map)(p2:Int):Option (List Int):=
  (loop (A1b p1 p2) ([],0)).bind fun y1=>some y1
theorem C0e (p1:Map)(p2:Int)(r:(List Int))(h:A4m p1 p2=some r):PCall Tryz.prog 214 [(.agg (A4h p1)),(i64 p2)] (.list (List.map A5 r)):=by
 refine B8 (fk Tryz.func214 Tryz.ntmps214 (fun r=>if r==6 then [1002]else []) (by with_unfolding_all rfl)) (nl rfl) ?_
 unfold A4m at h
 refine B5 (s0:=⟨T [(0,(.d _)),(1,(.d _))],G []⟩) (sbr rfl rfl) ?_
 refine lr (fun u1 hu1=>sn rfl rfl (sv rfl (A1 (lr (fun u2 hu2=>sv rfl (A1 (A6 (lr (fun u3 hu3=>sp rfl rfl (sl rfl G_hit rfl (sd rfl (E5 rfl) (sv rfl (A1 (bs h fun y1 hy1 h=>E0 (fun s=> ∃g1:Nat,Sb ⟨T [(5,(oS y1 (23,g1)))],G [((23,g1),oB 3 1 A5 y1)]⟩ s) ?_ ?_))))))))))))))
 refine A8 (E7 (A1b p1 p2) (fun (x1:((List Int)×Int)) (g2:Nat)=>⟨T [(1,(di p2)),(5,(oS x1.1 (23,g2))),(9,(dl A7q p1.Lanes)),(10,(di (p1.Lanes.length:Int))),(11,(di x1.2))],G [((23,g2),oB 3 1 A5 x1.1)]⟩) ([],0) 0 _ hy1 (G8 ⟨.of rfl, .of rfl, .of rfl, .of rfl, .of rfl,trivial⟩ (Y3 trivial)) ?_)
 intro x1 g2 z1 hz1 ez1
 unfold A1b at hz1
 refine lr (fun u4 hu4=>sv rfl (A1 (A6 (cc rfl hz1 (fun c1 hz1=> ?_) (fun c1 hz1=> ?_)))))
 refine A9 (A6 (A8 (lr (fun u5 hu5=>sv rfl (bs hz1 fun v1 hv1 hz1=>sd rfl (E4 rfl rfl hv1 rfl) (sd rfl (C4 rfl hv1 rfl rfl) (sn rfl rfl (sv rfl (sst rfl G_hit (C31 v1) rfl (A1 (lr (fun u6 hu6=>sp rfl rfl (sl rfl G_hit rfl (sv rfl (bs hz1 fun v2 hv2 hz1=>B1 rfl rfl A2 (A1m _ _ _ hv2) (.inl rfl) (A1 (cc rfl hz1 (fun c2 hz1=> ?_) (fun c2 hz1=> ?_))))))))))))))))))
 refine D0 fun u7 hu7=>B9 (oS x1.1 (23,g2)) rfl rfl (sv rfl (B9 (dl A5 [x1.2]) rfl rfl (bs hz1 fun v3 hv3 hz1=>X0 A5 (23,g2) x1.1 x1.2 [] _ (O2 (fun _=>rfl)) rfl (gq rfl) hv3 (ss rfl (A1 (F9 (D0 fun u8 hu8=>sv rfl (sv rfl (A1 (G3 ?_))))))))))
 cases hz1
 exact ⟨rfl,u7,(G8 ⟨.of rfl,(.of (A2r (A18 hv3)).symm), .of rfl, .of rfl, .of rfl,trivial⟩ (T1 G_hit trivial))⟩
 refine A9 (F9 (D0 fun u9 hu9=>sv rfl (sv rfl (A1 (G3 ?_)))))
 cases hz1
 exact ⟨rfl,g2,(G8 ⟨.of rfl, .of rfl, .of rfl, .of rfl, .of rfl,trivial⟩ (B7 (gq rfl) trivial))⟩
 refine C3 rfl ?_
 cases hz1
 obtain rfl:=ez1 _ rfl
 refine ⟨nofun,C0 rfl (l_j ?_)⟩
 exact ⟨g2,(G8 ⟨.of rfl,trivial⟩ (B7 G_hit trivial))⟩
 rintro _ ⟨g1,q1⟩
 refine B5 q1 (lr (fun u10 hu10=>B9 (oS y1 (23,g1)) rfl rfl (B9 (oS y1 (23,g1)) rfl rfl (A1 (B3 ?_)))))
 cases h
 exact A7 (.inr rfl) (B6 (B4 rfl) (A1x G_hit)) A1w
noncomputable def Q8 (p1:Map)(v7:List Int)(x1:(Int×Int)):Option (Stp (Int×Int) (Sum Unit Int)):=
  cond (decide (x1.2< (v7.length:Int))) ((D6 v7 x1.2).bind fun v8=>(D6 p1.Lanes x1.1).bind fun v9=>(L8 v9.Next v8).bind fun v10=>cond (!v10) (some (.out (.inr 13))) (some (.go (v8,(w64 (x1.2+1)))))) (some (.out (.inl ())))
noncomputable def Z2 (p1:Map)(p2:(List Int)):Option Int:=
  (A3c p1).bind fun v1=>cond (v1 !=0) (some v1) (((cond (!(((p2.length:Int)==0)||(decide ((p2.length:Int)>8)))) (D6 p2 0) (some default))).bind fun v2=>((cond (!((((p2.length:Int)==0)||(decide ((p2.length:Int)>8)))||(decide (v2<0)))) (D6 p2 0) (some default))).bind fun v3=>((cond (!(((((p2.length:Int)==0)||(decide ((p2.length:Int)>8)))||(decide (v2<0)))||(decide (v3≥(p1.Lanes.length:Int))))) (D6 p2 0) (some default))).bind fun v4=>((cond (!(((((p2.length:Int)==0)||(decide ((p2.length:Int)>8)))||(decide (v2<0)))||(decide (v3≥(p1.Lanes.length:Int))))) (A4m p1 v4) (some default))).bind fun v5=>cond ((((((p2.length:Int)==0)||(decide ((p2.length:Int)>8)))||(decide (v2<0)))||(decide (v3≥(p1.Lanes.length:Int))))||(decide ((v5.length:Int)>0))) (some 13) ((D6 p2 0).bind fun v6=>(D5x p2 1 (p2.length:Int)).bind fun v7=>thenS (loop (Q8 p1 v7) (v6,0)) (fun _=>some 0) (fun r=>some r)))
theorem B06 (p1:Map)(p2:(List Int))(r:Int)(h:Z2 p1 p2=some r):PCall Tryz.prog 154 [(.agg (A4h p1)),(.list (List.map A5 p2))] (i64 r):=by
 refine B8 (fk Tryz.func154 Tryz.ntmps154 m0 (by with_unfolding_all rfl)) (nl rfl) ?_
 unfold Z2 at h
 refine B5 (s0:=⟨T [(0,(.d _)),(1,(.d _))],G []⟩) (sbr rfl rfl) ?_
 refine lr (fun u1 hu1=>sn rfl rfl (sv rfl (A1 (A6 (lr (fun u2 hu2=>sd rfl (B2 rfl G_hit rfl rfl) (bs h fun v1 hv1 h=>B1 rfl rfl A2 (B1f _ _ hv1) (.inl rfl) (sv rfl (A1 (lr (fun u3 hu3=>sv rfl (sv rfl (A1 (cc rfl h (fun c1 h=> ?_) (fun c1 h=> ?_)))))))))))))))
 refine lr (fun u4 hu4=>sv rfl (sv rfl (A1 (B3 ?_))))
 cases h
 exact A7 (.inr rfl) (B6 (B4 rfl) E1) (.refl _)
 refine A9 (A6 (A6 (I6 rfl fun u5 hu5=>sv rfl (sd rfl (E5 rfl) (sv rfl (sv rfl (gf rfl (fun _=>rfl) (gf rfl (fun w2=>(E5 (A3 w2))) (gf rfl (vb rfl rfl rfl) (sd rfl (A0u rfl rfl (fun hc=>A3 (L6 hc))) (sv rfl (gf rfl (fun _=>rfl) (bs h fun v2 hv2 h=>gf rfl (fun w5=>(E4 (A3 w5) rfl (C7 w5 hv2) rfl)) (gf rfl (fun w6=>(F3 (A3 w6) (C7 w6 hv2) rfl)) (gf rfl (vb rfl rfl rfl) (sd rfl (A0u rfl rfl (fun hc=>A3 (L6 hc))) (sv rfl (gf rfl (fun _=>rfl) (bs h fun v3 hv3 h=>gf rfl (fun w9=>(E4 (A3 w9) rfl (C7 w9 hv3) rfl)) (gf rfl (fun w10=>(F3 (A3 w10) (C7 w10 hv3) rfl)) (gp rfl (T8 rfl) (fun _=>rfl) (gf rfl (vl rfl G_hit rfl) (gf rfl (fun w13=>(E5 (A3 w13))) (gf rfl (fun w14=>(V8 (A3 w14) (A3 w14) rfl)) (sd rfl (A0u rfl rfl (fun hc=>A3 (L6 hc))) (sv rfl (gf rfl (fun w15=>(B2 rfl G_hit rfl rfl)) (gf rfl (fun _=>rfl) (bs h fun v4 hv4 h=>gf rfl (fun w17=>(E4 (A3 w17) rfl (C7 w17 hv4) rfl)) (gf rfl (fun w18=>(F3 (A3 w18) (C7 w18 hv4) rfl)) (bs h fun v5 hv5 h=> ?_)))))))))))))))))))))))))))))))
 refine U8 _ (.list (List.map A5 v5)) (T8 rfl) (fun w19=>⟨_,[(.d (.agg (A4h p1))),(di v4)],_,_,(by simp only [A3 w19];rfl),rfl,A2,C0e _ _ _ (C7 w19 hv5),(.inl rfl)⟩) ?_
 refine gf rfl (fun w20=>(E5 (A3 w20))) (gf rfl (vb rfl rfl rfl) (sd rfl (A0u rfl rfl (fun hc=>A3 (L6 hc))) (A1 (cc rfl h (fun c2 h=> ?_) (fun c2 h=> ?_)))))
 refine lr (fun u6 hu6=>sv rfl (A1 (B3 ?_)))
 cases h
 exact A7 (.inr rfl) (B6 (B4 rfl) E1) (.refl _)
 refine A9 (lr (fun u7 hu7=>sv rfl (bs h fun v6 hv6 h=>sd rfl (E4 rfl rfl hv6 rfl) (sd rfl (F3 rfl hv6 rfl) (sv rfl (A1 (A6 (lr (fun u8 hu8=>sv rfl (bs h fun v7 hv7 h=>sd rfl (D8p rfl (fun _=>rfl) (bd_x rfl) D7t hv7) (sd rfl (E5 rfl) (sv rfl (A1 (js h fun z1 hz1 h=>E0 (fun s=> ∃(y1:Unit) (g1:Unit),z1= .inl y1∧Sb ⟨T [],G []⟩ s) ?_ ?_))))))))))))))
 refine A8 (E7 (Q8 p1 v7) (fun (x1:(Int×Int)) (g2:Unit)=>⟨T [(2,(.ptr (2,u1) 0)),(6,(di x1.1)),(50,(dl A5 v7)),(51,(di (v7.length:Int))),(52,(di x1.2))],G [((2,u1),some (.box 33 (A0i p1)))]⟩) (v6,0) () _ hz1 (sbr rfl rfl) ?_)
 intro x1 g2 z2 hz2 ez2
 unfold Q8 at hz2
 refine lr (fun u9 hu9=>sv rfl (A1 (A6 (cc rfl hz2 (fun c3 hz2=> ?_) (fun c3 hz2=> ?_)))))
 refine A9 (A6 (A8 (lr (fun u10 hu10=>bs hz2 fun v8 hv8 hz2=>sd rfl (E4 rfl rfl hv8 rfl) (sd rfl (F3 rfl hv8 rfl) (sv rfl (A1 (A6 (lr (fun u11 hu11=>sp rfl rfl (sl rfl G_hit rfl (sv rfl (bs hz2 fun v9 hv9 hz2=>sd rfl (E4 rfl rfl hv9 rfl) (sv rfl (sd rfl (F3 rfl hv9 rfl) (sv rfl (bs hz2 fun v10 hv10 hz2=>B1 rfl rfl A2 (A1m _ _ _ hv10) (.inl rfl) (B9 (.d (bo (!v10))) rfl rfl (A1 (cc rfl hz2 (fun c4 hz2=> ?_) (fun c4 hz2=> ?_)))))))))))))))))))))
 refine lr (fun u12 hu12=>sv rfl (A1 (B3 ?_)))
 cases hz2
 obtain rfl:=ez2 _ rfl
 refine ⟨nofun,D7 ?_⟩
 rw [Sum.elim_inr]at h
 cases h
 exact A7 (.inr rfl) (B6 (B4 rfl) E1) (.refl _)
 refine A9 (D0 fun u13 hu13=>sv rfl (sv rfl (A1 (F9 (D0 fun u14 hu14=>sv rfl (sv rfl (A1 (G3 ?_))))))))
 cases hz2
 exact ⟨rfl,(),(sbr rfl rfl)⟩
 refine C3 rfl ?_
 cases hz2
 obtain rfl:=ez2 _ rfl
 refine ⟨nofun,C0 rfl (l_j ?_)⟩
 exact ⟨_,(),rfl,(sbr rfl rfl)⟩
 rintro _ ⟨y1,g1,rfl,q1⟩
 rw [Sum.elim_inl]at h
 refine B5 q1 (lr (fun u15 hu15=>sv rfl (A1 (B3 ?_))))
 cases h
 exact A7 (.inr rfl) (B6 (B4 rfl) E1) (.refl _)
noncomputable def Y6 (p1:Map)(p2:(List Int))(x1:(Int× ((List Int)×Int))):Option (Stp (Int× ((List Int)×Int)) ((List Int)×Int)):=
  cond (decide (x1.1< (p2.length:Int))) ((D6 p2 x1.1).bind fun v2=>(A8h x1.2.1 [x1.2.2]).bind fun v3=>(A2v p1 v2).bind fun v4=>some (.go ((w64 (x1.1+1)),(v3,(w64 (x1.2.2+v4)))))) (some (.out x1.2))
noncomputable def A0z (p1:Map)(p2:(List Int)):Option RoadsWay:=
  (Z2 p1 p2).bind fun v1=>cond (v1 !=0) (some (RoadsWay.mk (Map.mk 0 [] [] [] []) [] [] 0)) ((loop (Y6 p1 p2) (0,([],0))).bind fun y1=>some (RoadsWay.mk p1 p2 y1.1 y1.2))
theorem A76 (p1:Map)(p2:(List Int))(r:RoadsWay)(h:A0z p1 p2=some r):PCall Tryz.prog 205 [(.agg (A4h p1)),(.list (List.map A5 p2))] (.agg (D16 r)):=by
 refine B8 (fk Tryz.func205 Tryz.ntmps205 (fun r=>if r==7 then [1004]else []) (by with_unfolding_all rfl)) (nl rfl) ?_
 unfold A0z at h
 refine B5 (s0:=⟨T [(0,(.d _)),(1,(.d _))],G []⟩) (sbr rfl rfl) ?_
 refine lr (fun u1 hu1=>sn rfl rfl (sn rfl rfl (A1 (A6 (lr (fun u2 hu2=>sd rfl (B2 rfl (gq rfl) rfl rfl) (sv rfl (bs h fun v1 hv1 h=>B1 rfl rfl A2 (B06 _ _ _ hv1) (.inl rfl) (sv rfl (A1 (cc rfl h (fun c1 h=> ?_) (fun c1 h=> ?_))))))))))))
 refine lr (fun u3 hu3=>sv rfl (sst rfl G_hit [(di 0),(.d .nilS),(.d .nilS),(.d .nilS),(.d .nilS),(.d .nilS),(.d .nilS),(di 0)] rfl (A1 (B3 ?_))))
 cases h
 exact A7 (.inr rfl) (B6 (K9 rfl G_hit (nl rfl) rfl) E1) (.agg (ca rfl (.cons ⟨DLe.nil,rfl⟩ (.cons ⟨DLe.nil,rfl⟩ (.cons ⟨DLe.nil,rfl⟩ (.cons ⟨DLe.nil,rfl⟩ (.cons ⟨DLe.nil,rfl⟩ (.cons ⟨DLe.nil,rfl⟩ (cz rfl)))))))))
 refine A9 (lr (fun u4 hu4=>sd rfl (B2 rfl (gq rfl) rfl rfl) (sv rfl (sv rfl (sn rfl rfl (sst rfl G_hit ((A0i p1)++ [(dl A5 p2),(.d .nilS),(di 0)]) rfl (A1 (A6 (lr (fun u5 hu5=>sv rfl (sd rfl (E5 rfl) (sv rfl (A1 (bs h fun y1 hy1 h=>E0 (fun s=> ∃g1:Nat,Sb ⟨T [(4,(.ptr (4,u1) 0)),(5,(.ptr (5,u4) 0))],G [((4,u1),some (.box 260 [(di 0),(.d .nilS),(.d .nilS),(.d .nilS),(.d .nilS),(.d .nilS),(.d .nilS),(di 0)])),((5,u4),some (.box 260 ((A0i p1)++ [(dl A5 p2),(oS y1.1 (27,g1)),(di y1.2)]))),((27,g1),oB 2 1 A5 y1.1)]⟩ s) ?_ ?_))))))))))))))
 refine A8 (E7 (Y6 p1 p2) (fun (x1:(Int× ((List Int)×Int))) (g2:Nat)=>⟨T [(2,(.ptr (2,u1) 0)),(4,(.ptr (4,u1) 0)),(5,(.ptr (5,u4) 0)),(16,(dl A5 p2)),(17,(di (p2.length:Int))),(18,(di x1.1))],G [((2,u1),some (.box 33 (A0i p1))),((4,u1),some (.box 260 [(di 0),(.d .nilS),(.d .nilS),(.d .nilS),(.d .nilS),(.d .nilS),(.d .nilS),(di 0)])),((5,u4),some (.box 260 ((A0i p1)++ [(dl A5 p2),(oS x1.2.1 (27,g2)),(di x1.2.2)]))),((27,g2),oB 2 1 A5 x1.2.1)]⟩) (0,([],0)) 0 _ hy1 (G8 ⟨.of rfl, .of rfl, .of rfl, .of rfl, .of rfl, .of rfl,trivial⟩ (sg rfl (sg rfl (B0 G_hit (.of rfl) (Y3 trivial))))) ?_)
 intro x1 g2 z1 hz1 ez1
 unfold Y6 at hz1
 refine lr (fun u6 hu6=>sv rfl (A1 (A6 (cc rfl hz1 (fun c2 hz1=> ?_) (fun c2 hz1=> ?_)))))
 refine A9 (A6 (A8 (lr (fun u7 hu7=>bs hz1 fun v2 hv2 hz1=>sd rfl (E4 rfl rfl hv2 rfl) (sd rfl (F3 rfl hv2 rfl) (sv rfl (A1 (lr (fun u8 hu8=>sp rfl rfl (B9 (oS x1.2.1 (27,g2)) rfl (X1 rfl (gq rfl) rfl) (sp rfl rfl (sl rfl (gq rfl) rfl (B9 (dl A5 [x1.2.2]) rfl rfl (bs hz1 fun v3 hv3 hz1=>X0 A5 (27,g2) x1.2.1 x1.2.2 [] _ (O2 (fun _=>rfl)) rfl (gq rfl) hv3 (sp rfl rfl (sst rfl (gq rfl) ((A0i p1)++ [(dl A5 p2),(.sl (27,u8)),(di x1.2.2)]) rfl (A1 (I6 rfl fun u9 hu9=>sp rfl rfl (sl rfl G_hit rfl (sd rfl (B2 rfl (gq rfl) rfl rfl) (sv rfl (bs hz1 fun v4 hv4 hz1=>B1 rfl rfl A2 (A9i _ _ _ hv4) (.inl rfl) (sv rfl (sp rfl rfl (sst rfl G_hit ((A0i p1)++ [(dl A5 p2),(.sl (27,u8)),(di (w64 (x1.2.2+v4)))]) rfl (A1 (F9 (D0 fun u10 hu10=>sv rfl (sv rfl (A1 (G3 ?_)))))))))))))))))))))))))))))))
 cases hz1
 exact ⟨rfl,u8,(G8 ⟨.of rfl, .of rfl, .of rfl, .of rfl, .of rfl, .of rfl,trivial⟩ (sg rfl (sg rfl (B0 G_hit (.box (cv (cv (cv (cv (cv (cv (.cons (.of (A2r (A18 hv3)).symm) cw)))))))) (T1 (gq rfl) trivial)))))⟩
 refine C3 rfl ?_
 cases hz1
 obtain rfl:=ez1 _ rfl
 refine ⟨nofun,C0 rfl (l_j ?_)⟩
 exact ⟨g2,(G8 ⟨.of rfl, .of rfl,trivial⟩ (sg rfl (sg rfl (B7 (gq rfl) trivial))))⟩
 rintro _ ⟨g1,q1⟩
 refine B5 q1 (lr (fun u11 hu11=>B9 (A39 ((A0i p1)++ [(dl A5 p2),(oS y1.1 (27,g1)),(di y1.2)])) rfl (B2 rfl (gq rfl) rfl rfl) (A8z _ _ _ _ _ (Z1 _) rfl rfl G_hit (nl rfl) ((A0i p1)++ [(dl A5 p2),(oS y1.1 (27,g1)),(di y1.2)]) rfl (A1 (B3 ?_)))))
 cases h
 exact A7 (.inr rfl) (B6 (K9 rfl G_hit (nl rfl) rfl) (B18 (rD (rD (rD (rD (rD (rD (C9 (A1x (gq rfl)) (rD E2)))))))))) (.agg (ca rfl (ca rfl (ca rfl (ca rfl (ca rfl (ca rfl (.cons ⟨A1w,rfl⟩ (cz rfl)))))))))
noncomputable def X6 (p1:Map)(p2:(List Int)):Option Int:=
  (A0z p1 p2).bind fun v1=>some v1.length
theorem A9e (p1:Map)(p2:(List Int))(r:Int)(h:X6 p1 p2=some r):PCall Tryz.prog 155 [(.agg (A4h p1)),(.list (List.map A5 p2))] (i64 r):=by
 refine B8 (fk Tryz.func155 Tryz.ntmps155 m0 (by with_unfolding_all rfl)) (nl rfl) ?_
 unfold X6 at h
 refine B5 (s0:=⟨T [(0,(.d _)),(1,(.d _))],G []⟩) (sbr rfl rfl) ?_
 refine lr (fun u1 hu1=>sn rfl rfl (sv rfl (A1 (lr (fun u2 hu2=>sd rfl (B2 rfl G_hit rfl rfl) (sv rfl (bs h fun v1 hv1 h=>B1 rfl rfl A2 (A76 _ _ _ hv1) (.inl rfl) (sv rfl (sv rfl (A1 (B3 ?_)))))))))))
 cases h
 exact A7 (.inr rfl) (B6 (B4 rfl) E1) (.refl _)
noncomputable def A22 (p1:Map)(p2:(List Int)):Option (List Int):=
  (A0z p1 p2).bind fun v1=>some v1.starts
theorem B07 (p1:Map)(p2:(List Int))(r:(List Int))(h:A22 p1 p2=some r):PCall Tryz.prog 139 [(.agg (A4h p1)),(.list (List.map A5 p2))] (.list (List.map A5 r)):=by
 refine B8 (fk Tryz.func139 Tryz.ntmps139 m0 (by with_unfolding_all rfl)) (nl rfl) ?_
 unfold A22 at h
 refine B5 (s0:=⟨T [(0,(.d _)),(1,(.d _))],G []⟩) (sbr rfl rfl) ?_
 refine lr (fun u1 hu1=>sn rfl rfl (sv rfl (A1 (lr (fun u2 hu2=>sd rfl (B2 rfl G_hit rfl rfl) (sv rfl (bs h fun v1 hv1 h=>B1 rfl rfl A2 (A76 _ _ _ hv1) (.inl rfl) (sv rfl (sv rfl (A1 (B3 ?_)))))))))))
 cases h
 exact A7 (.inr rfl) (B6 (B4 rfl) E1) (.refl _)
noncomputable def A23 (p2:Agent)(v1:(List Int))(x1:Int):Option (Stp Int Int):=
  (D6 v1 x1).bind fun v2=>cond (decide (v2>p2.S)) (some (.go (w64 (x1 - 1)))) (some (.out x1))
noncomputable def A6p (p1:Map)(p2:Agent):Option (Int×Int):=
  (A22 p1 p2.Route).bind fun v1=>(loop (A23 p2 v1) (w64 ((v1.length:Int) - 1))).bind fun y1=>(D6 p2.Route y1).bind fun v3=>(D6 v1 y1).bind fun v4=>some (v3,(w64 (p2.S - v4)))
theorem B6t (p1:Map)(p2:Agent)(r:(Int×Int))(h:A6p p1 p2=some r):PCall Tryz.prog 156 [(.agg (A4h p1)),(.agg (D2 p2))] (.tup [(i64 r.1),(i64 r.2)]):=by
 refine B8 (fk Tryz.func156 Tryz.ntmps156 m0 (by with_unfolding_all rfl)) (nl rfl) ?_
 unfold A6p at h
 refine B5 (s0:=⟨T [(0,(.d _)),(1,(.d _))],G []⟩) (sbr rfl rfl) ?_
 refine lr (fun u1 hu1=>sn rfl rfl (sn rfl rfl (sv rfl (sv rfl (A1 (lr (fun u2 hu2=>sd rfl (B2 rfl (gq rfl) rfl rfl) (sp rfl rfl (sl rfl G_hit rfl (bs h fun v1 hv1 h=>B1 rfl rfl A2 (B07 _ _ _ hv1) (.inl rfl) (sv rfl (A1 (lr (fun u3 hu3=>sv rfl (sd rfl (E5 rfl) (sv rfl (sv rfl (A1 (A6 (bs h fun y1 hy1 h=>E0 (fun s=> ∃g1:Unit,Sb ⟨T [(3,(.ptr (3,u1) 0)),(6,(dl A5 v1)),(7,(di y1))],G [((3,u1),some (.box 45 (A0h p2)))]⟩ s) ?_ ?_))))))))))))))))))))
 refine A8 (E7 (A23 p2 v1) (fun (x1:Int) (g2:Unit)=>⟨T [(3,(.ptr (3,u1) 0)),(6,(dl A5 v1)),(7,(di x1))],G [((3,u1),some (.box 45 (A0h p2)))]⟩) (w64 ((v1.length:Int) - 1)) () _ hy1 (sbr rfl rfl) ?_)
 intro x1 g2 z1 hz1 ez1
 unfold A23 at hz1
 refine A6 (A6 (I6 rfl fun u4 hu4=>sv rfl (sv rfl (bs hz1 fun v2 hv2 hz1=>sd rfl (E4 rfl rfl hv2 rfl) (sd rfl (F3 rfl hv2 rfl) (sp rfl rfl (sl rfl G_hit rfl (sv rfl (A1 (cc rfl hz1 (fun c1 hz1=> ?_) (fun c1 hz1=> ?_)))))))))))
 refine A9 (A8 (D0 fun u5 hu5=>sv rfl (sv rfl (sv rfl (A1 (F9 (G3 ?_)))))))
 cases hz1
 exact ⟨rfl,(),(sbr rfl rfl)⟩
 refine C3 rfl ?_
 cases hz1
 obtain rfl:=ez1 _ rfl
 refine ⟨nofun,C0 rfl (l_j ?_)⟩
 exact ⟨(),(sbr rfl rfl)⟩
 rintro _ ⟨g1,q1⟩
 refine B5 q1 (A6 (I6 rfl fun u6 hu6=>sp rfl rfl (sl rfl G_hit rfl (sv rfl (bs h fun v3 hv3 h=>sd rfl (E4 rfl rfl hv3 rfl) (sd rfl (F3 rfl hv3 rfl) (sp rfl rfl (sl rfl G_hit rfl (sv rfl (sv rfl (bs h fun v4 hv4 h=>sd rfl (E4 rfl rfl hv4 rfl) (sd rfl (F3 rfl hv4 rfl) (sv rfl (sv rfl (sv rfl (A1 (B3 ?_)))))))))))))))))
 cases h
 exact A7 (.inr rfl) (B6j (B4 rfl) (B4 rfl) E1 E1) (.refl _)
noncomputable def A2w (p1:Agent):Option WorldSpan:=
  some (WorldSpan.mk (w64 (p1.S - p1.Len)) p1.S)
theorem A5c (p1:Agent)(r:WorldSpan)(h:A2w p1=some r):PCall Tryz.prog 140 [(.agg (D2 p1))] (.agg [(i64 r.from_),(i64 r.to)]):=by
 refine B8 (fk Tryz.func140 Tryz.ntmps140 m0 (by with_unfolding_all rfl)) (nl rfl) ?_
 unfold A2w at h
 refine B5 (s0:=⟨T [(0,(.d _))],G []⟩) (sbr rfl rfl) ?_
 refine lr (fun u1 hu1=>sn rfl rfl (sn rfl rfl (A1 (lr (fun u2 hu2=>sp rfl rfl (sl rfl (gq rfl) rfl (sp rfl rfl (sl rfl (gq rfl) rfl (sv rfl (sp rfl rfl (sl rfl (gq rfl) rfl (sv rfl (sst rfl G_hit [(di (w64 (p1.S - p1.Len))),(di p1.S)] rfl (A1 (B3 ?_)))))))))))))))
 cases h
 exact A7 (.inr rfl) (B6 (K9 rfl G_hit (nl rfl) rfl) E1) (.refl _)
noncomputable def A6q (p1:Map)(p2:Agent):Option Bool:=
  (A2w p2).bind fun v1=>(X6 p1 p2.Route).bind fun v2=>some (decide (v1.from_>v2))
theorem B6u (p1:Map)(p2:Agent)(r:Bool)(h:A6q p1 p2=some r):PCall Tryz.prog 158 [(.agg (A4h p1)),(.agg (D2 p2))] (bo r):=by
 refine B8 (fk Tryz.func158 Tryz.ntmps158 m0 (by with_unfolding_all rfl)) (nl rfl) ?_
 unfold A6q at h
 refine B5 (s0:=⟨T [(0,(.d _)),(1,(.d _))],G []⟩) (sbr rfl rfl) ?_
 refine lr (fun u1 hu1=>sn rfl rfl (sn rfl rfl (sv rfl (A1 (A6 (I6 rfl fun u2 hu2=>sd rfl (B2 rfl G_hit rfl rfl) (bs h fun v1 hv1 h=>B1 rfl rfl A2 (A5c _ _ hv1) (.inl rfl) (sv rfl (sd rfl (B2 rfl (gq rfl) rfl rfl) (sp rfl rfl (sl rfl G_hit rfl (bs h fun v2 hv2 h=>B1 rfl rfl A2 (A9e _ _ _ hv2) (.inl rfl) (sv rfl (sv rfl (A1 (B3 ?_))))))))))))))))
 cases h
 exact A7 (.inr rfl) (B6 (B4 rfl) E1) (.refl _)
noncomputable def A0p (p1:Map)(p2:State)(p3:Int):Option Int:=
  (D6 p2.Agents p3).bind fun v1=>(Z2 p1 v1.Route).bind fun v2=>cond (v2 !=0) (some 13) (((cond (!(((((decide (v1.Len<300))||(decide (v1.Len>20000)))||(decide (v1.Begin<0)))||(decide (v1.Begin>1099511627776)))||(decide (v1.S<0)))) (X6 p1 v1.Route) (some default))).bind fun v3=>cond ((((((decide (v1.Len<300))||(decide (v1.Len>20000)))||(decide (v1.Begin<0)))||(decide (v1.Begin>1099511627776)))||(decide (v1.S<0)))||(decide (v1.S>(w64 ((w64 (v3+v1.Len))+2000))))) (some 2) ((A6p p1 v1).bind fun v4=>(D6 p1.Lanes v4.1).bind fun v5=>(A0y v5.Kind).bind fun v6=>cond ((decide (v1.V<0))||(decide (v1.V>v6.1))) (some 2) ((A6q p1 v1).bind fun v7=>cond ((!(v1.Gone==v7))||(((decide (v1.Begin>p2.Tick))&& (v1.S !=0))||((p3==0)&& (v1.Begin !=0)))) (some 10) (some 0))))
theorem B5s (p1:Map)(p2:State)(p3:Int)(r:Int)(h:A0p p1 p2 p3=some r):PCall Tryz.prog 72 [(.agg (A4h p1)),(.agg (A2s p2)),(i64 p3)] (i64 r):=by
 refine B8 (fk Tryz.func72 Tryz.ntmps72 m0 (by with_unfolding_all rfl)) (nl rfl) ?_
 unfold A0p at h
 refine B5 (s0:=⟨T [(0,(.d _)),(1,(.d _)),(2,(.d _))],G []⟩) (sbr rfl rfl) ?_
 refine lr (fun u1 hu1=>sn rfl rfl (sn rfl rfl (sv rfl (A1 (lr (fun u2 hu2=>sp rfl rfl (sl rfl G_hit rfl (sv rfl (bs h fun v1 hv1 h=>sd rfl (E4 rfl rfl hv1 rfl) (sd rfl (C4 rfl hv1 rfl rfl) (sn rfl rfl (sst rfl G_hit (A0h v1) rfl (A1 (A6 (lr (fun u3 hu3=>sd rfl (B2 rfl (gq rfl) rfl rfl) (sp rfl rfl (sl rfl G_hit rfl (bs h fun v2 hv2 h=>B1 rfl rfl A2 (B06 _ _ _ hv2) (.inl rfl) (sv rfl (A1 (cc rfl h (fun c1 h=> ?_) (fun c1 h=> ?_)))))))))))))))))))))))
 refine lr (fun u4 hu4=>sv rfl (A1 (B3 ?_)))
 cases h
 exact A7 (.inr rfl) (B6 (B4 rfl) E1) (.refl _)
 refine A9 (A6 (A6 (I6 rfl fun u5 hu5=>sp rfl rfl (sl rfl G_hit rfl (sv rfl (sv rfl (gp rfl (T8 rfl) (fun _=>rfl) (gf rfl (vl rfl G_hit rfl) (gf rfl (vb rfl rfl rfl) (sd rfl (A0u rfl rfl (fun hc=>A3 (L6 hc))) (sv rfl (gp rfl (T8 rfl) (fun _=>rfl) (gf rfl (vl rfl G_hit rfl) (gf rfl (vb rfl rfl rfl) (sd rfl (A0u rfl rfl (fun hc=>A3 (L6 hc))) (sv rfl (gp rfl (T8 rfl) (fun _=>rfl) (gf rfl (vl rfl G_hit rfl) (gf rfl (vb rfl rfl rfl) (sd rfl (A0u rfl rfl (fun hc=>A3 (L6 hc))) (sv rfl (gp rfl (T8 rfl) (fun _=>rfl) (gf rfl (vl rfl G_hit rfl) (gf rfl (vb rfl rfl rfl) (sd rfl (A0u rfl rfl (fun hc=>A3 (L6 hc))) (sv rfl (gp rfl (T8 rfl) (fun _=>rfl) (gf rfl (vl rfl G_hit rfl) (gf rfl (fun w15=>(B2 rfl (gq rfl) rfl rfl)) (gp rfl (T8 rfl) (fun _=>rfl) (gf rfl (vl rfl G_hit rfl) (bs h fun v3 hv3 h=> ?_))))))))))))))))))))))))))))))))
 refine U8 _ (i64 v3) (T8 rfl) (fun w18=>⟨_,[(.d (.agg (A4h p1))),(dl A5 v1.Route)],_,_,(by simp only [A3 w18];rfl),rfl,A2,A9e _ _ _ (C7 w18 hv3),(.inl rfl)⟩) ?_
 refine gp rfl (T8 rfl) (fun _=>rfl) (gf rfl (vl rfl G_hit rfl) (gf rfl (fun w21=>(V8 (A3 w21) (A3 w21) rfl)) (gf rfl (vb rfl rfl rfl) (gf rfl (fun w23=>(V8 (A3 w23) (A3 w23) rfl)) (sd rfl (A0u rfl rfl (fun hc=>A3 (L6 hc))) (A1 (cc rfl h (fun c2 h=> ?_) (fun c2 h=> ?_))))))))
 refine lr (fun u6 hu6=>sv rfl (A1 (B3 ?_)))
 cases h
 exact A7 (.inr rfl) (B6 (B4 rfl) E1) (.refl _)
 refine A9 (lr (fun u7 hu7=>sd rfl (B2 rfl (gq rfl) rfl rfl) (sd rfl (B2 rfl G_hit rfl rfl) (bs h fun v4 hv4 h=>B1 rfl rfl A2 (B6t _ _ _ hv4) (.inl rfl) (sv rfl (sv rfl (sv rfl (sv rfl (sv rfl (A1 (A6 (lr (fun u8 hu8=>sp rfl rfl (sl rfl (gq rfl) rfl (sv rfl (bs h fun v5 hv5 h=>sd rfl (E4 rfl rfl hv5 rfl) (sv rfl (sd rfl (F3 rfl hv5 rfl) (bs h fun v6 hv6 h=>B1 rfl rfl A2 (A73 _ _ hv6) (.inl rfl) (sv rfl (sv rfl (sv rfl (sv rfl (sv rfl (sv rfl (sv rfl (A1 (lr (fun u9 hu9=>sp rfl rfl (sl rfl G_hit rfl (sv rfl (sv rfl (gp rfl (T8 rfl) (fun _=>rfl) (gf rfl (vl rfl G_hit rfl) (gf rfl (fun _=>rfl) (gf rfl (fun w27=>(V8 (A3 w27) (A3 w27) rfl)) (sd rfl (A0u rfl rfl (fun hc=>A3 (L6 hc))) (A1 (cc rfl h (fun c3 h=> ?_) (fun c3 h=> ?_))))))))))))))))))))))))))))))))))))))))
 refine A6 (B5 (s0:=⟨T [],G []⟩) (sbr rfl rfl) ?_)
 refine D0 fun u10 hu10=>sv rfl (A1 (B3 ?_))
 cases h
 exact A7 (.inr rfl) (B6 (B4 rfl) E1) (.refl _)
 refine A9 (A6 (B5 (s0:=⟨T [(2,(.d _)),(3,(.ptr _ _)),(4,(.ptr _ _)),(7,(.ptr _ _))],G [((3,u1),some (.box 33 _)),((4,u1),some (.box 25 _)),((7,u2),some (.box 45 _))]⟩) (sbr rfl rfl) ?_))
 refine D0 fun u11 hu11=>sp rfl rfl (sl rfl (gq rfl) rfl (sp rfl rfl (sl rfl (gq rfl) rfl (sv rfl (sv rfl (gp rfl (A19 rfl) (fun _=>rfl) (gt rfl (vl rfl (gq rfl) rfl) (gt rfl (vb rfl rfl rfl) (sa rfl rfl rfl (sv rfl (gf rfl (fun _=>rfl) (gf rfl (vb rfl rfl rfl) (gf rfl (fun w33=>(D60 (A3 w33))) (Z7 _ (.ptr _ _) rfl (A3q rfl) (fun _=>rfl) (gv rfl (A3q rfl) (vl rfl (gq rfl) rfl) (gv rfl (A3q rfl) (vb rfl rfl rfl) (gf rfl (fun w37=>(C5v (A3 w37) (fun hc=>A3 (C5w w37 hc)) rfl)) (sd rfl (A0u rfl rfl (fun hc=>A3 (L6 hc))) (sv rfl (A1 (A6 (A6 (I6 rfl fun u12 hu12=>sp rfl rfl (sl rfl (gq rfl) rfl (sd rfl (B2 rfl G_hit rfl rfl) (sd rfl (B2 rfl (gq rfl) rfl rfl) (bs h fun v7 hv7 h=>B1 rfl rfl A2 (B6u _ _ _ hv7) (.inl rfl) (B9 (.d (bo (!(v1.Gone==v7)))) rfl rfl (sv rfl (gf rfl (fun _=>rfl) (sd rfl (A0u rfl rfl (fun hc=>A3 (L6 hc))) (A1 (cc rfl h (fun c4 h=> ?_) (fun c4 h=> ?_))))))))))))))))))))))))))))))))))
 refine lr (fun u13 hu13=>sv rfl (A1 (B3 ?_)))
 cases h
 exact A7 (.inr rfl) (B6 (B4 rfl) E1) (.refl _)
 refine A9 (lr (fun u14 hu14=>sv rfl (A1 (B3 ?_))))
 cases h
 exact A7 (.inr rfl) (B6 (B4 rfl) E1) (.refl _)
noncomputable def A24 (p1:Int):Option Bool:=
  some (p1 !=p1)
theorem B3o (p1:Int)(r:Bool)(h:A24 p1=some r):PCall Tryz.prog 216 [(i64 p1)] (bo r):=by
 refine B8 (fk Tryz.func216 Tryz.ntmps216 m0 (by with_unfolding_all rfl)) (nl rfl) ?_
 unfold A24 at h
 refine B5 (s0:=⟨T [(0,(.d _))],G []⟩) (sbr rfl rfl) ?_
 refine lr (fun u1 hu1=>sv rfl (A1 (lr (fun u2 hu2=>sv rfl (sv rfl (sv rfl (sv rfl (A1 (B3 ?_)))))))))
 cases h
 exact A7 (.inr rfl) (B6 (B4 rfl) E1) (.refl _)
noncomputable def W0 (p1:Int)(p2:Int):Option Int:=
  (A24 p1).bind fun v1=>(A24 p2).bind fun v2=>cond v1 (cond v2 (some 0) (some (-1))) (cond v2 (some 1) (cond (decide (p1<p2)) (some (-1)) (cond (decide (p1>p2)) (some 1) (some 0))))
theorem A4b (p1:Int)(p2:Int)(r:Int)(h:W0 p1 p2=some r):PCall Tryz.prog 160 [(i64 p1),(i64 p2)] (i64 r):=by
 refine B8 (fk Tryz.func160 Tryz.ntmps160 m0 (by with_unfolding_all rfl)) (nl rfl) ?_
 unfold W0 at h
 refine B5 (s0:=⟨T [(0,(.d _)),(1,(.d _))],G []⟩) (sbr rfl rfl) ?_
 refine lr (fun u1 hu1=>sv rfl (A1 (lr (fun u2 hu2=>sv rfl (bs h fun v1 hv1 h=>B1 rfl rfl A2 (B3o _ _ hv1) (.inl rfl) (sv rfl (A1 (lr (fun u3 hu3=>sv rfl (bs h fun v2 hv2 h=>B1 rfl rfl A2 (B3o _ _ hv2) (.inl rfl) (sv rfl (A1 (A6 (lr (fun u4 hu4=>sv rfl (A1 (cc rfl h (fun c1 h=> ?_) (fun c1 h=> ?_))))))))))))))))))
 refine A6 (lr (fun u5 hu5=>sv rfl (A1 (cc rfl h (fun c2 h=> ?_) (fun c2 h=> ?_)))))
 refine lr (fun u6 hu6=>sv rfl (A1 (B3 ?_)))
 cases h
 exact A7 (.inr rfl) (B6 (B4 rfl) E1) (.refl _)
 refine A9 (lr (fun u7 hu7=>sv rfl (A1 (B3 ?_))))
 cases h
 exact A7 (.inr rfl) (B6 (B4 rfl) E1) (.refl _)
 refine A9 (A6 (lr (fun u8 hu8=>sv rfl (A1 (cc rfl h (fun c3 h=> ?_) (fun c3 h=> ?_))))))
 refine lr (fun u9 hu9=>sv rfl (A1 (B3 ?_)))
 cases h
 exact A7 (.inr rfl) (B6 (B4 rfl) E1) (.refl _)
 refine A9 (A6 (lr (fun u10 hu10=>sv rfl (sv rfl (sv rfl (A1 (cc rfl h (fun c4 h=> ?_) (fun c4 h=> ?_))))))))
 refine lr (fun u11 hu11=>sv rfl (A1 (B3 ?_)))
 cases h
 exact A7 (.inr rfl) (B6 (B4 rfl) E1) (.refl _)
 refine A9 (A6 (lr (fun u12 hu12=>sv rfl (sv rfl (sv rfl (A1 (cc rfl h (fun c5 h=> ?_) (fun c5 h=> ?_))))))))
 refine lr (fun u13 hu13=>sv rfl (A1 (B3 ?_)))
 cases h
 exact A7 (.inr rfl) (B6 (B4 rfl) E1) (.refl _)
 refine A9 (lr (fun u14 hu14=>sv rfl (A1 (B3 ?_))))
 cases h
 exact A7 (.inr rfl) (B6 (B4 rfl) E1) (.refl _)
noncomputable def A3d (p1:(List Int))(x1:Int):Option (Stp Int (Sum Unit Int)):=
  cond (decide (x1< (p1.length:Int))) ((D6 p1 x1).bind fun v1=>cond (v1 !=0) (some (.out (.inr v1))) (some (.go (w64 (x1+1))))) (some (.out (.inl ())))
noncomputable def A5d (p1:(List Int)):Option Int:=
  thenS (loop (A3d p1) 0) (fun _=>some 0) (fun r=>some r)
theorem B2z (p1:(List Int))(r:Int)(h:A5d p1=some r):PCall Tryz.prog 159 [(.list (List.map A5 p1))] (i64 r):=by
 refine B8 (fk Tryz.func159 Tryz.ntmps159 m0 (by with_unfolding_all rfl)) (nl rfl) ?_
 unfold A5d at h
 refine B5 (s0:=⟨T [(0,(.d _))],G []⟩) (sbr rfl rfl) ?_
 refine lr (fun u1 hu1=>sv rfl (A1 (lr (fun u2 hu2=>sv rfl (A1 (A6 (lr (fun u3 hu3=>sv rfl (sd rfl (E5 rfl) (sv rfl (A1 (js h fun z1 hz1 h=>E0 (fun s=> ∃(y1:Unit) (g1:Unit),z1= .inl y1∧Sb ⟨T [(3,(di 0))],G []⟩ s) ?_ ?_))))))))))))
 refine A8 (E7 (A3d p1) (fun (x1:Int) (g2:Unit)=>⟨T [(3,(di 0)),(6,(dl A5 p1)),(7,(di (p1.length:Int))),(8,(di x1))],G []⟩) 0 () _ hz1 (sbr rfl rfl) ?_)
 intro x1 g2 z2 hz2 ez2
 unfold A3d at hz2
 refine lr (fun u4 hu4=>sv rfl (A1 (A6 (cc rfl hz2 (fun c1 hz2=> ?_) (fun c1 hz2=> ?_)))))
 refine A9 (A6 (A8 (lr (fun u5 hu5=>bs hz2 fun v1 hv1 hz2=>sd rfl (E4 rfl rfl hv1 rfl) (sd rfl (F3 rfl hv1 rfl) (sv rfl (A1 (lr (fun u6 hu6=>sv rfl (sv rfl (sv rfl (A1 (cc rfl hz2 (fun c2 hz2=> ?_) (fun c2 hz2=> ?_))))))))))))))
 refine lr (fun u7 hu7=>sv rfl (sv rfl (A1 (B3 ?_))))
 cases hz2
 obtain rfl:=ez2 _ rfl
 refine ⟨nofun,D7 ?_⟩
 rw [Sum.elim_inr]at h
 cases h
 exact A7 (.inr rfl) (B6 (B4 rfl) E1) (.refl _)
 refine A9 (F9 (D0 fun u8 hu8=>sv rfl (sv rfl (A1 (G3 ?_)))))
 cases hz2
 exact ⟨rfl,(),(sbr rfl rfl)⟩
 refine C3 rfl ?_
 cases hz2
 obtain rfl:=ez2 _ rfl
 refine ⟨nofun,C0 rfl (l_j ?_)⟩
 exact ⟨_,(),rfl,(sbr rfl rfl)⟩
 rintro _ ⟨y1,g1,rfl,q1⟩
 rw [Sum.elim_inl]at h
 refine B5 q1 (lr (fun u9 hu9=>sv rfl (sv rfl (A1 (B3 ?_)))))
 cases h
 exact A7 (.inr rfl) (B6 (B4 rfl) E1) (.refl _)
noncomputable def A3e (p1:Stay)(p2:Stay):Option Int:=
  (W0 p1.Agent_ p2.Agent_).bind fun v1=>(W0 p1.Zone_ p2.Zone_).bind fun v2=>(A5d [v1,v2]).bind fun v3=>some v3
theorem B1g (p1:Stay)(p2:Stay)(r:Int)(h:A3e p1 p2=some r):PCall Tryz.prog 73 [(.agg (L7 p1)),(.agg (L7 p2))] (i64 r):=by
 refine B8 (fk Tryz.func73 Tryz.ntmps73 (fun r=>if r==1 then [1010]else []) (by with_unfolding_all rfl)) (nl rfl) ?_
 unfold A3e at h
 refine B5 (s0:=⟨T [(0,(.d _)),(1,(.d _))],G []⟩) (sbr rfl rfl) ?_
 refine lr (fun u1 hu1=>sn rfl rfl (sn rfl rfl (sv rfl (A1 (A6 (I6 rfl fun u2 hu2=>sp rfl rfl (sl rfl (gq rfl) rfl (sp rfl rfl (sl rfl G_hit rfl (bs h fun v1 hv1 h=>B1 rfl rfl A2 (A4b _ _ _ hv1) (.inl rfl) (sp rfl rfl (sl rfl (gq rfl) rfl (sp rfl rfl (sl rfl G_hit rfl (bs h fun v2 hv2 h=>B1 rfl rfl A2 (A4b _ _ _ hv2) (.inl rfl) (B9 (dl A5 [v1,v2]) rfl rfl (bs h fun v3 hv3 h=>B1 rfl rfl A2 (B2z _ _ hv3) (.inl rfl) (sv rfl (A1 (B3 ?_))))))))))))))))))))
 cases h
 exact A7 (.inr rfl) (B6 (B4 rfl) E1) (.refl _)
noncomputable def A2x (p1:Stay)(p2:State):Option Bool:=
  some ((((decide (p1.Since<0))||(decide (p1.Since>p2.Tick)))||(decide (p1.Rank<0)))||(decide (p1.Rank>100)))
theorem B6v (p1:Stay)(p2:State)(r:Bool)(h:A2x p1 p2=some r):PCall Tryz.prog 75 [(.agg (L7 p1)),(.bp (A2s p2) 0)] (bo r):=by
 refine B8 (fk Tryz.func75 Tryz.ntmps75 m0 (by with_unfolding_all rfl)) (nl rfl) ?_
 unfold A2x at h
 refine B5 (s0:=⟨T [(0,(.d _)),(1,(.d _))],G []⟩) (sbr rfl rfl) ?_
 refine lr (fun u1 hu1=>sn rfl rfl (sv rfl (A1 (lr (fun u2 hu2=>sp rfl rfl (sl rfl G_hit rfl (sv rfl (sv rfl (gp rfl (T8 rfl) (fun _=>rfl) (gf rfl (vl rfl G_hit rfl) (gf rfl (fun _=>rfl) ?_)))))))))))
 refine gf rfl (fun w4=>(by simp only [A3 w4];rfl)) ?_
 refine gf rfl (fun w5=>(V8 (A3 w5) (A3 w5) rfl)) (sd rfl (A0u rfl rfl (fun hc=>A3 (L6 hc))) (sv rfl (gp rfl (T8 rfl) (fun _=>rfl) (gf rfl (vl rfl G_hit rfl) (gf rfl (vb rfl rfl rfl) (sd rfl (A0u rfl rfl (fun hc=>A3 (L6 hc))) (sv rfl (gp rfl (T8 rfl) (fun _=>rfl) (gf rfl (vl rfl G_hit rfl) (gf rfl (vb rfl rfl rfl) (sd rfl (A0u rfl rfl (fun hc=>A3 (L6 hc))) (sv rfl (A1 (B3 ?_))))))))))))))
 cases h
 exact A7 (.inr rfl) (B6 (B4 rfl) E1) (.refl _)
noncomputable def D5 (p1:(List Stay))(p2:State)(x1:Int):Option (Stp Int (Sum Unit Int)):=
  cond (decide (x1< (p1.length:Int))) ((D6 p1 x1).bind fun v1=>(A2x v1 p2).bind fun v2=>cond v2 (some (.out (.inr x1))) (some (.go (w64 (x1+1))))) (some (.out (.inl ())))
noncomputable def G2 (p1:(List Stay))(p2:State):Option Int:=
  thenS (loop (D5 p1 p2) 0) (fun _=>some (-1)) (fun r=>some r)
theorem A37 (p1:(List Stay))(p2:State)(r:Int)(h:G2 p1 p2=some r):PCall Tryz.prog 161 [(.list (List.map L7 p1)),(.fn (.func 75) [] [(.bp (A2s p2) 0)])] (i64 r):=by
 refine B8 (fk Tryz.func161 Tryz.ntmps161 m0 (by with_unfolding_all rfl)) (nl rfl) ?_
 unfold G2 at h
 refine B5 (s0:=⟨T [(0,(.d _)),(1,(.d _))],G []⟩) (sbr rfl rfl) ?_
 refine lr (fun u1 hu1=>sv rfl (A1 (A6 (lr (fun u2 hu2=>sv rfl (sd rfl (E5 rfl) (sv rfl (A1 (js h fun z1 hz1 h=>E0 (fun s=> ∃(y1:Unit) (g1:Unit),z1= .inl y1∧Sb ⟨T [],G []⟩ s) ?_ ?_)))))))))
 refine A8 (E7 (D5 p1 p2) (fun (x1:Int) (g2:Unit)=>⟨T [(0,(dl L7 p1)),(1,(.d (.fn (.func 75) [] [(.bp (A2s p2) 0)]))),(7,(di (p1.length:Int))),(8,(di x1))],G []⟩) 0 () _ hz1 (sbr rfl rfl) ?_)
 intro x1 g2 z2 hz2 ez2
 unfold D5 at hz2
 refine lr (fun u3 hu3=>sv rfl (A1 (A6 (cc rfl hz2 (fun c1 hz2=> ?_) (fun c1 hz2=> ?_)))))
 refine A9 (A6 (A8 (lr (fun u4 hu4=>sv rfl (sv rfl (A1 (lr (fun u5 hu5=>sv rfl (sv rfl (sv rfl (bs hz2 fun v1 hv1 hz2=>sd rfl (E4 rfl rfl hv1 rfl) (sd rfl (C4 rfl hv1 rfl rfl) (bs hz2 fun v2 hv2 hz2=>B1 rfl rfl A2 (B6v _ _ _ hv2) (.inl rfl) (A1 (cc rfl hz2 (fun c2 hz2=> ?_) (fun c2 hz2=> ?_))))))))))))))))
 refine lr (fun u6 hu6=>sv rfl (sv rfl (A1 (B3 ?_))))
 cases hz2
 obtain rfl:=ez2 _ rfl
 refine ⟨nofun,D7 ?_⟩
 rw [Sum.elim_inr]at h
 cases h
 exact A7 (.inr rfl) (B6 (B4 rfl) E1) (.refl _)
 refine A9 (F9 (D0 fun u7 hu7=>sv rfl (sv rfl (A1 (G3 ?_)))))
 cases hz2
 exact ⟨rfl,(),(sbr rfl rfl)⟩
 refine C3 rfl ?_
 cases hz2
 obtain rfl:=ez2 _ rfl
 refine ⟨nofun,C0 rfl (l_j ?_)⟩
 exact ⟨_,(),rfl,(sbr rfl rfl)⟩
 rintro _ ⟨y1,g1,rfl,q1⟩
 rw [Sum.elim_inl]at h
 refine B5 q1 (lr (fun u8 hu8=>sv rfl (A1 (B3 ?_))))
 cases h
 exact A7 (.inr rfl) (B6 (B4 rfl) E1) (.refl _)
noncomputable def D1 (p1:(List Stay))(p2:State):Option Bool:=
  (G2 p1 p2).bind fun v1=>some (decide (v1≥0))
theorem A2c (p1:(List Stay))(p2:State)(r:Bool)(h:D1 p1 p2=some r):PCall Tryz.prog 74 [(.list (List.map L7 p1)),(.fn (.func 75) [] [(.bp (A2s p2) 0)])] (bo r):=by
 refine B8 (fk Tryz.func74 Tryz.ntmps74 m0 (by with_unfolding_all rfl)) (nl rfl) ?_
 unfold D1 at h
 refine B5 (s0:=⟨T [(0,(.d _)),(1,(.d _))],G []⟩) (sbr rfl rfl) ?_
 refine lr (fun u1 hu1=>sv rfl (A1 (lr (fun u2 hu2=>sv rfl (sv rfl (bs h fun v1 hv1 h=>B1 rfl rfl A2 (A37 _ _ _ hv1) (.inl rfl) (sv rfl (sv rfl (A1 (B3 ?_))))))))))
 cases h
 exact A7 (.inr rfl) (B6 (B4 rfl) E1) (.refl _)
noncomputable def A10 (p1:Map)(p2:State)(x2:Int):Option (Stp Int (Sum Unit Int)):=
  cond (decide (x2< (p2.In.length:Int))) ((D6 p2.In x2).bind fun v3=>((cond ((!((((decide (v3.Agent_<0))||(decide (v3.Agent_≥(p2.Agents.length:Int))))||(decide (v3.Zone_<0)))||(decide (v3.Zone_≥(p1.Zones.length:Int)))))&& (decide (x2>0))) (D6 p2.In (w64 (x2 - 1))) (some default))).bind fun v4=>((cond ((!((((decide (v3.Agent_<0))||(decide (v3.Agent_≥(p2.Agents.length:Int))))||(decide (v3.Zone_<0)))||(decide (v3.Zone_≥(p1.Zones.length:Int)))))&& (decide (x2>0))) (A3e v4 v3) (some default))).bind fun v5=>cond (((((decide (v3.Agent_<0))||(decide (v3.Agent_≥(p2.Agents.length:Int))))||(decide (v3.Zone_<0)))||(decide (v3.Zone_≥(p1.Zones.length:Int))))||((decide (x2>0))&& (decide (v5≥0)))) (some (.out (.inr 11))) (some (.go (w64 (x2+1))))) (some (.out (.inl ())))
noncomputable def A11 (p1:Map)(p2:State)(x1:Int):Option (Stp Int (Sum Unit Int)):=
  cond (decide (x1< (p2.Agents.length:Int))) ((A0p p1 p2 x1).bind fun v2=>cond (v2 !=0) (some (.out (.inr v2))) (some (.go (w64 (x1+1))))) (some (.out (.inl ())))
noncomputable def A2d (p1:Map)(p2:State):Option Int:=
  (A3c p1).bind fun v1=>cond (v1 !=0) (some v1) (cond ((decide (p2.Tick<0))||(decide (p2.Tick>1099511627776))) (some 2) (cond ((p2.Agents.length:Int)==0) (some 6) (cond (decide ((p2.Agents.length:Int)>8)) (some 8) (thenS (loop (A11 p1 p2) 0) (fun _=>thenS (loop (A10 p1 p2) 0) (fun _=>(D1 p2.In p2).bind fun v6=>cond v6 (some 2) (some 0)) (fun r=>some r)) (fun r=>some r)))))
theorem A89 (p1:Map)(p2:State)(r:Int)(h:A2d p1 p2=some r):PCall Tryz.prog 24 [(.agg (A4h p1)),(.agg (A2s p2))] (i64 r):=by
 refine B8 (fk Tryz.func24 Tryz.ntmps24 m0 (by with_unfolding_all rfl)) (nl rfl) ?_
 unfold A2d at h
 refine B5 (s0:=⟨T [(0,(.d _)),(1,(.d _))],G []⟩) (sbr rfl rfl) ?_
 refine lr (fun u1 hu1=>sn rfl rfl (sn rfl rfl (sv rfl (A1 (A6 (lr (fun u2 hu2=>sd rfl (B2 rfl (gq rfl) rfl rfl) (bs h fun v1 hv1 h=>B1 rfl rfl A2 (B1f _ _ hv1) (.inl rfl) (sv rfl (A1 (lr (fun u3 hu3=>sv rfl (sv rfl (A1 (cc rfl h (fun c1 h=> ?_) (fun c1 h=> ?_))))))))))))))))
 refine lr (fun u4 hu4=>sv rfl (sv rfl (A1 (B3 ?_))))
 cases h
 exact A7 (.inr rfl) (B6 (B4 rfl) E1) (.refl _)
 refine A9 (A6 (lr (fun u5 hu5=>sp rfl rfl (sl rfl G_hit rfl (sd rfl (E5 rfl) (sv rfl (A1 (A8 (lr (fun u6 hu6=>sp rfl rfl (sl rfl G_hit rfl (sv rfl (sv rfl (gp rfl (T8 rfl) (fun _=>rfl) (gf rfl (vl rfl G_hit rfl) (gf rfl (vb rfl rfl rfl) (sd rfl (A0u rfl rfl (fun hc=>A3 (L6 hc))) (sv rfl (A1 (cc rfl h (fun c2 h=> ?_) (fun c2 h=> ?_)))))))))))))))))))))
 refine lr (fun u7 hu7=>sv rfl (A1 (B3 ?_)))
 cases h
 exact A7 (.inr rfl) (B6 (B4 rfl) E1) (.refl _)
 refine lr (fun u8 hu8=>sv rfl (sv rfl (sv rfl (A1 (cc rfl h (fun c3 h=> ?_) (fun c3 h=> ?_))))))
 refine lr (fun u9 hu9=>sv rfl (A1 (B3 ?_)))
 cases h
 exact A7 (.inr rfl) (B6 (B4 rfl) E1) (.refl _)
 refine lr (fun u10 hu10=>sv rfl (sv rfl (sv rfl (A1 (cc rfl h (fun c4 h=> ?_) (fun c4 h=> ?_))))))
 refine lr (fun u11 hu11=>sv rfl (A1 (B3 ?_)))
 cases h
 exact A7 (.inr rfl) (B6 (B4 rfl) E1) (.refl _)
 refine A9 (F9 (A6 (lr (fun u12 hu12=>sp rfl rfl (sl rfl G_hit rfl (sd rfl (E5 rfl) (sv rfl (A1 (js h fun z1 hz1 h=>E0 (fun s=> ∃(y1:Unit) (g1:Unit),z1= .inl y1∧Sb ⟨T [(2,(.ptr (2,u1) 0)),(3,(.ptr (3,u1) 0))],G [((2,u1),some (.box 33 (A0i p1))),((3,u1),some (.box 25 (L5 p2)))]⟩ s) ?_ ?_)))))))))
 refine A8 (E7 (A11 p1 p2) (fun (x1:Int) (g2:Unit)=>⟨T [(2,(.ptr (2,u1) 0)),(3,(.ptr (3,u1) 0)),(36,(di (p2.Agents.length:Int))),(37,(di x1))],G [((2,u1),some (.box 33 (A0i p1))),((3,u1),some (.box 25 (L5 p2)))]⟩) 0 () _ hz1 (sbr rfl rfl) ?_)
 intro x1 g2 z2 hz2 ez2
 unfold A11 at hz2
 refine lr (fun u13 hu13=>sv rfl (A1 (A6 (cc rfl hz2 (fun c5 hz2=> ?_) (fun c5 hz2=> ?_)))))
 refine A9 (A6 (A8 (lr (fun u14 hu14=>sv rfl (sv rfl (A1 (lr (fun u15 hu15=>sd rfl (B2 rfl G_hit rfl rfl) (sd rfl (B2 rfl (gq rfl) rfl rfl) (sv rfl (bs hz2 fun v2 hv2 hz2=>B1 rfl rfl A2 (B5s _ _ _ _ hv2) (.inl rfl) (sv rfl (A1 (lr (fun u16 hu16=>sv rfl (sv rfl (A1 (cc rfl hz2 (fun c6 hz2=> ?_) (fun c6 hz2=> ?_)))))))))))))))))))
 refine lr (fun u17 hu17=>sv rfl (sv rfl (A1 (B3 ?_))))
 cases hz2
 obtain rfl:=ez2 _ rfl
 refine ⟨nofun,D7 ?_⟩
 rw [Sum.elim_inr]at h
 cases h
 exact A7 (.inr rfl) (B6 (B4 rfl) E1) (.refl _)
 refine A9 (F9 (D0 fun u18 hu18=>sv rfl (sv rfl (A1 (G3 ?_)))))
 cases hz2
 exact ⟨rfl,(),(sbr rfl rfl)⟩
 refine C3 rfl ?_
 cases hz2
 obtain rfl:=ez2 _ rfl
 refine ⟨nofun,C0 rfl (l_j ?_)⟩
 exact ⟨_,(),rfl,(sbr rfl rfl)⟩
 rintro _ ⟨y1,g1,rfl,q1⟩
 rw [Sum.elim_inl]at h
 refine B5 q1 (A6 (lr (fun u19 hu19=>sp rfl rfl (sl rfl (gq rfl) rfl (sd rfl (E5 rfl) (sv rfl (A1 (js h fun z3 hz3 h=>E0 (fun s=> ∃(y2:Unit) (g3:Unit),z3= .inl y2∧Sb ⟨T [(3,(.ptr (3,u1) 0))],G [((3,u1),some (.box 25 (L5 p2)))]⟩ s) ?_ ?_))))))))
 refine A8 (E7 (A10 p1 p2) (fun (x2:Int) (g4:Unit)=>⟨T [(2,(.ptr (2,u1) 0)),(3,(.ptr (3,u1) 0)),(49,(dl L7 p2.In)),(50,(di (p2.In.length:Int))),(51,(di x2))],G [((2,u1),some (.box 33 (A0i p1))),((3,u1),some (.box 25 (L5 p2)))]⟩) 0 () _ hz3 (sbr rfl rfl) ?_)
 intro x2 g4 z4 hz4 ez4
 unfold A10 at hz4
 refine lr (fun u20 hu20=>sv rfl (A1 (A6 (cc rfl hz4 (fun c7 hz4=> ?_) (fun c7 hz4=> ?_)))))
 refine A9 (A6 (A8 (lr (fun u21 hu21=>sv rfl (bs hz4 fun v3 hv3 hz4=>sd rfl (E4 rfl rfl hv3 rfl) (sd rfl (C4 rfl hv3 rfl rfl) (sn rfl rfl (sv rfl (sst rfl G_hit (B8n v3) rfl (A1 (A6 (I6 rfl fun u22 hu22=>sp rfl rfl (sl rfl G_hit rfl (sv rfl (sv rfl (gp rfl (T8 rfl) (fun _=>rfl) (gf rfl (vl rfl G_hit rfl) (gp rfl (T8 rfl) (fun _=>rfl) (gf rfl (vl rfl (gq rfl) rfl) (gf rfl (fun w8=>(E5 (A3 w8))) (gf rfl (fun w9=>(V8 (A3 w9) (A3 w9) rfl)) (sd rfl (A0u rfl rfl (fun hc=>A3 (L6 hc))) (sv rfl (gp rfl (T8 rfl) (fun _=>rfl) (gf rfl (vl rfl G_hit rfl) (gf rfl (vb rfl rfl rfl) (sd rfl (A0u rfl rfl (fun hc=>A3 (L6 hc))) (sv rfl (gp rfl (T8 rfl) (fun _=>rfl) (gf rfl (vl rfl G_hit rfl) (gp rfl (T8 rfl) (fun _=>rfl) (gf rfl (vl rfl (gq rfl) rfl) (gf rfl (fun w17=>(E5 (A3 w17))) (gf rfl (fun w18=>(V8 (A3 w18) (A3 w18) rfl)) (sd rfl (A0u rfl rfl (fun hc=>A3 (L6 hc))) (sv rfl (gf rfl (fun _=>rfl) (gf rfl (vb rfl rfl rfl) (gf rfl (fun w21=>(D60 (A3 w21))) (Z7 _ (.ptr _ _) rfl (A3q rfl) (fun _=>rfl) (gv rfl (A3q rfl) (vl rfl (gq rfl) rfl) (gv rfl (A3q rfl) (fun _=>rfl) (gv rfl (A3q rfl) (vb rfl rfl rfl) (bs hz4 fun v4 hv4 hz4=>gv rfl (A3q rfl) (fun w26=>(E4 (A3 w26) (A3 w26) (C7 w26 hv4) rfl)) (gv rfl (A3q rfl) (fun w27=>(C4 (A3 w27) (C7 w27 hv4) rfl rfl)) (gv rfl (A3q rfl) (fun w28=>(B2 rfl G_hit rfl rfl)) (bs hz4 fun v5 hv5 hz4=> ?_)))))))))))))))))))))))))))))))))))))))))))))))
 refine U8 _ (i64 v5) (A3q rfl) (fun w29=>⟨_,[(.d (.agg (L7 v4))),(.d (.agg (L7 v3)))],_,_,(by simp only [A3 w29];rfl),rfl,A2,B1g _ _ _ (C7 w29 hv5),(.inl rfl)⟩) ?_
 refine gv rfl (A3q rfl) (vb rfl rfl rfl) (gf rfl (fun w31=>(C5v (A3 w31) (fun hc=>A3 (C5w w31 hc)) rfl)) (sd rfl (A0u rfl rfl (fun hc=>A3 (L6 hc))) (A1 (cc rfl hz4 (fun c8 hz4=> ?_) (fun c8 hz4=> ?_)))))
 refine lr (fun u23 hu23=>sv rfl (A1 (B3 ?_)))
 cases hz4
 obtain rfl:=ez4 _ rfl
 refine ⟨nofun,D7 ?_⟩
 rw [Sum.elim_inr]at h
 cases h
 exact A7 (.inr rfl) (B6 (B4 rfl) E1) (.refl _)
 refine A9 (F9 (D0 fun u24 hu24=>sv rfl (sv rfl (A1 (G3 ?_)))))
 cases hz4
 exact ⟨rfl,(),(sbr rfl rfl)⟩
 refine C3 rfl ?_
 cases hz4
 obtain rfl:=ez4 _ rfl
 refine ⟨nofun,C0 rfl (l_j ?_)⟩
 exact ⟨_,(),rfl,(sbr rfl rfl)⟩
 rintro _ ⟨y2,g3,rfl,q2⟩
 rw [Sum.elim_inl]at h
 refine B5 q2 (A6 (lr (fun u25 hu25=>sp rfl rfl (sl rfl G_hit rfl (B9 (.fn _ _ _) rfl rfl (bs h fun v6 hv6 h=>B1 rfl (rD (C9 (C1a E2 (C9 (A2q G_hit (rD (rD (rD E2)))) E2)) E2)) A2 (A2c _ _ _ hv6) (.inr rfl) (A1 (cc rfl h (fun c9 h=> ?_) (fun c9 h=> ?_)))))))))
 refine lr (fun u26 hu26=>sv rfl (A1 (B3 ?_)))
 cases h
 exact A7 (.inr rfl) (B6 (B4 rfl) E1) (.refl _)
 refine A9 (lr (fun u27 hu27=>sv rfl (A1 (B3 ?_))))
 cases h
 exact A7 (.inr rfl) (B6 (B4 rfl) E1) (.refl _)
noncomputable def B08 (p1:Agent):Option Bool:=
  some p1.Gone
theorem C1e (p1:Agent)(r:Bool)(h:B08 p1=some r):PCall Tryz.prog 79 [(.agg (D2 p1))] (bo r):=by
 refine B8 (fk Tryz.func79 Tryz.ntmps79 m0 (by with_unfolding_all rfl)) (nl rfl) ?_
 unfold B08 at h
 refine B5 (s0:=⟨T [(0,(.d _))],G []⟩) (sbr rfl rfl) ?_
 refine lr (fun u1 hu1=>sn rfl rfl (sv rfl (A1 (lr (fun u2 hu2=>sp rfl rfl (sl rfl G_hit rfl (sv rfl (A1 (B3 ?_)))))))))
 cases h
 exact A7 (.inr rfl) (B6 (B4 rfl) E1) (.refl _)
noncomputable def I7 (p1:(List Agent))(x1:Int):Option (Stp Int (Sum Unit Int)):=
  cond (decide (x1< (p1.length:Int))) ((D6 p1 x1).bind fun v1=>(B08 v1).bind fun v2=>cond v2 (some (.out (.inr x1))) (some (.go (w64 (x1+1))))) (some (.out (.inl ())))
noncomputable def J8 (p1:(List Agent)):Option Int:=
  thenS (loop (I7 p1) 0) (fun _=>some (-1)) (fun r=>some r)
theorem A3f (p1:(List Agent))(r:Int)(h:J8 p1=some r):PCall Tryz.prog 170 [(.list (List.map D2 p1)),(.fn (.func 79) [] [])] (i64 r):=by
 refine B8 (fk Tryz.func170 Tryz.ntmps170 m0 (by with_unfolding_all rfl)) (nl rfl) ?_
 unfold J8 at h
 refine B5 (s0:=⟨T [(0,(.d _)),(1,(.d _))],G []⟩) (sbr rfl rfl) ?_
 refine lr (fun u1 hu1=>sv rfl (A1 (A6 (lr (fun u2 hu2=>sv rfl (sd rfl (E5 rfl) (sv rfl (A1 (js h fun z1 hz1 h=>E0 (fun s=> ∃(y1:Unit) (g1:Unit),z1= .inl y1∧Sb ⟨T [],G []⟩ s) ?_ ?_)))))))))
 refine A8 (E7 (I7 p1) (fun (x1:Int) (g2:Unit)=>⟨T [(0,(dl D2 p1)),(1,(.d (.fn (.func 79) [] []))),(7,(di (p1.length:Int))),(8,(di x1))],G []⟩) 0 () _ hz1 (sbr rfl rfl) ?_)
 intro x1 g2 z2 hz2 ez2
 unfold I7 at hz2
 refine lr (fun u3 hu3=>sv rfl (A1 (A6 (cc rfl hz2 (fun c1 hz2=> ?_) (fun c1 hz2=> ?_)))))
 refine A9 (A6 (A8 (lr (fun u4 hu4=>sv rfl (sv rfl (A1 (lr (fun u5 hu5=>sv rfl (sv rfl (sv rfl (bs hz2 fun v1 hv1 hz2=>sd rfl (E4 rfl rfl hv1 rfl) (sd rfl (C4 rfl hv1 rfl rfl) (bs hz2 fun v2 hv2 hz2=>B1 rfl rfl A2 (C1e _ _ hv2) (.inl rfl) (A1 (cc rfl hz2 (fun c2 hz2=> ?_) (fun c2 hz2=> ?_))))))))))))))))
 refine lr (fun u6 hu6=>sv rfl (sv rfl (A1 (B3 ?_))))
 cases hz2
 obtain rfl:=ez2 _ rfl
 refine ⟨nofun,D7 ?_⟩
 rw [Sum.elim_inr]at h
 cases h
 exact A7 (.inr rfl) (B6 (B4 rfl) E1) (.refl _)
 refine A9 (F9 (D0 fun u7 hu7=>sv rfl (sv rfl (A1 (G3 ?_)))))
 cases hz2
 exact ⟨rfl,(),(sbr rfl rfl)⟩
 refine C3 rfl ?_
 cases hz2
 obtain rfl:=ez2 _ rfl
 refine ⟨nofun,C0 rfl (l_j ?_)⟩
 exact ⟨_,(),rfl,(sbr rfl rfl)⟩
 rintro _ ⟨y1,g1,rfl,q1⟩
 rw [Sum.elim_inl]at h
 refine B5 q1 (lr (fun u8 hu8=>sv rfl (A1 (B3 ?_))))
 cases h
 exact A7 (.inr rfl) (B6 (B4 rfl) E1) (.refl _)
noncomputable def I8 (p1:(List Agent)):Option Bool:=
  (J8 p1).bind fun v1=>some (decide (v1≥0))
theorem A2j (p1:(List Agent))(r:Bool)(h:I8 p1=some r):PCall Tryz.prog 78 [(.list (List.map D2 p1)),(.fn (.func 79) [] [])] (bo r):=by
 refine B8 (fk Tryz.func78 Tryz.ntmps78 m0 (by with_unfolding_all rfl)) (nl rfl) ?_
 unfold I8 at h
 refine B5 (s0:=⟨T [(0,(.d _)),(1,(.d _))],G []⟩) (sbr rfl rfl) ?_
 refine lr (fun u1 hu1=>sv rfl (A1 (lr (fun u2 hu2=>sv rfl (sv rfl (bs h fun v1 hv1 h=>B1 rfl rfl A2 (A3f _ _ hv1) (.inl rfl) (sv rfl (sv rfl (A1 (B3 ?_))))))))))
 cases h
 exact A7 (.inr rfl) (B6 (B4 rfl) E1) (.refl _)
noncomputable def A4n (p1:State)(p2:Int):Option Bool:=
  ((cond ((decide (p2≥0))&& (decide (p2< (p1.Agents.length:Int)))) (D6 p1.Agents p2) (some default))).bind fun v1=>((cond (((decide (p2≥0))&& (decide (p2< (p1.Agents.length:Int))))&& (!v1.Gone)) (D6 p1.Agents p2) (some default))).bind fun v2=>some ((((decide (p2≥0))&& (decide (p2< (p1.Agents.length:Int))))&& (!v1.Gone))&& (decide (v2.Begin≤p1.Tick)))
theorem A8a (p1:State)(p2:Int)(r:Bool)(h:A4n p1 p2=some r):PCall Tryz.prog 36 [(.agg (A2s p1)),(i64 p2)] (bo r):=by
 refine B8 (fk Tryz.func36 Tryz.ntmps36 m0 (by with_unfolding_all rfl)) (nl rfl) ?_
 unfold A4n at h
 refine B5 (s0:=⟨T [(0,(.d _)),(1,(.d _))],G []⟩) (sbr rfl rfl) ?_
 refine lr (fun u1 hu1=>sn rfl rfl (sv rfl (A1 (A6 (I6 rfl fun u2 hu2=>sv rfl (sv rfl (sv rfl (gt rfl (fun _=>rfl) (gp rfl (A19 rfl) (fun _=>rfl) (gt rfl (vl rfl G_hit rfl) (gt rfl (fun w4=>(E5 (A3 w4))) (gt rfl (fun w5=>(V8 (A3 w5) (A3 w5) rfl)) (sa rfl rfl rfl (sv rfl (gp rfl (A19 rfl) (fun _=>rfl) (gt rfl (vl rfl G_hit rfl) (gt rfl (fun _=>rfl) (bs h fun v1 hv1 h=>gt rfl (fun w9=>(E4 (A3 w9) (A3 w9) (C7 w9 hv1) rfl)) ?_))))))))))))))))))
 refine gt rfl (fun w10=>(by simp only [A3 w10];rfl)) ?_
 refine gt rfl (fun w11=>(F3 (A3 w11) (C7 w11 hv1) rfl)) ?_
 refine Z7 _ (.d (bo (!v1.Gone))) rfl (A19 rfl) (fun w12=>(by simp only [A3 w12];rfl)) ?_
 refine sa rfl rfl rfl (sv rfl (gp rfl (A19 rfl) (fun _=>rfl) (gt rfl (vl rfl G_hit rfl) (gt rfl (fun _=>rfl) (bs h fun v2 hv2 h=>gt rfl (fun w16=>(E4 (A3 w16) (A3 w16) (C7 w16 hv2) rfl)) ?_)))))
 refine gt rfl (fun w17=>(by simp only [A3 w17];rfl)) ?_
 refine gt rfl (fun w18=>(F3 (A3 w18) (C7 w18 hv2) rfl)) (gp rfl (A19 rfl) (fun _=>rfl) (gt rfl (vl rfl G_hit rfl) (gt rfl (fun w21=>(V8 (A3 w21) (A3 w21) rfl)) (sa rfl rfl rfl (sv rfl (A1 (B3 ?_)))))))
 cases h
 exact A7 (.inr rfl) (B6 (B4 rfl) E1) (.refl _)
noncomputable def A7z (p1:Agent):Option Bool:=
  some ((((decide (p1.S≥0))&& (decide (p1.S≤1099511627776)))&& (decide (p1.Len≥0)))&& (decide (p1.Len≤1099511627776)))
theorem B30 (p1:Agent)(r:Bool)(h:A7z p1=some r):PCall Tryz.prog 138 [(.agg (D2 p1))] (bo r):=by
 refine B8 (fk Tryz.func138 Tryz.ntmps138 m0 (by with_unfolding_all rfl)) (nl rfl) ?_
 unfold A7z at h
 refine B5 (s0:=⟨T [(0,(.d _))],G []⟩) (sbr rfl rfl) ?_
 refine lr (fun u1 hu1=>sn rfl rfl (sv rfl (A1 (lr (fun u2 hu2=>sp rfl rfl (sl rfl G_hit rfl (sv rfl (sv rfl (gp rfl (A19 rfl) (fun _=>rfl) (gt rfl (vl rfl G_hit rfl) (gt rfl (vb rfl rfl rfl) (sa rfl rfl rfl (sv rfl (gp rfl (A19 rfl) (fun _=>rfl) (gt rfl (vl rfl G_hit rfl) (gt rfl (vb rfl rfl rfl) (sa rfl rfl rfl (sv rfl (gp rfl (A19 rfl) (fun _=>rfl) (gt rfl (vl rfl G_hit rfl) (gt rfl (vb rfl rfl rfl) (sa rfl rfl rfl (sv rfl (A1 (B3 ?_)))))))))))))))))))))))))
 cases h
 exact A7 (.inr rfl) (B6 (B4 rfl) E1) (.refl _)
noncomputable def A08 (p1:Int):Option Bool:=
  some (p1 !=p1)
theorem A4c (p1:Int)(r:Bool)(h:A08 p1=some r):PCall Tryz.prog 255 [(i64 p1)] (bo r):=by
 refine B8 (fk Tryz.func255 Tryz.ntmps255 m0 (by with_unfolding_all rfl)) (nl rfl) ?_
 unfold A08 at h
 refine B5 (s0:=⟨T [(0,(.d _))],G []⟩) (sbr rfl rfl) ?_
 refine lr (fun u1 hu1=>sv rfl (A1 (lr (fun u2 hu2=>sv rfl (sv rfl (sv rfl (sv rfl (A1 (B3 ?_)))))))))
 cases h
 exact A7 (.inr rfl) (B6 (B4 rfl) E1) (.refl _)
end Go.Abs.World
