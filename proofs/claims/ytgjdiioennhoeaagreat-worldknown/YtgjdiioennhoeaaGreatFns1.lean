/-
  The Go functions that WorldKnown reaches, as plain Lean functions, and the proofs that the program computes them.
-/
import Derived.Test.YtgjdiioennhoeaaGreatCoreD
import Derived.Test.YtgjdiioennhoeaaGreatProg
import Derived.KernelRfl
import Derived.IntWalk
import Derived.Shelf.SlicesE.Compact
set_option maxRecDepth 20000
set_option maxHeartbeats 4000000
set_option linter.unusedVariables false
namespace Go.Abs.World
open Go Go.Abs Go.Proofs
attribute [local irreducible] T9 B5q AWL
structure Spot where
  X:Int
  Y:Int
  deriving Inhabited
structure CurveVector where
  x:Int
  y:Int
  deriving Inhabited
structure CurvePiece where
  p:Spot
  v:CurveVector
  l:Int
  start:Int
  deriving Inhabited
abbrev A23:Spot→List D:=fun x=> [(i64 x.X),(i64 x.Y)]
structure Curve where
  Pts:(List Spot)
  deriving Inhabited
abbrev eCurve:Curve→List D:=fun x=> [(.list (List.map A23 x.Pts))]
structure Stay where
  Agent_:Int
  Zone_:Int
  Since:Int
  Rank:Int
  deriving Inhabited
abbrev M2:Stay→List D:=fun x=> [(i64 x.Agent_),(i64 x.Zone_),(i64 x.Since),(i64 x.Rank)]
abbrev A5:Int→List D:=fun x=> [.v (.int .i64 x)]
structure Lane where
  Kind:Int
  Curve_:Curve
  Half:Int
  Limit:Int
  Next:(List Int)
  deriving Inhabited
structure Part where
  Lane_:Int
  From:Int
  To:Int
  Rank:Int
  deriving Inhabited
structure Zone where
  Parts:(List Part)
  Signal_:Int
  deriving Inhabited
structure Phase where
  Ticks:Int
  Green:(List Int)
  deriving Inhabited
structure Signal where
  Offset:Int
  Phases:(List Phase)
  deriving Inhabited
structure Work where
  Lane_:Int
  From:Int
  To:Int
  Begin:Int
  End:Int
  Limit:Int
  deriving Inhabited
structure Map where
  Version:Int
  Lanes:(List Lane)
  Zones:(List Zone)
  Signals:(List Signal)
  Works:(List Work)
  deriving Inhabited
abbrev B39:Lane→List D:=fun x=> [(i64 x.Kind),(.list (List.map A23 x.Curve_.Pts)),(i64 x.Half),(i64 x.Limit),(.list (List.map A5 x.Next))]
abbrev B0n:Part→List D:=fun x=> [(i64 x.Lane_),(i64 x.From),(i64 x.To),(i64 x.Rank)]
abbrev B0c:Zone→List D:=fun x=> [(.list (List.map B0n x.Parts)),(i64 x.Signal_)]
abbrev A99:Phase→List D:=fun x=> [(i64 x.Ticks),(.list (List.map A5 x.Green))]
abbrev B0o:Signal→List D:=fun x=> [(i64 x.Offset),(.list (List.map A99 x.Phases))]
abbrev B94:Work→List D:=fun x=> [(i64 x.Lane_),(i64 x.From),(i64 x.To),(i64 x.Begin),(i64 x.End),(i64 x.Limit)]
structure Agent where
  Route:(List Int)
  S:Int
  V:Int
  Len:Int
  Begin:Int
  Obey:Bool
  Gone:Bool
  deriving Inhabited
structure Span where
  Lane_:Int
  From:Int
  To:Int
  deriving Inhabited
structure RoadsWay where
  Map_:Map
  lanes:(List Int)
  starts:(List Int)
  length:Int
  deriving Inhabited
abbrev eFn:Nat→List D:=fun x=> [.fn (.func x) [] []]
structure RoadsCheck where
  Map_:Map
  deriving Inhabited
abbrev D1r:(Int×Int×Int)→List D:=fun x=> [(i64 x.1),(i64 x.2.1),(i64 x.2.2)]
structure WorldSpan where
  from_:Int
  to:Int
  deriving Inhabited
abbrev R8:Span→List D:=fun x=> [(i64 x.Lane_),(i64 x.From),(i64 x.To)]
abbrev C4:Agent→List D:=fun x=> [(.list (List.map A5 x.Route)),(i64 x.S),(i64 x.V),(i64 x.Len),(i64 x.Begin),(bo x.Obey),(bo x.Gone)]
structure State where
  Tick:Int
  Agents:(List Agent)
  In:(List Stay)
  deriving Inhabited
structure Crash where
  Tick:Int
  A:Int
  B:Int
  Lane_:Int
  Zone_:Int
  Who:(List Int)
  deriving Inhabited
structure WorldScene where
  m:Map
  before:State
  after:State
  acts:(List Int)
  crashes:(List Crash)
  deriving Inhabited
abbrev X9:Crash→List D:=fun x=> [(i64 x.Tick),(i64 x.A),(i64 x.B),(i64 x.Lane_),(i64 x.Zone_),(.list (List.map A5 x.Who))]
structure Pass where
  Zone_:Int
  Part_:Int
  From:Int
  To:Int
  deriving Inhabited
abbrev A1m:Pass→List D:=fun x=> [(i64 x.Zone_),(i64 x.Part_),(i64 x.From),(i64 x.To)]
abbrev D1d:(List Agent)→List D:=fun x=> [.list (List.map C4 x)]
abbrev D1s:(List Stay)→List D:=fun x=> [.list (List.map M2 x)]
structure Point where
  X:Int
  Y:Int
  V:Int
  deriving Inhabited
structure Scan where
  Stamp:Int
  Seen:(List Span)
  Points:(List Point)
  deriving Inhabited
structure WorldBar where
  front:Spot
  rear:Spot
  deriving Inhabited
structure WorldLooks where
  m:Map
  eye:Spot
  view:Int
  bodies:(List (List Span))
  bars:(List WorldBar)
  deriving Inhabited
abbrev A84:(List Span)→List D:=fun x=> [.list (List.map R8 x)]
abbrev A0u:WorldBar→List D:=fun x=> [(i64 x.front.X),(i64 x.front.Y),(i64 x.rear.X),(i64 x.rear.Y)]
abbrev B4z:Point→List D:=fun x=> [(i64 x.X),(i64 x.Y),(i64 x.V)]
structure Mark where
  Stamp:Int
  Lo:Int
  Hi:Int
  deriving Inhabited
structure Anon7 where
  x:Int
  y:Int
  signed:Bool
  code:Int
  deriving Inhabited
structure RuntimeBoundsError where
  x:Int
  y:Int
  signed:Bool
  code:Int
  deriving Inhabited
structure Anon13 where
  msg:ByteArray
  addr:Int
  deriving Inhabited
structure RuntimeErrorAddressString where
  msg:ByteArray
  addr:Int
  deriving Inhabited
structure Anon24 where
  Tick:Int
  Agents:(List Agent)
  In:(List Stay)
  deriving Inhabited
structure Anon32 where
  Version:Int
  Lanes:(List Lane)
  Zones:(List Zone)
  Signals:(List Signal)
  Works:(List Work)
  deriving Inhabited
structure Anon44 where
  Route:(List Int)
  S:Int
  V:Int
  Len:Int
  Begin:Int
  Obey:Bool
  Gone:Bool
  deriving Inhabited
structure Anon60 where
  Pts:(List Spot)
  deriving Inhabited
structure Anon62 where
  Kind:Int
  Curve_:Curve
  Half:Int
  Limit:Int
  Next:(List Int)
  deriving Inhabited
structure Anon72 where
  R:Int
  S:Int
  V:Int
  Len:Int
  Begin:Int
  Disobeys:Bool
  deriving Inhabited
structure KitActor where
  R:Int
  S:Int
  V:Int
  Len:Int
  Begin:Int
  Disobeys:Bool
  deriving Inhabited
structure Anon76 where
  Tick:Int
  A:Int
  B:Int
  Lane_:Int
  Zone_:Int
  Who:(List Int)
  deriving Inhabited
structure Anon82 where
  Stamp:Int
  Lo:Int
  Hi:Int
  deriving Inhabited
structure Anon92 where
  Lane_:Int
  From:Int
  To:Int
  deriving Inhabited
structure Anon98 where
  Stamp:Int
  Seen:(List Span)
  Points:(List Point)
  deriving Inhabited
structure Anon103 where
  X:Int
  Y:Int
  deriving Inhabited
structure Anon106 where
  X:Int
  Y:Int
  V:Int
  deriving Inhabited
structure Anon113 where
  Lane_:Int
  From:Int
  To:Int
  Rank:Int
  deriving Inhabited
structure Anon116 where
  Parts:(List Part)
  Signal_:Int
  deriving Inhabited
structure Anon119 where
  Offset:Int
  Phases:(List Phase)
  deriving Inhabited
structure Anon122 where
  Lane_:Int
  From:Int
  To:Int
  Begin:Int
  End:Int
  Limit:Int
  deriving Inhabited
structure Anon126 where
  Agent_:Int
  Zone_:Int
  Since:Int
  Rank:Int
  deriving Inhabited
structure Anon134 where
  m:Map
  before:State
  after:State
  acts:(List Int)
  crashes:(List Crash)
  deriving Inhabited
structure Anon164 where
  s:ByteArray
  bad:Bool
  deriving Inhabited
structure WorldReader where
  s:ByteArray
  bad:Bool
  deriving Inhabited
structure Anon171 where
  s:ByteArray
  bad:Bool
  deriving Inhabited
structure Ref04Reader where
  s:ByteArray
  bad:Bool
  deriving Inhabited
structure Anon190 where
  from_:Int
  to:Int
  deriving Inhabited
structure Anon207 where
  Ticks:Int
  Green:(List Int)
  deriving Inhabited
structure Anon211 where
  Map_:Map
  deriving Inhabited
structure Anon228 where
  Zone_:Int
  Part_:Int
  From:Int
  To:Int
  deriving Inhabited
structure Anon245 where
  m:Map
  eye:Spot
  view:Int
  bodies:(List (List Span))
  bars:(List WorldBar)
  deriving Inhabited
structure Anon247 where
  front:Spot
  rear:Spot
  deriving Inhabited
structure Anon252 where
  x:Int
  y:Int
  deriving Inhabited
structure Anon254 where
  p:Spot
  v:CurveVector
  l:Int
  start:Int
  deriving Inhabited
structure Anon259 where
  Map_:Map
  lanes:(List Int)
  starts:(List Int)
  length:Int
  deriving Inhabited
abbrev A9a:WorldScene→List D:=fun x=> [(i64 x.m.Version),(.list (List.map B39 x.m.Lanes)),(.list (List.map B0c x.m.Zones)),(.list (List.map B0o x.m.Signals)),(.list (List.map B94 x.m.Works)),(i64 x.before.Tick),(.list (List.map C4 x.before.Agents)),(.list (List.map M2 x.before.In)),(i64 x.after.Tick),(.list (List.map C4 x.after.Agents)),(.list (List.map M2 x.after.In)),(.list (List.map A5 x.acts)),(.list (List.map X9 x.crashes))]
abbrev T7:WorldScene→List AV:=fun x=> [(.d (i64 x.m.Version)),(.d (.list (List.map B39 x.m.Lanes))),(.d (.list (List.map B0c x.m.Zones))),(.d (.list (List.map B0o x.m.Signals))),(.d (.list (List.map B94 x.m.Works))),(.d (i64 x.before.Tick)),(.d (.list (List.map C4 x.before.Agents))),(.d (.list (List.map M2 x.before.In))),(.d (i64 x.after.Tick)),(.d (.list (List.map C4 x.after.Agents))),(.d (.list (List.map M2 x.after.In))),(.d (.list (List.map A5 x.acts))),(.d (.list (List.map X9 x.crashes)))]
abbrev A9b:WorldLooks→List D:=fun x=> [(i64 x.m.Version),(.list (List.map B39 x.m.Lanes)),(.list (List.map B0c x.m.Zones)),(.list (List.map B0o x.m.Signals)),(.list (List.map B94 x.m.Works)),(i64 x.eye.X),(i64 x.eye.Y),(i64 x.view),(.list (List.map A84 x.bodies)),(.list (List.map A0u x.bars))]
abbrev A70:WorldLooks→List AV:=fun x=> [(.d (i64 x.m.Version)),(.d (.list (List.map B39 x.m.Lanes))),(.d (.list (List.map B0c x.m.Zones))),(.d (.list (List.map B0o x.m.Signals))),(.d (.list (List.map B94 x.m.Works))),(.d (i64 x.eye.X)),(.d (i64 x.eye.Y)),(.d (i64 x.view)),(.d (.list (List.map A84 x.bodies))),(.d (.list (List.map A0u x.bars)))]
abbrev C6j:RoadsWay→List D:=fun x=> [(i64 x.Map_.Version),(.list (List.map B39 x.Map_.Lanes)),(.list (List.map B0c x.Map_.Zones)),(.list (List.map B0o x.Map_.Signals)),(.list (List.map B94 x.Map_.Works)),(.list (List.map A5 x.lanes)),(.list (List.map A5 x.starts)),(i64 x.length)]
abbrev A4k:RoadsWay→List AV:=fun x=> [(.d (i64 x.Map_.Version)),(.d (.list (List.map B39 x.Map_.Lanes))),(.d (.list (List.map B0c x.Map_.Zones))),(.d (.list (List.map B0o x.Map_.Signals))),(.d (.list (List.map B94 x.Map_.Works))),(.d (.list (List.map A5 x.lanes))),(.d (.list (List.map A5 x.starts))),(.d (i64 x.length))]
abbrev Y0:Agent→List AV:=fun x=> [(.d (.list (List.map A5 x.Route))),(.d (i64 x.S)),(.d (i64 x.V)),(.d (i64 x.Len)),(.d (i64 x.Begin)),(.d (bo x.Obey)),(.d (bo x.Gone))]
abbrev D1t:Work→List AV:=fun x=> [(.d (i64 x.Lane_)),(.d (i64 x.From)),(.d (i64 x.To)),(.d (i64 x.Begin)),(.d (i64 x.End)),(.d (i64 x.Limit))]
abbrev B5c:CurvePiece→List D:=fun x=> [(i64 x.p.X),(i64 x.p.Y),(i64 x.v.x),(i64 x.v.y),(i64 x.l),(i64 x.start)]
abbrev A32:CurvePiece→List AV:=fun x=> [(.d (i64 x.p.X)),(.d (i64 x.p.Y)),(.d (i64 x.v.x)),(.d (i64 x.v.y)),(.d (i64 x.l)),(.d (i64 x.start))]
abbrev A5o:Map→List D:=fun x=> [(i64 x.Version),(.list (List.map B39 x.Lanes)),(.list (List.map B0c x.Zones)),(.list (List.map B0o x.Signals)),(.list (List.map B94 x.Works))]
abbrev A02:Map→List AV:=fun x=> [(.d (i64 x.Version)),(.d (.list (List.map B39 x.Lanes))),(.d (.list (List.map B0c x.Zones))),(.d (.list (List.map B0o x.Signals))),(.d (.list (List.map B94 x.Works)))]
abbrev C85:Lane→List AV:=fun x=> [(.d (i64 x.Kind)),(.d (.list (List.map A23 x.Curve_.Pts))),(.d (i64 x.Half)),(.d (i64 x.Limit)),(.d (.list (List.map A5 x.Next)))]
abbrev C4y:Part→List AV:=fun x=> [(.d (i64 x.Lane_)),(.d (i64 x.From)),(.d (i64 x.To)),(.d (i64 x.Rank))]
abbrev B95:Stay→List AV:=fun x=> [(.d (i64 x.Agent_)),(.d (i64 x.Zone_)),(.d (i64 x.Since)),(.d (i64 x.Rank))]
abbrev C1x:WorldBar→List AV:=fun x=> [(.d (i64 x.front.X)),(.d (i64 x.front.Y)),(.d (i64 x.rear.X)),(.d (i64 x.rear.Y))]
abbrev A1z:State→List D:=fun x=> [(i64 x.Tick),(.list (List.map C4 x.Agents)),(.list (List.map M2 x.In))]
abbrev N3:State→List AV:=fun x=> [(.d (i64 x.Tick)),(.d (.list (List.map C4 x.Agents))),(.d (.list (List.map M2 x.In)))]
abbrev C86:Mark→List D:=fun x=> [(i64 x.Stamp),(i64 x.Lo),(i64 x.Hi)]
abbrev B96:Span→List AV:=fun x=> [(.d (i64 x.Lane_)),(.d (i64 x.From)),(.d (i64 x.To))]
abbrev D1u:Scan→List D:=fun x=> [(i64 x.Stamp),(.list (List.map R8 x.Seen)),(.list (List.map B4z x.Points))]
abbrev D19:Scan→List AV:=fun x=> [(.d (i64 x.Stamp)),(.d (.list (List.map R8 x.Seen))),(.d (.list (List.map B4z x.Points)))]
noncomputable def A9c (p4:(List Int))(x1:(Int× (List Spot))):Option (Stp (Int× (List Spot)) (List Spot)):=
  cond (decide ((w64 (x1.1+1))< (p4.length:Int))) ((D0 p4 x1.1).bind fun v1=>(D0 p4 (w64 (x1.1+1))).bind fun v2=>(A83 x1.2 [(Spot.mk v1 v2)]).bind fun v3=>some (.go ((w64 (x1.1+2)),v3))) (some (.out x1.2))
noncomputable def B4i (p1:Int)(p2:Int)(p3:(List Int))(p4:(List Int)):Option Lane:=
  (loop (A9c p4) (0,[])).bind fun y1=>cond (p1==3) (some (Lane.mk p1 (Curve.mk y1) 500 p2 p3)) (some (Lane.mk p1 (Curve.mk y1) 1500 p2 p3))
theorem B8l (p1:Int)(p2:Int)(p3:(List Int))(p4:(List Int))(r:Lane)(h:B4i p1 p2 p3 p4=some r):PCall Tryz.prog 69 [(i64 p1),(i64 p2),(.list (List.map A5 p3)),(.list (List.map A5 p4))] (.agg (B39 r)):=by
 refine B8 (fk Tryz.func69 Tryz.ntmps69 (fun r=>if r==5 then [1013]else []) (by with_unfolding_all rfl)) (nl rfl) ?_
 unfold B4i at h
 refine B5 (s0:=⟨T [(0,(.d _)),(1,(.d _)),(2,(.d _)),(3,(.d _))],G []⟩) (sbr rfl rfl) ?_
 refine lr (fun u1 hu1=>sn rfl rfl (A1 (lr (fun u2 hu2=>sv rfl (sv rfl (sv rfl (sv rfl (sn rfl rfl (sst rfl G_hit [(di p1),(.d .nilS),(di 1500),(di p2),(dl A5 p3)] rfl (A1 (A7 (lr (fun u3 hu3=>sv rfl (A1 (bs h fun y1 hy1 h=>E7 (fun s=> ∃g1:Nat,Sb ⟨T [(0,(di p1)),(8,(.ptr (8,u1) 0)),(9,(.ptr (9,u2) 0))],G [((8,u1),some (.box 63 (((zs 4).set 1 (.d .nilS))++ [(.d .nilS)]))),((9,u2),some (.box 63 [(di p1),(oS y1 (36,g1)),(di 1500),(di p2),(dl A5 p3)])),((36,g1),oB 104 2 A23 y1)]⟩ s) ?_ ?_)))))))))))))))
 refine A9 (G5 (A9c p4) (fun (x1:(Int× (List Spot))) (g2:Nat)=>⟨T [(0,(di p1)),(3,(dl A5 p4)),(8,(.ptr (8,u1) 0)),(9,(.ptr (9,u2) 0)),(10,(di x1.1))],G [((8,u1),some (.box 63 (((zs 4).set 1 (.d .nilS))++ [(.d .nilS)]))),((9,u2),some (.box 63 [(di p1),(oS x1.2 (36,g2)),(di 1500),(di p2),(dl A5 p3)])),((36,g2),oB 104 2 A23 x1.2)]⟩) (0,[]) 0 _ hy1 (G2 ⟨.of rfl, .of rfl, .of rfl, .of rfl, .of rfl,trivial⟩ (sg rfl (B0 G_hit (.of rfl) (A2n trivial)))) ?_)
 intro x1 g2 z1 hz1 ez1
 unfold A9c at hz1
 refine A7 (lr (fun u4 hu4=>sv rfl (sv rfl (sv rfl (sd rfl (J6 rfl) (sv rfl (A1 (cc rfl hz1 (fun c1 hz1=> ?_) (fun c1 hz1=> ?_)))))))))
 refine B1 (A7 (A9 (I0 rfl fun u5 hu5=>sp rfl rfl (sp rfl rfl (C0 (oS x1.2 (36,g2)) rfl (R7 rfl (gq rfl) rfl) (sv rfl (sv rfl (bs hz1 fun v1 hv1 hz1=>sd rfl (F9 rfl rfl hv1 rfl) (sd rfl (F4 rfl hv1 rfl) (sv rfl (sv rfl (sv rfl (bs hz1 fun v2 hv2 hz1=>sd rfl (F9 rfl rfl hv2 rfl) (sd rfl (F4 rfl hv2 rfl) (sv rfl (C0 (dl A23 [(Spot.mk v1 v2)]) rfl rfl (bs hz1 fun v3 hv3 hz1=>U6 A23 (36,g2) x1.2 (Spot.mk v1 v2) [] _ (Q5 (fun _=>rfl)) rfl (gq rfl) hv3 (sp rfl rfl (sp rfl rfl (sst rfl (gq rfl) [(di p1),(.sl (36,u5)),(di 1500),(di p2),(dl A5 p3)] rfl (A1 (J3 (C7 fun u6 hu6=>sv rfl (sv rfl (sv rfl (A1 (I3 ?_)))))))))))))))))))))))))))
 cases hz1
 exact ⟨rfl,u5,(G2 ⟨.of rfl, .of rfl, .of rfl, .of rfl, .of rfl,trivial⟩ (sg rfl (B0 G_hit (.box (cv (.cons (.of (A6z (A00 hv3)).symm) cw))) (A16 (gq rfl) trivial))))⟩
 refine C5 rfl ?_
 cases hz1
 obtain rfl:=ez1 _ rfl
 refine ⟨nofun,C2 rfl (l_j ?_)⟩
 exact ⟨g2,(G2 ⟨.of rfl, .of rfl, .of rfl,trivial⟩ (B0 G_hit (.of rfl) (sg rfl (B3 (gq rfl) trivial))))⟩
 rintro _ ⟨g1,q1⟩
 refine B5 q1 (A7 (lr (fun u7 hu7=>sv rfl (sv rfl (A1 (cc rfl h (fun c2 h=> ?_) (fun c2 h=> ?_)))))))
 refine C7 fun u8 hu8=>sp rfl rfl (sst rfl (gq rfl) [(di p1),(oS y1 (36,g1)),(di 500),(di p2),(dl A5 p3)] rfl (A1 (lr (fun u9 hu9=>C0 (A31 [(di p1),(oS y1 (36,g1)),(di 500),(di p2),(dl A5 p3)]) rfl (A6 rfl G_hit rfl rfl) (B2a _ _ _ _ _ (A0s _) rfl rfl (gq rfl) (nl rfl) [(di p1),(oS y1 (36,g1)),(di 500),(di p2),(dl A5 p3)] rfl (A1 (B4 ?_)))))))
 cases h
 exact A8 (.inr rfl) (B7 (G1 rfl G_hit (nl rfl) rfl) (B4g (rD (C3 (A3u (gq rfl)) (rD (rD (rD D2))))))) (.agg (ca rfl (.cons ⟨A3t,rfl⟩ (cz rfl))))
 refine B1 (lr (fun u10 hu10=>C0 (A31 [(di p1),(oS y1 (36,g1)),(di 1500),(di p2),(dl A5 p3)]) rfl (A6 rfl (gq rfl) rfl rfl) (B2a _ _ _ _ _ (A0s _) rfl rfl G_hit (nl rfl) [(di p1),(oS y1 (36,g1)),(di 1500),(di p2),(dl A5 p3)] rfl (A1 (B4 ?_)))))
 cases h
 exact A8 (.inr rfl) (B7 (G1 rfl G_hit (nl rfl) rfl) (B4g (rD (C3 (A3u (gq rfl)) (rD (rD (rD D2))))))) (.agg (ca rfl (.cons ⟨A3t,rfl⟩ (cz rfl))))
noncomputable def B1p:Option Map:=
  (B4i 1 1500 [] [0,0,100000,0]).bind fun v1=>(B4i 1 1500 [] [50000,(-50000),50000,50000]).bind fun v2=>some (Map.mk 0 [v1,v2] [(Zone.mk [(Part.mk 0 48000 52000 1),(Part.mk 1 48000 52000 0)] 0)] [] [])
theorem B74 (r:Map)(h:B1p=some r):PCall Tryz.prog 65 [] (.agg (A5o r)):=by
 refine B8 (fk Tryz.func65 Tryz.ntmps65 (fun r=>if r==1 then [1000,1002,1004,1007,1009]else []) (by with_unfolding_all rfl)) (nl rfl) ?_
 unfold B1p at h
 refine B5 (s0:=⟨T [],G []⟩) (sbr rfl rfl) ?_
 refine lr (fun u1 hu1=>sn rfl rfl (A1 (lr (fun u2 hu2=>C0 (dl A5 [0,0,100000,0]) rfl rfl (bs h fun v1 hv1 h=>B2 rfl rfl (.cons (.refl _) (.cons (.refl _) (.cons DLe.nil A2))) (B8l _ _ _ _ _ hv1) (.inl rfl) (C0 (dl A5 [50000,(-50000),50000,50000]) rfl rfl (bs h fun v2 hv2 h=>B2 rfl rfl (.cons (.refl _) (.cons (.refl _) (.cons DLe.nil A2))) (B8l _ _ _ _ _ hv2) (.inl rfl) (C0 (dl B39 [v1,v2]) rfl (B67 B39 ([v1,v2]:List Lane) (fun _=>rfl) rfl rfl ⟨rfl,rfl,rfl,rfl,rfl,rfl,trivial⟩ (fun _=>rfl)) (sv rfl (sv rfl (C0 (dl B0n [(Part.mk 0 48000 52000 1),(Part.mk 1 48000 52000 0)]) rfl rfl (sv rfl (C0 (dl B0c [(Zone.mk [(Part.mk 0 48000 52000 1),(Part.mk 1 48000 52000 0)] 0)]) rfl rfl (sv rfl (sst rfl G_hit [(di 0),(dl B39 [v1,v2]),(dl B0c [(Zone.mk [(Part.mk 0 48000 52000 1),(Part.mk 1 48000 52000 0)] 0)]),(.d .nilS),(.d .nilS)] rfl (A1 (B4 ?_)))))))))))))))))
 cases h
 exact A8 (.inr rfl) (B7 (G1 rfl G_hit (nl rfl) rfl) E5) (.agg (ca rfl (ca rfl (ca rfl (.cons ⟨DLe.nil,rfl⟩ (.cons ⟨DLe.nil,rfl⟩ .nil))))))
noncomputable def A03 (p1:Int)(p2:Int)(p3:Int):Option Agent:=
  some (Agent.mk [p1] p2 p3 4000 0 false false)
theorem A17 (p1:Int)(p2:Int)(p3:Int)(r:Agent)(h:A03 p1 p2 p3=some r):PCall Tryz.prog 66 [(i64 p1),(i64 p2),(i64 p3)] (.agg (C4 r)):=by
 refine B8 (fk Tryz.func66 Tryz.ntmps66 (fun r=>if r==1 then [1001]else []) (by with_unfolding_all rfl)) (nl rfl) ?_
 unfold A03 at h
 refine B5 (s0:=⟨T [(0,(.d _)),(1,(.d _)),(2,(.d _))],G []⟩) (sbr rfl rfl) ?_
 refine lr (fun u1 hu1=>sn rfl rfl (A1 (lr (fun u2 hu2=>sv rfl (C0 (dl A5 [p1]) rfl rfl (sv rfl (sv rfl (sv rfl (sst rfl G_hit [(dl A5 [p1]),(di p2),(di p3),(di 4000),(di 0),(.d (bo false)),(.d (bo false))] rfl (A1 (B4 ?_)))))))))))
 cases h
 exact A8 (.inr rfl) (B7 (G1 rfl G_hit (nl rfl) rfl) E5) (.refl _)
noncomputable def A3v (p1:Int)(p2:Int):Option Int:=
  cond ((decide (p1<1))||(decide (p2<1))) (some 0) ((C9m .i64 (w64 ((mm2 false p1 1000000) - 1)) (mm2 false p2 1000000)).bind fun v1=>some (w64 ((w64 (v1* (mm2 false p1 1000000))) - (w64 ((mm2 false p2 1000000)* (w64 ((w64 (v1* (w64 (v1+1)))).tdiv 2)))))))
theorem A5y (p1:Int)(p2:Int)(r:Int)(h:A3v p1 p2=some r):PCall Tryz.prog 41 [(i64 p1),(i64 p2)] (i64 r):=by
 refine B8 (fk Tryz.func41 Tryz.ntmps41 m0 (by with_unfolding_all rfl)) (nl rfl) ?_
 unfold A3v at h
 refine B5 (s0:=⟨T [(0,(.d _)),(1,(.d _))],G []⟩) (sbr rfl rfl) ?_
 refine lr (fun u1 hu1=>sv rfl (A1 (A7 (lr (fun u2 hu2=>sv rfl (sv rfl (sv rfl (gf rfl (fun _=>rfl) (gf rfl (vb rfl rfl rfl) (sd rfl (A49 rfl rfl (fun hc=>A4 (S3 hc))) (A1 (cc rfl h (fun c1 h=> ?_) (fun c1 h=> ?_)))))))))))))
 refine lr (fun u3 hu3=>sv rfl (A1 (B4 ?_)))
 cases h
 exact A8 (.inr rfl) (B7 (B6 rfl) E5) (.refl _)
 refine B1 (lr (fun u4 hu4=>sv rfl (sv rfl (sv rfl (sv rfl (sv rfl (sv rfl (A1 (lr (fun u5 hu5=>sv rfl (sv rfl (sv rfl (bs h fun v1 hv1 h=>sd rfl (D0w rfl rfl hv1) (sv rfl (A1 (lr (fun u6 hu6=>sv rfl (sv rfl (sv rfl (sv rfl (sv rfl (sv rfl (sv rfl (sv rfl (sv rfl (sv rfl (sv rfl (sv rfl (A1 (B4 ?_))))))))))))))))))))))))))))))
 cases h
 exact A8 (.inr rfl) (B7 (B6 rfl) E5) (.refl _)
noncomputable def A71 (p1:Agent):Option Bool:=
  some ((((decide (p1.S≥0))&& (decide (p1.S≤1099511627776)))&& (decide (p1.Len≥0)))&& (decide (p1.Len≤1099511627776)))
theorem B2e (p1:Agent)(r:Bool)(h:A71 p1=some r):PCall Tryz.prog 138 [(.agg (C4 p1))] (bo r):=by
 refine B8 (fk Tryz.func138 Tryz.ntmps138 m0 (by with_unfolding_all rfl)) (nl rfl) ?_
 unfold A71 at h
 refine B5 (s0:=⟨T [(0,(.d _))],G []⟩) (sbr rfl rfl) ?_
 refine lr (fun u1 hu1=>sn rfl rfl (sv rfl (A1 (lr (fun u2 hu2=>sp rfl rfl (sl rfl G_hit rfl (sv rfl (sv rfl (gp rfl (V5 rfl) (fun _=>rfl) (gt rfl (vl rfl G_hit rfl) (gt rfl (vb rfl rfl rfl) (sa rfl rfl rfl (sv rfl (gp rfl (V5 rfl) (fun _=>rfl) (gt rfl (vl rfl G_hit rfl) (gt rfl (vb rfl rfl rfl) (sa rfl rfl rfl (sv rfl (gp rfl (V5 rfl) (fun _=>rfl) (gt rfl (vl rfl G_hit rfl) (gt rfl (vb rfl rfl rfl) (sa rfl rfl rfl (sv rfl (A1 (B4 ?_)))))))))))))))))))))))))
 cases h
 exact A8 (.inr rfl) (B7 (B6 rfl) E5) (.refl _)
noncomputable def W4 (p1:Int)(p2:Int)(p3:Int):Option Bool:=
  some ((decide (p2≤p1))&& (decide (p1≤p3)))
theorem A04 (p1:Int)(p2:Int)(p3:Int)(r:Bool)(h:W4 p1 p2 p3=some r):PCall Tryz.prog 209 [(i64 p1),(i64 p2),(i64 p3)] (bo r):=by
 refine B8 (fk Tryz.func209 Tryz.ntmps209 m0 (by with_unfolding_all rfl)) (nl rfl) ?_
 unfold W4 at h
 refine B5 (s0:=⟨T [(0,(.d _)),(1,(.d _)),(2,(.d _))],G []⟩) (sbr rfl rfl) ?_
 refine lr (fun u1 hu1=>sv rfl (A1 (lr (fun u2 hu2=>sv rfl (sv rfl (sv rfl (sv rfl (gt rfl (fun _=>rfl) (gt rfl (fun _=>rfl) (gt rfl (fun w3=>(X7 (A4 w3) (A4 w3) rfl)) (sa rfl rfl rfl (sv rfl (A1 (B4 ?_))))))))))))))
 cases h
 exact A8 (.inr rfl) (B7 (B6 rfl) E5) (.refl _)
noncomputable def A05 (p1:RoadsCheck):Option Int:=
  (W4 p1.Map_.Version 0 1099511627776).bind fun v1=>cond (!v1) (some 2) (cond ((p1.Map_.Lanes.length:Int)==0) (some 6) (cond ((((decide ((p1.Map_.Lanes.length:Int)>12))||(decide ((p1.Map_.Zones.length:Int)>12)))||(decide ((p1.Map_.Signals.length:Int)>4)))||(decide ((p1.Map_.Works.length:Int)>8))) (some 8) (some 0)))
theorem B3a (p1:RoadsCheck)(r:Int)(h:A05 p1=some r):PCall Tryz.prog 148 [(.agg (A5o p1.Map_))] (i64 r):=by
 refine B8 (fk Tryz.func148 Tryz.ntmps148 m0 (by with_unfolding_all rfl)) (nl rfl) ?_
 unfold A05 at h
 refine B5 (s0:=⟨T [(0,(.d _))],G []⟩) (sbr rfl rfl) ?_
 refine lr (fun u1 hu1=>sn rfl rfl (sv rfl (A1 (A7 (A9 (lr (fun u2 hu2=>sp rfl rfl (sp rfl rfl (sl rfl G_hit rfl (bs h fun v1 hv1 h=>B2 rfl rfl A2 (A04 _ _ _ _ hv1) (.inl rfl) (C0 (.d (bo (!v1))) rfl rfl (sv rfl (A1 (cc rfl h (fun c1 h=> ?_) (fun c1 h=> ?_)))))))))))))))
 refine lr (fun u3 hu3=>sv rfl (A1 (B4 ?_)))
 cases h
 exact A8 (.inr rfl) (B7 (B6 rfl) E5) (.refl _)
 refine lr (fun u4 hu4=>sp rfl rfl (sp rfl rfl (sl rfl G_hit rfl (sd rfl (J6 rfl) (sv rfl (sv rfl (A1 (cc rfl h (fun c2 h=> ?_) (fun c2 h=> ?_)))))))))
 refine lr (fun u5 hu5=>sv rfl (A1 (B4 ?_)))
 cases h
 exact A8 (.inr rfl) (B7 (B6 rfl) E5) (.refl _)
 refine lr (fun u6 hu6=>sp rfl rfl (sp rfl rfl (sl rfl G_hit rfl (sd rfl (J6 rfl) (sv rfl (sv rfl (gp rfl (A0h rfl) (fun _=>rfl) ?_)))))))
 refine U0 _ (.ptr _ _) rfl (A0h rfl) (fun w2=>(by simp only [A4 w2];rfl)) ?_
 refine gf rfl (vl rfl G_hit rfl) (gf rfl (fun w4=>(J6 (A4 w4))) (gf rfl (vb rfl rfl rfl) (sd rfl (A49 rfl rfl (fun hc=>A4 (S3 hc))) (sv rfl (gp rfl (A0h rfl) (fun _=>rfl) ?_)))))
 refine U0 _ (.ptr _ _) rfl (A0h rfl) (fun w7=>(by simp only [A4 w7];rfl)) ?_
 refine gf rfl (vl rfl G_hit rfl) (gf rfl (fun w9=>(J6 (A4 w9))) (gf rfl (vb rfl rfl rfl) (sd rfl (A49 rfl rfl (fun hc=>A4 (S3 hc))) (sv rfl (gp rfl (A0h rfl) (fun _=>rfl) ?_)))))
 refine U0 _ (.ptr _ _) rfl (A0h rfl) (fun w12=>(by simp only [A4 w12];rfl)) ?_
 refine gf rfl (vl rfl G_hit rfl) (gf rfl (fun w14=>(J6 (A4 w14))) (gf rfl (vb rfl rfl rfl) (sd rfl (A49 rfl rfl (fun hc=>A4 (S3 hc))) (sv rfl (A1 (cc rfl h (fun c3 h=> ?_) (fun c3 h=> ?_)))))))
 refine lr (fun u7 hu7=>sv rfl (A1 (B4 ?_)))
 cases h
 exact A8 (.inr rfl) (B7 (B6 rfl) E5) (.refl _)
 refine B1 (J3 (lr (fun u8 hu8=>sv rfl (A1 (B4 ?_)))))
 cases h
 exact A8 (.inr rfl) (B7 (B6 rfl) E5) (.refl _)
noncomputable def A20 (p1:Int):Option (Int×Int×Int):=
  cond ((decide (p1<0))||(decide (p1≥4))) (some (0,0,0)) ((D0 ([(0,0,0),(2000,30,90),(1000,20,60),(300,100,300)]:List (Int×Int×Int)) p1).bind fun v1=>some (v1.1,v1.2.1,v1.2.2))
theorem A5z (p1:Int)(r:(Int×Int×Int))(h:A20 p1=some r):PCall Tryz.prog 157 [(i64 p1)] (.tup [(i64 r.1),(i64 r.2.1),(i64 r.2.2)]):=by
 refine B8 (fk Tryz.func157 Tryz.ntmps157 m0 (by with_unfolding_all rfl)) (nl rfl) ?_
 unfold A20 at h
 refine B5 (s0:=⟨T [(0,(.d _))],G []⟩) (sbr rfl rfl) ?_
 refine lr (fun u1 hu1=>sv rfl (sv rfl (sv rfl (A1 (lr (fun u2 hu2=>sv rfl (sv rfl (sv rfl (sv rfl (sn rfl rfl (sst rfl G_hit [(di 0),(di 0),(di 0),(di 2000),(di 30),(di 90),(di 1000),(di 20),(di 60),(di 300),(di 100),(di 300)] rfl (A1 (A7 (lr (fun u3 hu3=>sv rfl (sv rfl (sv rfl (gf rfl (fun _=>rfl) (gf rfl (vb rfl rfl rfl) (sd rfl (A49 rfl rfl (fun hc=>A4 (S3 hc))) (A1 (cc rfl h (fun c1 h=> ?_) (fun c1 h=> ?_)))))))))))))))))))))))
 refine lr (fun u4 hu4=>sv rfl (sv rfl (sv rfl (A1 (B4 ?_)))))
 cases h
 exact A8 (.inr rfl) (C1j (B6 rfl) (B6 rfl) (B6 rfl) E5 E5 E5) (.refl _)
 refine B1 (lr (fun u5 hu5=>sv rfl (bs h fun v1 hv1 h=>sp rfl (C9z rfl rfl hv1 rfl) (sd rfl (C84 (f:=D1r) rfl G_hit hv1 (fun _=>rfl) rfl rfl) (sn rfl rfl (sst rfl G_hit [(di v1.1),(di v1.2.1),(di v1.2.2)] rfl (A1 (A7 (I0 rfl fun u6 hu6=>sp rfl rfl (sl rfl G_hit rfl (sp rfl rfl (sl rfl G_hit rfl (sp rfl rfl (sl rfl G_hit rfl (sv rfl (sv rfl (sv rfl (A1 (B4 ?_)))))))))))))))))))
 cases h
 exact A8 (.inr rfl) (C1j (B6 rfl) (B6 rfl) (B6 rfl) E5 E5 E5) (.refl _)
noncomputable def A60 (p1:(List Spot))(x1:Int):Option (Stp Int (Sum Unit Bool)):=
  cond (decide (x1< (p1.length:Int))) ((D0 p1 x1).bind fun v1=>cond ((decide ((mm2 false v1.X v1.Y)< (-16777216)))||(decide ((mm2 true v1.X v1.Y)>16777216))) (some (.out (.inr false))) (some (.go (w64 (x1+1))))) (some (.out (.inl ())))
noncomputable def A3w (p1:(List Spot)):Option Bool:=
  thenS (loop (A60 p1) 0) (fun _=>some true) (fun r=>some r)
theorem A61 (p1:(List Spot))(r:Bool)(h:A3w p1=some r):PCall Tryz.prog 237 [(.list (List.map A23 p1))] (bo r):=by
 refine B8 (fk Tryz.func237 Tryz.ntmps237 m0 (by with_unfolding_all rfl)) (nl rfl) ?_
 unfold A3w at h
 refine B5 (s0:=⟨T [(0,(.d _))],G []⟩) (sbr rfl rfl) ?_
 refine lr (fun u1 hu1=>sv rfl (A1 (A7 (lr (fun u2 hu2=>sv rfl (sd rfl (J6 rfl) (sv rfl (A1 (js h fun z1 hz1 h=>E7 (fun s=> ∃(y1:Unit) (g1:Unit),z1= .inl y1∧Sb ⟨T [],G []⟩ s) ?_ ?_)))))))))
 refine A9 (G5 (A60 p1) (fun (x1:Int) (g2:Unit)=>⟨T [(5,(dl A23 p1)),(6,(di (p1.length:Int))),(7,(di x1))],G []⟩) 0 () _ hz1 (sbr rfl rfl) ?_)
 intro x1 g2 z2 hz2 ez2
 unfold A60 at hz2
 refine lr (fun u3 hu3=>sv rfl (A1 (A7 (cc rfl hz2 (fun c1 hz2=> ?_) (fun c1 hz2=> ?_)))))
 refine B1 (A7 (A9 (lr (fun u4 hu4=>bs hz2 fun v1 hv1 hz2=>sd rfl (F9 rfl rfl hv1 rfl) (sd rfl (C6 rfl hv1 rfl rfl) (sn rfl rfl (sst rfl G_hit [(di v1.X),(di v1.Y)] rfl (A1 (lr (fun u5 hu5=>sp rfl rfl (sl rfl G_hit rfl (sp rfl rfl (sl rfl G_hit rfl (sv rfl (sv rfl (sv rfl (gp rfl (A0h rfl) (fun _=>rfl) (gf rfl (vl rfl G_hit rfl) (gp rfl (A0h rfl) (fun _=>rfl) (gf rfl (vl rfl G_hit rfl) ?_))))))))))))))))))))
 refine gf rfl (fun w5=>(by simp only [A4 w5];rfl)) ?_
 refine gf rfl (vb rfl rfl rfl) (sd rfl (A49 rfl rfl (fun hc=>A4 (S3 hc))) (A1 (cc rfl hz2 (fun c2 hz2=> ?_) (fun c2 hz2=> ?_))))
 refine lr (fun u6 hu6=>sv rfl (A1 (B4 ?_)))
 cases hz2
 obtain rfl:=ez2 _ rfl
 refine ⟨nofun,G0 ?_⟩
 rw [Sum.elim_inr]at h
 cases h
 exact A8 (.inr rfl) (B7 (B6 rfl) E5) (.refl _)
 refine B1 (J3 (C7 fun u7 hu7=>sv rfl (sv rfl (A1 (I3 ?_)))))
 cases hz2
 exact ⟨rfl,(),(sbr rfl rfl)⟩
 refine C5 rfl ?_
 cases hz2
 obtain rfl:=ez2 _ rfl
 refine ⟨nofun,C2 rfl (l_j ?_)⟩
 exact ⟨_,(),rfl,(sbr rfl rfl)⟩
 rintro _ ⟨y1,g1,rfl,q1⟩
 rw [Sum.elim_inl]at h
 refine B5 q1 (lr (fun u8 hu8=>sv rfl (A1 (B4 ?_))))
 cases h
 exact A8 (.inr rfl) (B7 (B6 rfl) E5) (.refl _)
noncomputable def A3x (p1:Spot)(p2:Spot):Option CurveVector:=
  some (CurveVector.mk (w64 (p2.X - p1.X)) (w64 (p2.Y - p1.Y)))
theorem A62 (p1:Spot)(p2:Spot)(r:CurveVector)(h:A3x p1 p2=some r):PCall Tryz.prog 238 [(.agg [(i64 p1.X),(i64 p1.Y)]),(.agg [(i64 p2.X),(i64 p2.Y)])] (.agg [(i64 r.x),(i64 r.y)]):=by
 refine B8 (fk Tryz.func238 Tryz.ntmps238 m0 (by with_unfolding_all rfl)) (nl rfl) ?_
 unfold A3x at h
 refine B5 (s0:=⟨T [(0,(.d _)),(1,(.d _))],G []⟩) (sbr rfl rfl) ?_
 refine lr (fun u1 hu1=>sn rfl rfl (sn rfl rfl (sn rfl rfl (A1 (lr (fun u2 hu2=>sp rfl rfl (sl rfl (gq rfl) rfl (sp rfl rfl (sl rfl (gq rfl) rfl (sv rfl (sp rfl rfl (sl rfl (gq rfl) rfl (sp rfl rfl (sl rfl (gq rfl) rfl (sv rfl (sv rfl (sst rfl G_hit [(di (w64 (p2.X - p1.X))),(di (w64 (p2.Y - p1.Y)))] rfl (A1 (B4 ?_)))))))))))))))))))
 cases h
 exact A8 (.inr rfl) (B7 (G1 rfl G_hit (nl rfl) rfl) E5) (.refl _)
noncomputable def V3 (p1:CurveVector)(p2:CurveVector):Option Int:=
  some (w64 ((w64 (p1.x*p2.x))+ (w64 (p1.y*p2.y))))
theorem A24 (p1:CurveVector)(p2:CurveVector)(r:Int)(h:V3 p1 p2=some r):PCall Tryz.prog 240 [(.agg [(i64 p1.x),(i64 p1.y)]),(.agg [(i64 p2.x),(i64 p2.y)])] (i64 r):=by
 refine B8 (fk Tryz.func240 Tryz.ntmps240 m0 (by with_unfolding_all rfl)) (nl rfl) ?_
 unfold V3 at h
 refine B5 (s0:=⟨T [(0,(.d _)),(1,(.d _))],G []⟩) (sbr rfl rfl) ?_
 refine lr (fun u1 hu1=>sn rfl rfl (sn rfl rfl (sv rfl (A1 (lr (fun u2 hu2=>sp rfl rfl (sl rfl (gq rfl) rfl (sp rfl rfl (sl rfl G_hit rfl (sv rfl (sp rfl rfl (sl rfl (gq rfl) rfl (sp rfl rfl (sl rfl G_hit rfl (sv rfl (sv rfl (sv rfl (A1 (B4 ?_)))))))))))))))))))
 cases h
 exact A8 (.inr rfl) (B7 (B6 rfl) E5) (.refl _)
noncomputable def A63 (p1:Int)(x1:(Int×Int)):Option (Stp (Int×Int) Int):=
  cond (decide (x1.1<x1.2)) (cond (decide ((w64 ((w64 ((w64 (x1.1+x1.2)).tdiv 2))* (w64 ((w64 (x1.1+x1.2)).tdiv 2))))<p1)) (some (.go ((w64 ((w64 ((w64 (x1.1+x1.2)).tdiv 2))+1)),x1.2))) (some (.go (x1.1,(w64 ((w64 (x1.1+x1.2)).tdiv 2)))))) (some (.out x1.1))
noncomputable def A8w (p1:Int):Option (Int×Bool):=
  (loop (A63 p1) (0,67108864)).bind fun y1=>some (y1,((w64 (y1*y1))==p1))
theorem B6a (p1:Int)(r:(Int×Bool))(h:A8w p1=some r):PCall Tryz.prog 239 [(i64 p1)] (.tup [(i64 r.1),(bo r.2)]):=by
 refine B8 (fk Tryz.func239 Tryz.ntmps239 m0 (by with_unfolding_all rfl)) (nl rfl) ?_
 unfold A8w at h
 refine B5 (s0:=⟨T [(0,(.d _))],G []⟩) (sbr rfl rfl) ?_
 refine lr (fun u1 hu1=>sv rfl (sv rfl (A1 (lr (fun u2 hu2=>sv rfl (sv rfl (A1 (A7 (bs h fun y1 hy1 h=>E7 (fun s=> ∃g1:Unit,Sb ⟨T [(0,(di p1)),(4,(di y1))],G []⟩ s) ?_ ?_)))))))))
 refine A9 (G5 (A63 p1) (fun (x1:(Int×Int)) (g2:Unit)=>⟨T [(0,(di p1)),(4,(di x1.1)),(5,(di x1.2))],G []⟩) (0,67108864) () _ hy1 (sbr rfl rfl) ?_)
 intro x1 g2 z1 hz1 ez1
 unfold A63 at hz1
 refine A7 (lr (fun u3 hu3=>sv rfl (sv rfl (sv rfl (A1 (cc rfl hz1 (fun c1 hz1=> ?_) (fun c1 hz1=> ?_)))))))
 refine B1 (A9 (lr (fun u4 hu4=>sv rfl (sv rfl (sv rfl (sv rfl (sv rfl (A1 (lr (fun u5 hu5=>sv rfl (sv rfl (sv rfl (sv rfl (sv rfl (A1 (cc rfl hz1 (fun c2 hz1=> ?_) (fun c2 hz1=> ?_)))))))))))))))))
 refine C7 fun u6 hu6=>sv rfl (sv rfl (sv rfl (A1 (J3 (I3 ?_)))))
 cases hz1
 exact ⟨rfl,(),(sbr rfl rfl)⟩
 refine C7 fun u7 hu7=>sv rfl (sv rfl (A1 (J3 (I3 ?_))))
 cases hz1
 exact ⟨rfl,(),(sbr rfl rfl)⟩
 refine C5 rfl ?_
 cases hz1
 obtain rfl:=ez1 _ rfl
 refine ⟨nofun,C2 rfl (l_j ?_)⟩
 exact ⟨(),(sbr rfl rfl)⟩
 rintro _ ⟨g1,q1⟩
 refine B5 q1 (lr (fun u8 hu8=>sv rfl (sv rfl (sv rfl (sv rfl (sv rfl (sv rfl (sv rfl (sv rfl (A1 (B4 ?_)))))))))))
 cases h
 exact A8 (.inr rfl) (B4m (B6 rfl) (B6 rfl) E5 E5) (.refl _)
noncomputable def A4l (p1:Curve)(x1:(Int×CurveVector)):Option (Stp (Int×CurveVector) (Sum Unit Int)):=
  cond (decide (x1.1< (w64 ((p1.Pts.length:Int) - 1)))) ((D0 p1.Pts x1.1).bind fun v2=>(D0 p1.Pts (w64 (x1.1+1))).bind fun v3=>(A3x v2 v3).bind fun v4=>(V3 v4 v4).bind fun v5=>(A8w v5).bind fun v6=>cond (!v6.2) (some (.out (.inr 3))) (cond ((decide (v6.1<1000))||(decide (v6.1>1048576))) (some (.out (.inr 2))) (((cond (decide (x1.1>0)) (V3 x1.2 v4) (some default))).bind fun v7=>cond ((decide (x1.1>0))&& (decide (v7≤0))) (some (.out (.inr 12))) (some (.go ((w64 (x1.1+1)),v4)))))) (some (.out (.inl ())))
noncomputable def A57 (p1:Curve):Option Int:=
  cond (decide ((p1.Pts.length:Int)<2)) (some 6) (cond (decide ((p1.Pts.length:Int)>16)) (some 5) ((A3w p1.Pts).bind fun v1=>cond (!v1) (some 2) (thenS (loop (A4l p1) (0,(CurveVector.mk 0 0))) (fun _=>some 0) (fun r=>some r))))
theorem B0p (p1:Curve)(r:Int)(h:A57 p1=some r):PCall Tryz.prog 198 [(.agg [(.list (List.map A23 p1.Pts))])] (i64 r):=by
 refine B8 (fk Tryz.func198 Tryz.ntmps198 m0 (by with_unfolding_all rfl)) (nl rfl) ?_
 unfold A57 at h
 refine B5 (s0:=⟨T [(0,(.d _))],G []⟩) (sbr rfl rfl) ?_
 refine lr (fun u1 hu1=>sn rfl rfl (sv rfl (A1 (A7 (A9 (lr (fun u2 hu2=>sp rfl rfl (sl rfl G_hit rfl (sd rfl (J6 rfl) (sv rfl (sv rfl (A1 (cc rfl h (fun c1 h=> ?_) (fun c1 h=> ?_))))))))))))))
 refine lr (fun u3 hu3=>sv rfl (A1 (B4 ?_)))
 cases h
 exact A8 (.inr rfl) (B7 (B6 rfl) E5) (.refl _)
 refine lr (fun u4 hu4=>sp rfl rfl (sl rfl G_hit rfl (sd rfl (J6 rfl) (sv rfl (sv rfl (A1 (cc rfl h (fun c2 h=> ?_) (fun c2 h=> ?_))))))))
 refine lr (fun u5 hu5=>sv rfl (A1 (B4 ?_)))
 cases h
 exact A8 (.inr rfl) (B7 (B6 rfl) E5) (.refl _)
 refine lr (fun u6 hu6=>sp rfl rfl (sl rfl G_hit rfl (bs h fun v1 hv1 h=>B2 rfl rfl A2 (A61 _ _ hv1) (.inl rfl) (C0 (.d (bo (!v1))) rfl rfl (sv rfl (A1 (cc rfl h (fun c3 h=> ?_) (fun c3 h=> ?_))))))))
 refine lr (fun u7 hu7=>sv rfl (A1 (B4 ?_)))
 cases h
 exact A8 (.inr rfl) (B7 (B6 rfl) E5) (.refl _)
 refine B1 (J3 (lr (fun u8 hu8=>sn rfl rfl (A1 (A7 (lr (fun u9 hu9=>sp rfl rfl (sl rfl (gq rfl) rfl (sd rfl (J6 rfl) (sv rfl (sv rfl (A1 (js h fun z1 hz1 h=>E7 (fun s=> ∃(y1:Unit) (g1:Unit),z1= .inl y1∧Sb ⟨T [],G []⟩ s) ?_ ?_)))))))))))))
 refine A9 (G5 (A4l p1) (fun (x1:(Int×CurveVector)) (g2:Unit)=>⟨T [(1,(.ptr (1,u1) 0)),(3,(.ptr (3,u8) 0)),(26,(di (w64 ((p1.Pts.length:Int) - 1)))),(27,(di x1.1))],G [((1,u1),some (.box 61 [(dl A23 p1.Pts)])),((3,u8),some (.box 253 [(di x1.2.x),(di x1.2.y)]))]⟩) (0,(CurveVector.mk 0 0)) () _ hz1 (sbr rfl rfl) ?_)
 intro x1 g2 z2 hz2 ez2
 unfold A4l at hz2
 refine lr (fun u10 hu10=>sv rfl (A1 (A7 (cc rfl hz2 (fun c4 hz2=> ?_) (fun c4 hz2=> ?_)))))
 refine B1 (A7 (A9 (lr (fun u11 hu11=>sv rfl (sv rfl (A1 (A7 (I0 rfl fun u12 hu12=>sp rfl rfl (sl rfl G_hit rfl (sv rfl (bs hz2 fun v2 hv2 hz2=>sd rfl (F9 rfl rfl hv2 rfl) (sd rfl (C6 rfl hv2 rfl rfl) (sp rfl rfl (sl rfl G_hit rfl (sv rfl (sv rfl (bs hz2 fun v3 hv3 hz2=>sd rfl (F9 rfl rfl hv3 rfl) (sd rfl (C6 rfl hv3 rfl rfl) (bs hz2 fun v4 hv4 hz2=>B2 rfl rfl A2 (A62 _ _ _ hv4) (.inl rfl) (sn rfl rfl (sst rfl G_hit [(di v4.x),(di v4.y)] rfl (A1 (lr (fun u13 hu13=>sd rfl (A6 rfl G_hit rfl rfl) (sd rfl (A6 rfl G_hit rfl rfl) (bs hz2 fun v5 hv5 hz2=>B2 rfl rfl A2 (A24 _ _ _ hv5) (.inl rfl) (bs hz2 fun v6 hv6 hz2=>B2 rfl rfl A2 (B6a _ _ hv6) (.inl rfl) (sv rfl (sv rfl (sv rfl (sv rfl (sv rfl (A1 (A7 (A9 (lr (fun u14 hu14=>sv rfl (C0 (.d (bo (!v6.2))) rfl rfl (sv rfl (A1 (cc rfl hz2 (fun c5 hz2=> ?_) (fun c5 hz2=> ?_))))))))))))))))))))))))))))))))))))))))))
 refine lr (fun u15 hu15=>sv rfl (A1 (B4 ?_)))
 cases hz2
 obtain rfl:=ez2 _ rfl
 refine ⟨nofun,G0 ?_⟩
 rw [Sum.elim_inr]at h
 cases h
 exact A8 (.inr rfl) (B7 (B6 rfl) E5) (.refl _)
 refine lr (fun u16 hu16=>sv rfl (sv rfl (sv rfl (gf rfl (fun _=>rfl) (gf rfl (vb rfl rfl rfl) (sd rfl (A49 rfl rfl (fun hc=>A4 (S3 hc))) (sv rfl (A1 (cc rfl hz2 (fun c6 hz2=> ?_) (fun c6 hz2=> ?_))))))))))
 refine lr (fun u17 hu17=>sv rfl (A1 (B4 ?_)))
 cases hz2
 obtain rfl:=ez2 _ rfl
 refine ⟨nofun,G0 ?_⟩
 rw [Sum.elim_inr]at h
 cases h
 exact A8 (.inr rfl) (B7 (B6 rfl) E5) (.refl _)
 refine lr (fun u18 hu18=>sv rfl (sv rfl (sv rfl (gt rfl (fun w3=>(A6 rfl (gq rfl) rfl rfl)) (gt rfl (fun w4=>(A6 rfl G_hit rfl rfl)) (bs hz2 fun v7 hv7 hz2=> ?_))))))
 refine O5 _ (i64 v7) (V5 rfl) (fun w5=>⟨_,[(.d (.agg [(i64 x1.2.x),(i64 x1.2.y)])),(.d (.agg [(i64 v4.x),(i64 v4.y)]))],_,_,(by simp only [A4 w5];rfl),rfl,A2,A24 _ _ _ (B9 w5 hv7),(.inl rfl)⟩) ?_
 refine gt rfl (vb rfl rfl rfl) (sa rfl rfl rfl (sv rfl (A1 (cc rfl hz2 (fun c7 hz2=> ?_) (fun c7 hz2=> ?_)))))
 refine lr (fun u19 hu19=>sv rfl (A1 (B4 ?_)))
 cases hz2
 obtain rfl:=ez2 _ rfl
 refine ⟨nofun,G0 ?_⟩
 rw [Sum.elim_inr]at h
 cases h
 exact A8 (.inr rfl) (B7 (B6 rfl) E5) (.refl _)
 refine B1 (J3 (C7 fun u20 hu20=>sd rfl (A6 rfl G_hit rfl rfl) (sst rfl (gq rfl) [(di v4.x),(di v4.y)] rfl (A1 (J3 (C7 fun u21 hu21=>sv rfl (sv rfl (A1 (I3 ?_)))))))))
 cases hz2
 exact ⟨rfl,(),(sbr rfl rfl)⟩
 refine C5 rfl ?_
 cases hz2
 obtain rfl:=ez2 _ rfl
 refine ⟨nofun,C2 rfl (l_j ?_)⟩
 exact ⟨_,(),rfl,(sbr rfl rfl)⟩
 rintro _ ⟨y1,g1,rfl,q1⟩
 rw [Sum.elim_inl]at h
 refine B5 q1 (lr (fun u22 hu22=>sv rfl (A1 (B4 ?_))))
 cases h
 exact A8 (.inr rfl) (B7 (B6 rfl) E5) (.refl _)
noncomputable def A33 (p1:(List Int))(p3:Int)(x1:(Int×Int)):Option (Stp (Int×Int) (Sum Unit Bool)):=
  cond (decide (x1.2< (p1.length:Int))) ((D0 p1 x1.2).bind fun v1=>cond ((decide (v1<x1.1))||(decide (v1≥p3))) (some (.out (.inr false))) (some (.go ((w64 (v1+1)),(w64 (x1.2+1)))))) (some (.out (.inl ())))
noncomputable def A34 (p1:(List Int))(p2:Int)(p3:Int):Option Bool:=
  thenS (loop (A33 p1 p3) (p2,0)) (fun _=>some true) (fun r=>some r)
theorem A9d (p1:(List Int))(p2:Int)(p3:Int)(r:Bool)(h:A34 p1 p2 p3=some r):PCall Tryz.prog 210 [(.list (List.map A5 p1)),(i64 p2),(i64 p3)] (bo r):=by
 refine B8 (fk Tryz.func210 Tryz.ntmps210 m0 (by with_unfolding_all rfl)) (nl rfl) ?_
 unfold A34 at h
 refine B5 (s0:=⟨T [(0,(.d _)),(1,(.d _)),(2,(.d _))],G []⟩) (sbr rfl rfl) ?_
 refine lr (fun u1 hu1=>sv rfl (A1 (A7 (lr (fun u2 hu2=>sv rfl (sd rfl (J6 rfl) (sv rfl (A1 (js h fun z1 hz1 h=>E7 (fun s=> ∃(y1:Unit) (g1:Unit),z1= .inl y1∧Sb ⟨T [],G []⟩ s) ?_ ?_)))))))))
 refine A9 (G5 (A33 p1 p3) (fun (x1:(Int×Int)) (g2:Unit)=>⟨T [(1,(di x1.1)),(2,(di p3)),(9,(dl A5 p1)),(10,(di (p1.length:Int))),(11,(di x1.2))],G []⟩) (p2,0) () _ hz1 (sbr rfl rfl) ?_)
 intro x1 g2 z2 hz2 ez2
 unfold A33 at hz2
 refine lr (fun u3 hu3=>sv rfl (A1 (A7 (cc rfl hz2 (fun c1 hz2=> ?_) (fun c1 hz2=> ?_)))))
 refine B1 (A7 (A9 (lr (fun u4 hu4=>bs hz2 fun v1 hv1 hz2=>sd rfl (F9 rfl rfl hv1 rfl) (sd rfl (F4 rfl hv1 rfl) (sv rfl (A1 (A7 (lr (fun u5 hu5=>sv rfl (sv rfl (sv rfl (sv rfl (gf rfl (fun _=>rfl) (gf rfl (fun _=>rfl) (gf rfl (fun w3=>(X7 (A4 w3) (A4 w3) rfl)) (sd rfl (A49 rfl rfl (fun hc=>A4 (S3 hc))) (A1 (cc rfl hz2 (fun c2 hz2=> ?_) (fun c2 hz2=> ?_))))))))))))))))))))
 refine lr (fun u6 hu6=>sv rfl (A1 (B4 ?_)))
 cases hz2
 obtain rfl:=ez2 _ rfl
 refine ⟨nofun,G0 ?_⟩
 rw [Sum.elim_inr]at h
 cases h
 exact A8 (.inr rfl) (B7 (B6 rfl) E5) (.refl _)
 refine B1 (C7 fun u7 hu7=>sv rfl (sv rfl (sv rfl (A1 (J3 (C7 fun u8 hu8=>sv rfl (sv rfl (A1 (I3 ?_)))))))))
 cases hz2
 exact ⟨rfl,(),(sbr rfl rfl)⟩
 refine C5 rfl ?_
 cases hz2
 obtain rfl:=ez2 _ rfl
 refine ⟨nofun,C2 rfl (l_j ?_)⟩
 exact ⟨_,(),rfl,(sbr rfl rfl)⟩
 rintro _ ⟨y1,g1,rfl,q1⟩
 rw [Sum.elim_inl]at h
 refine B5 q1 (lr (fun u9 hu9=>sv rfl (A1 (B4 ?_))))
 cases h
 exact A8 (.inr rfl) (B7 (B6 rfl) E5) (.refl _)
noncomputable def Y4 (p1:RoadsCheck)(x1:Int):Option (Stp Int (Sum Unit Int)):=
  cond (decide (x1< (p1.Map_.Lanes.length:Int))) ((D0 p1.Map_.Lanes x1).bind fun v1=>(A20 v1.Kind).bind fun v2=>cond (v2.1==0) (some (.out (.inr 4))) ((A57 v1.Curve_).bind fun v3=>cond (v3 !=0) (some (.out (.inr v3))) ((W4 v1.Half 200 4000).bind fun v4=>((cond (!(!v4)) (W4 v1.Limit 1 v2.1) (some default))).bind fun v5=>cond ((!v4)||(!v5)) (some (.out (.inr 2))) (cond (decide ((v1.Next.length:Int)>3)) (some (.out (.inr 8))) ((A34 v1.Next (w64 (x1+1)) (p1.Map_.Lanes.length:Int)).bind fun v6=>cond (!v6) (some (.out (.inr 11))) (some (.go (w64 (x1+1))))))))) (some (.out (.inl ())))
noncomputable def A1n (p1:RoadsCheck):Option Int:=
  thenS (loop (Y4 p1) 0) (fun _=>some 0) (fun r=>some r)
theorem B4n (p1:RoadsCheck)(r:Int)(h:A1n p1=some r):PCall Tryz.prog 149 [(.agg (A5o p1.Map_))] (i64 r):=by
 refine B8 (fk Tryz.func149 Tryz.ntmps149 m0 (by with_unfolding_all rfl)) (nl rfl) ?_
 unfold A1n at h
 refine B5 (s0:=⟨T [(0,(.d _))],G []⟩) (sbr rfl rfl) ?_
 refine lr (fun u1 hu1=>sn rfl rfl (sv rfl (A1 (A7 (lr (fun u2 hu2=>sp rfl rfl (sp rfl rfl (sl rfl G_hit rfl (sd rfl (J6 rfl) (sv rfl (A1 (js h fun z1 hz1 h=>E7 (fun s=> ∃(y1:Unit) (g1:Unit),z1= .inl y1∧Sb ⟨T [],G []⟩ s) ?_ ?_))))))))))))
 refine A9 (G5 (Y4 p1) (fun (x1:Int) (g2:Unit)=>⟨T [(1,(.ptr (1,u1) 0)),(11,(dl B39 p1.Map_.Lanes)),(12,(di (p1.Map_.Lanes.length:Int))),(13,(di x1))],G [((1,u1),some (.box 212 (A02 p1.Map_)))]⟩) 0 () _ hz1 (sbr rfl rfl) ?_)
 intro x1 g2 z2 hz2 ez2
 unfold Y4 at hz2
 refine lr (fun u3 hu3=>sv rfl (A1 (A7 (cc rfl hz2 (fun c1 hz2=> ?_) (fun c1 hz2=> ?_)))))
 refine B1 (A7 (A9 (lr (fun u4 hu4=>sv rfl (bs hz2 fun v1 hv1 hz2=>sd rfl (F9 rfl rfl hv1 rfl) (sd rfl (C6 rfl hv1 rfl rfl) (sn rfl rfl (sv rfl (sst rfl G_hit (C85 v1) rfl (A1 (lr (fun u5 hu5=>sp rfl rfl (sl rfl G_hit rfl (bs hz2 fun v2 hv2 hz2=>B2 rfl rfl A2 (A5z _ _ hv2) (.inl rfl) (sv rfl (sv rfl (sv rfl (sv rfl (sv rfl (sv rfl (sv rfl (A1 (A7 (lr (fun u6 hu6=>sv rfl (sv rfl (A1 (cc rfl hz2 (fun c2 hz2=> ?_) (fun c2 hz2=> ?_)))))))))))))))))))))))))))))
 refine lr (fun u7 hu7=>sv rfl (A1 (B4 ?_)))
 cases hz2
 obtain rfl:=ez2 _ rfl
 refine ⟨nofun,G0 ?_⟩
 rw [Sum.elim_inr]at h
 cases h
 exact A8 (.inr rfl) (B7 (B6 rfl) E5) (.refl _)
 refine B1 (A7 (lr (fun u8 hu8=>sp rfl rfl (sd rfl (A6 rfl G_hit rfl rfl) (bs hz2 fun v3 hv3 hz2=>B2 rfl rfl A2 (B0p _ _ hv3) (.inl rfl) (sv rfl (A1 (lr (fun u9 hu9=>sv rfl (sv rfl (A1 (cc rfl hz2 (fun c3 hz2=> ?_) (fun c3 hz2=> ?_)))))))))))))
 refine lr (fun u10 hu10=>sv rfl (sv rfl (A1 (B4 ?_))))
 cases hz2
 obtain rfl:=ez2 _ rfl
 refine ⟨nofun,G0 ?_⟩
 rw [Sum.elim_inr]at h
 cases h
 exact A8 (.inr rfl) (B7 (B6 rfl) E5) (.refl _)
 refine B1 (A9 (lr (fun u11 hu11=>sp rfl rfl (sl rfl G_hit rfl (bs hz2 fun v4 hv4 hz2=>B2 rfl rfl A2 (A04 _ _ _ _ hv4) (.inl rfl) (C0 (.d (bo (!v4))) rfl rfl (sv rfl (gp rfl (A0h rfl) (fun _=>rfl) (gf rfl (vl rfl G_hit rfl) (gf rfl (fun _=>rfl) (bs hz2 fun v5 hv5 hz2=> ?_)))))))))))
 refine O5 _ (bo v5) (A0h rfl) (fun w4=>⟨_,[(di v1.Limit),(di 1),(di v2.1)],_,_,(by simp only [A4 w4];rfl),rfl,A2,A04 _ _ _ _ (B9 w4 hv5),(.inl rfl)⟩) ?_
 refine U0 _ (.d (bo (!v5))) rfl (A0h rfl) (fun w5=>(by simp only [A4 w5];rfl)) ?_
 refine sd rfl (A49 rfl rfl (fun hc=>A4 (S3 hc))) (sv rfl (A1 (cc rfl hz2 (fun c4 hz2=> ?_) (fun c4 hz2=> ?_))))
 refine lr (fun u12 hu12=>sv rfl (A1 (B4 ?_)))
 cases hz2
 obtain rfl:=ez2 _ rfl
 refine ⟨nofun,G0 ?_⟩
 rw [Sum.elim_inr]at h
 cases h
 exact A8 (.inr rfl) (B7 (B6 rfl) E5) (.refl _)
 refine lr (fun u13 hu13=>sp rfl rfl (sl rfl G_hit rfl (sd rfl (J6 rfl) (sv rfl (sv rfl (A1 (cc rfl hz2 (fun c5 hz2=> ?_) (fun c5 hz2=> ?_))))))))
 refine lr (fun u14 hu14=>sv rfl (A1 (B4 ?_)))
 cases hz2
 obtain rfl:=ez2 _ rfl
 refine ⟨nofun,G0 ?_⟩
 rw [Sum.elim_inr]at h
 cases h
 exact A8 (.inr rfl) (B7 (B6 rfl) E5) (.refl _)
 refine lr (fun u15 hu15=>sp rfl rfl (sl rfl G_hit rfl (sv rfl (sv rfl (sp rfl rfl (sp rfl rfl (sl rfl (gq rfl) rfl (sd rfl (J6 rfl) (bs hz2 fun v6 hv6 hz2=>B2 rfl rfl A2 (A9d _ _ _ _ hv6) (.inl rfl) (C0 (.d (bo (!v6))) rfl rfl (sv rfl (A1 (cc rfl hz2 (fun c6 hz2=> ?_) (fun c6 hz2=> ?_))))))))))))))
 refine lr (fun u16 hu16=>sv rfl (A1 (B4 ?_)))
 cases hz2
 obtain rfl:=ez2 _ rfl
 refine ⟨nofun,G0 ?_⟩
 rw [Sum.elim_inr]at h
 cases h
 exact A8 (.inr rfl) (B7 (B6 rfl) E5) (.refl _)
 refine B1 (J3 (J3 (C7 fun u17 hu17=>sv rfl (sv rfl (A1 (I3 ?_))))))
 cases hz2
 exact ⟨rfl,(),(sbr rfl rfl)⟩
 refine C5 rfl ?_
 cases hz2
 obtain rfl:=ez2 _ rfl
 refine ⟨nofun,C2 rfl (l_j ?_)⟩
 exact ⟨_,(),rfl,(sbr rfl rfl)⟩
 rintro _ ⟨y1,g1,rfl,q1⟩
 rw [Sum.elim_inl]at h
 refine B5 q1 (lr (fun u18 hu18=>sv rfl (A1 (B4 ?_))))
 cases h
 exact A8 (.inr rfl) (B7 (B6 rfl) E5) (.refl _)
noncomputable def W5 (p1:RoadsCheck)(v1:Lane)(v2:Spot)(x2:Int):Option (Stp Int (Sum Unit Int)):=
  cond (decide (x2< (v1.Next.length:Int))) ((D0 v1.Next x2).bind fun v3=>(D0 p1.Map_.Lanes v3).bind fun v4=>cond (v4.Kind !=v1.Kind) (some (.out (.inr 4))) ((D0 p1.Map_.Lanes v3).bind fun v5=>(D0 v5.Curve_.Pts 0).bind fun v6=>cond (!(v6.X==v2.X&& (v6.Y==v2.Y&&true))) (some (.out (.inr 3))) (some (.go (w64 (x2+1)))))) (some (.out (.inl ())))
noncomputable def W6 (p1:RoadsCheck)(x1:Int):Option (Stp Int (Sum Unit Int)):=
  cond (decide (x1< (p1.Map_.Lanes.length:Int))) ((D0 p1.Map_.Lanes x1).bind fun v1=>(D0 v1.Curve_.Pts (w64 ((v1.Curve_.Pts.length:Int) - 1))).bind fun v2=>thenS (loop (W5 p1 v1 v2) 0) (fun _=>some (.go (w64 (x1+1)))) (fun r=>some (.out (.inr r)))) (some (.out (.inl ())))
noncomputable def A0v (p1:RoadsCheck):Option Int:=
  thenS (loop (W6 p1) 0) (fun _=>some 0) (fun r=>some r)
theorem B3l (p1:RoadsCheck)(r:Int)(h:A0v p1=some r):PCall Tryz.prog 150 [(.agg (A5o p1.Map_))] (i64 r):=by
 refine B8 (fk Tryz.func150 Tryz.ntmps150 m0 (by with_unfolding_all rfl)) (nl rfl) ?_
 unfold A0v at h
 refine B5 (s0:=⟨T [(0,(.d _))],G []⟩) (sbr rfl rfl) ?_
 refine lr (fun u1 hu1=>sn rfl rfl (sv rfl (A1 (A7 (lr (fun u2 hu2=>sp rfl rfl (sp rfl rfl (sl rfl G_hit rfl (sd rfl (J6 rfl) (sv rfl (A1 (js h fun z1 hz1 h=>E7 (fun s=> ∃(y1:Unit) (g1:Unit),z1= .inl y1∧Sb ⟨T [],G []⟩ s) ?_ ?_))))))))))))
 refine A9 (G5 (W6 p1) (fun (x1:Int) (g2:Unit)=>⟨T [(1,(.ptr (1,u1) 0)),(10,(dl B39 p1.Map_.Lanes)),(11,(di (p1.Map_.Lanes.length:Int))),(12,(di x1))],G [((1,u1),some (.box 212 (A02 p1.Map_)))]⟩) 0 () _ hz1 (sbr rfl rfl) ?_)
 intro x1 g2 z2 hz2 ez2
 unfold W6 at hz2
 refine lr (fun u3 hu3=>sv rfl (A1 (A7 (cc rfl hz2 (fun c1 hz2=> ?_) (fun c1 hz2=> ?_)))))
 refine B1 (A7 (A9 (lr (fun u4 hu4=>bs hz2 fun v1 hv1 hz2=>sd rfl (F9 rfl rfl hv1 rfl) (sd rfl (C6 rfl hv1 rfl rfl) (sn rfl rfl (sst rfl G_hit (C85 v1) rfl (A1 (lr (fun u5 hu5=>sp rfl rfl (sp rfl rfl (sl rfl G_hit rfl (sp rfl rfl (sp rfl rfl (sl rfl G_hit rfl (sd rfl (J6 rfl) (sv rfl (bs hz2 fun v2 hv2 hz2=>sd rfl (F9 rfl rfl hv2 rfl) (sd rfl (C6 rfl hv2 rfl rfl) (sn rfl rfl (sst rfl G_hit [(di v2.X),(di v2.Y)] rfl (A1 (lr (fun u6 hu6=>sp rfl rfl (sl rfl (gq rfl) rfl (sd rfl (J6 rfl) (sv rfl (A1 (js hz2 fun z3 hz3 hz2=>E7 (fun s=> ∃(y2:Unit) (g3:Unit),z3= .inl y2∧Sb ⟨T [(1,(.ptr (1,u1) 0)),(10,(dl B39 p1.Map_.Lanes)),(11,(di (p1.Map_.Lanes.length:Int))),(12,(di x1))],G [((1,u1),some (.box 212 (A02 p1.Map_)))]⟩ s) ?_ ?_)))))))))))))))))))))))))))))
 refine A9 (G5 (W5 p1 v1 v2) (fun (x2:Int) (g4:Unit)=>⟨T [(1,(.ptr (1,u1) 0)),(4,(.ptr (4,u4) 0)),(5,(.ptr (5,u5) 0)),(10,(dl B39 p1.Map_.Lanes)),(11,(di (p1.Map_.Lanes.length:Int))),(12,(di x1)),(27,(dl A5 v1.Next)),(28,(di (v1.Next.length:Int))),(29,(di x2))],G [((1,u1),some (.box 212 (A02 p1.Map_))),((4,u4),some (.box 63 (C85 v1))),((5,u5),some (.box 104 [(di v2.X),(di v2.Y)]))]⟩) 0 () _ hz3 (sbr rfl rfl) ?_)
 intro x2 g4 z4 hz4 ez4
 unfold W5 at hz4
 refine lr (fun u7 hu7=>sv rfl (A1 (A7 (cc rfl hz4 (fun c2 hz4=> ?_) (fun c2 hz4=> ?_)))))
 refine B1 (A7 (A9 (lr (fun u8 hu8=>bs hz4 fun v3 hv3 hz4=>sd rfl (F9 rfl rfl hv3 rfl) (sd rfl (F4 rfl hv3 rfl) (sv rfl (A1 (A7 (A7 (I0 rfl fun u9 hu9=>sp rfl rfl (sp rfl rfl (sl rfl G_hit rfl (sv rfl (bs hz4 fun v4 hv4 hz4=>sd rfl (F9 rfl rfl hv4 rfl) (sv rfl (sd rfl (F4 rfl hv4 rfl) (sp rfl rfl (sl rfl (gq rfl) rfl (sv rfl (A1 (cc rfl hz4 (fun c3 hz4=> ?_) (fun c3 hz4=> ?_))))))))))))))))))))))
 refine lr (fun u10 hu10=>sv rfl (A1 (B4 ?_)))
 cases hz4
 obtain rfl:=ez4 _ rfl
 refine ⟨nofun,G0 ?_⟩
 rw [Sum.elim_inr]at hz2
 cases hz2
 obtain rfl:=ez2 _ rfl
 refine ⟨nofun,G0 ?_⟩
 rw [Sum.elim_inr]at h
 cases h
 exact A8 (.inr rfl) (B7 (B6 rfl) E5) (.refl _)
 refine B1 (A7 (I0 rfl fun u11 hu11=>sp rfl rfl (sp rfl rfl (sl rfl G_hit rfl (sv rfl (bs hz4 fun v5 hv5 hz4=>sd rfl (F9 rfl rfl hv5 rfl) (sv rfl (sv rfl (sd rfl (F4 rfl hv5 rfl) (bs hz4 fun v6 hv6 hz4=>sd rfl (F9 rfl rfl hv6 rfl) (sd rfl (C6 rfl hv6 rfl rfl) (sd rfl (A6 rfl (gq rfl) rfl rfl) (C0 (.d (bo (!(v6.X==v2.X&& (v6.Y==v2.Y&&true))))) rfl rfl (A1 (cc rfl hz4 (fun c4 hz4=> ?_) (fun c4 hz4=> ?_))))))))))))))))
 refine lr (fun u12 hu12=>sv rfl (A1 (B4 ?_)))
 cases hz4
 obtain rfl:=ez4 _ rfl
 refine ⟨nofun,G0 ?_⟩
 rw [Sum.elim_inr]at hz2
 cases hz2
 obtain rfl:=ez2 _ rfl
 refine ⟨nofun,G0 ?_⟩
 rw [Sum.elim_inr]at h
 cases h
 exact A8 (.inr rfl) (B7 (B6 rfl) E5) (.refl _)
 refine B1 (J3 (C7 fun u13 hu13=>sv rfl (sv rfl (A1 (I3 ?_)))))
 cases hz4
 exact ⟨rfl,(),(sbr rfl rfl)⟩
 refine C5 rfl ?_
 cases hz4
 obtain rfl:=ez4 _ rfl
 refine ⟨nofun,C2 rfl (l_j ?_)⟩
 exact ⟨_,(),rfl,(sbr rfl rfl)⟩
 rintro _ ⟨y2,g3,rfl,q1⟩
 rw [Sum.elim_inl]at hz2
 refine J3 (B5 q1 (C7 fun u14 hu14=>sv rfl (sv rfl (A1 (I3 ?_)))))
 cases hz2
 exact ⟨rfl,(),(sbr rfl rfl)⟩
 refine C5 rfl ?_
 cases hz2
 obtain rfl:=ez2 _ rfl
 refine ⟨nofun,C2 rfl (l_j ?_)⟩
 exact ⟨_,(),rfl,(sbr rfl rfl)⟩
 rintro _ ⟨y1,g1,rfl,q2⟩
 rw [Sum.elim_inl]at h
 refine B5 q2 (lr (fun u15 hu15=>sv rfl (A1 (B4 ?_))))
 cases h
 exact A8 (.inr rfl) (B7 (B6 rfl) E5) (.refl _)
noncomputable def W7 (p1:Phase):Option Bool:=
  (W4 p1.Ticks 1 10000).bind fun v1=>some (!v1)
theorem B1q (p1:Phase)(r:Bool)(h:W7 p1=some r):PCall Tryz.prog 212 [(.agg [(i64 p1.Ticks),(.list (List.map A5 p1.Green))])] (bo r):=by
 refine B8 (fk Tryz.func212 Tryz.ntmps212 m0 (by with_unfolding_all rfl)) (nl rfl) ?_
 unfold W7 at h
 refine B5 (s0:=⟨T [(0,(.d _))],G []⟩) (sbr rfl rfl) ?_
 refine lr (fun u1 hu1=>sn rfl rfl (sv rfl (A1 (lr (fun u2 hu2=>sp rfl rfl (sl rfl G_hit rfl (bs h fun v1 hv1 h=>B2 rfl rfl A2 (A04 _ _ _ _ hv1) (.inl rfl) (C0 (.d (bo (!v1))) rfl rfl (sv rfl (A1 (B4 ?_)))))))))))
 cases h
 exact A8 (.inr rfl) (B7 (B6 rfl) E5) (.refl _)
noncomputable def D6 (p1:(List Phase))(x1:Int):Option (Stp Int (Sum Unit Int)):=
  cond (decide (x1< (p1.length:Int))) ((D0 p1 x1).bind fun v1=>(W7 v1).bind fun v2=>cond v2 (some (.out (.inr x1))) (some (.go (w64 (x1+1))))) (some (.out (.inl ())))
noncomputable def E6 (p1:(List Phase)):Option Int:=
  thenS (loop (D6 p1) 0) (fun _=>some (-1)) (fun r=>some r)
theorem Z1 (p1:(List Phase))(r:Int)(h:E6 p1=some r):PCall Tryz.prog 243 [(.list (List.map A99 p1)),(.fn (.func 212) [] [])] (i64 r):=by
 refine B8 (fk Tryz.func243 Tryz.ntmps243 m0 (by with_unfolding_all rfl)) (nl rfl) ?_
 unfold E6 at h
 refine B5 (s0:=⟨T [(0,(.d _)),(1,(.d _))],G []⟩) (sbr rfl rfl) ?_
 refine lr (fun u1 hu1=>sv rfl (A1 (A7 (lr (fun u2 hu2=>sv rfl (sd rfl (J6 rfl) (sv rfl (A1 (js h fun z1 hz1 h=>E7 (fun s=> ∃(y1:Unit) (g1:Unit),z1= .inl y1∧Sb ⟨T [],G []⟩ s) ?_ ?_)))))))))
 refine A9 (G5 (D6 p1) (fun (x1:Int) (g2:Unit)=>⟨T [(0,(dl A99 p1)),(1,(.d (.fn (.func 212) [] []))),(7,(di (p1.length:Int))),(8,(di x1))],G []⟩) 0 () _ hz1 (sbr rfl rfl) ?_)
 intro x1 g2 z2 hz2 ez2
 unfold D6 at hz2
 refine lr (fun u3 hu3=>sv rfl (A1 (A7 (cc rfl hz2 (fun c1 hz2=> ?_) (fun c1 hz2=> ?_)))))
 refine B1 (A7 (A9 (lr (fun u4 hu4=>sv rfl (sv rfl (A1 (lr (fun u5 hu5=>sv rfl (sv rfl (sv rfl (bs hz2 fun v1 hv1 hz2=>sd rfl (F9 rfl rfl hv1 rfl) (sd rfl (C6 rfl hv1 rfl rfl) (bs hz2 fun v2 hv2 hz2=>B2 rfl rfl A2 (B1q _ _ hv2) (.inl rfl) (A1 (cc rfl hz2 (fun c2 hz2=> ?_) (fun c2 hz2=> ?_))))))))))))))))
 refine lr (fun u6 hu6=>sv rfl (sv rfl (A1 (B4 ?_))))
 cases hz2
 obtain rfl:=ez2 _ rfl
 refine ⟨nofun,G0 ?_⟩
 rw [Sum.elim_inr]at h
 cases h
 exact A8 (.inr rfl) (B7 (B6 rfl) E5) (.refl _)
 refine B1 (J3 (C7 fun u7 hu7=>sv rfl (sv rfl (A1 (I3 ?_)))))
 cases hz2
 exact ⟨rfl,(),(sbr rfl rfl)⟩
 refine C5 rfl ?_
 cases hz2
 obtain rfl:=ez2 _ rfl
 refine ⟨nofun,C2 rfl (l_j ?_)⟩
 exact ⟨_,(),rfl,(sbr rfl rfl)⟩
 rintro _ ⟨y1,g1,rfl,q1⟩
 rw [Sum.elim_inl]at h
 refine B5 q1 (lr (fun u8 hu8=>sv rfl (A1 (B4 ?_))))
 cases h
 exact A8 (.inr rfl) (B7 (B6 rfl) E5) (.refl _)
noncomputable def D7 (p1:(List Phase)):Option Bool:=
  (E6 p1).bind fun v1=>some (decide (v1≥0))
theorem X8 (p1:(List Phase))(r:Bool)(h:D7 p1=some r):PCall Tryz.prog 211 [(.list (List.map A99 p1)),(.fn (.func 212) [] [])] (bo r):=by
 refine B8 (fk Tryz.func211 Tryz.ntmps211 m0 (by with_unfolding_all rfl)) (nl rfl) ?_
 unfold D7 at h
 refine B5 (s0:=⟨T [(0,(.d _)),(1,(.d _))],G []⟩) (sbr rfl rfl) ?_
 refine lr (fun u1 hu1=>sv rfl (A1 (lr (fun u2 hu2=>sv rfl (sv rfl (bs h fun v1 hv1 h=>B2 rfl rfl A2 (Z1 _ _ hv1) (.inl rfl) (sv rfl (sv rfl (A1 (B4 ?_))))))))))
 cases h
 exact A8 (.inr rfl) (B7 (B6 rfl) E5) (.refl _)
noncomputable def U8 (p1:Phase)(p2:RoadsCheck):Option Bool:=
  (A34 p1.Green 0 (p2.Map_.Lanes.length:Int)).bind fun v1=>some (!v1)
theorem B0d (p1:Phase)(p2:RoadsCheck)(r:Bool)(h:U8 p1 p2=some r):PCall Tryz.prog 213 [(.agg [(i64 p1.Ticks),(.list (List.map A5 p1.Green))]),(.bp (A5o p2.Map_) 0)] (bo r):=by
 refine B8 (fk Tryz.func213 Tryz.ntmps213 m0 (by with_unfolding_all rfl)) (nl rfl) ?_
 unfold U8 at h
 refine B5 (s0:=⟨T [(0,(.d _)),(1,(.d _))],G []⟩) (sbr rfl rfl) ?_
 refine lr (fun u1 hu1=>sn rfl rfl (sv rfl (A1 (lr (fun u2 hu2=>sp rfl rfl (sl rfl G_hit rfl (sv rfl (sv rfl (sv rfl (sd rfl (J6 rfl) (bs h fun v1 hv1 h=>B2 rfl rfl A2 (A9d _ _ _ _ hv1) (.inl rfl) (C0 (.d (bo (!v1))) rfl rfl (sv rfl (A1 (B4 ?_)))))))))))))))
 cases h
 exact A8 (.inr rfl) (B7 (B6 rfl) E5) (.refl _)
noncomputable def D3 (p1:(List Phase))(p2:RoadsCheck)(x1:Int):Option (Stp Int (Sum Unit Int)):=
  cond (decide (x1< (p1.length:Int))) ((D0 p1 x1).bind fun v1=>(U8 v1 p2).bind fun v2=>cond v2 (some (.out (.inr x1))) (some (.go (w64 (x1+1))))) (some (.out (.inl ())))
noncomputable def E3 (p1:(List Phase))(p2:RoadsCheck):Option Int:=
  thenS (loop (D3 p1 p2) 0) (fun _=>some (-1)) (fun r=>some r)
theorem Y5 (p1:(List Phase))(p2:RoadsCheck)(r:Int)(h:E3 p1 p2=some r):PCall Tryz.prog 243 [(.list (List.map A99 p1)),(.fn (.func 213) [] [(.bp (A5o p2.Map_) 0)])] (i64 r):=by
 refine B8 (fk Tryz.func243 Tryz.ntmps243 m0 (by with_unfolding_all rfl)) (nl rfl) ?_
 unfold E3 at h
 refine B5 (s0:=⟨T [(0,(.d _)),(1,(.d _))],G []⟩) (sbr rfl rfl) ?_
 refine lr (fun u1 hu1=>sv rfl (A1 (A7 (lr (fun u2 hu2=>sv rfl (sd rfl (J6 rfl) (sv rfl (A1 (js h fun z1 hz1 h=>E7 (fun s=> ∃(y1:Unit) (g1:Unit),z1= .inl y1∧Sb ⟨T [],G []⟩ s) ?_ ?_)))))))))
 refine A9 (G5 (D3 p1 p2) (fun (x1:Int) (g2:Unit)=>⟨T [(0,(dl A99 p1)),(1,(.d (.fn (.func 213) [] [(.bp (A5o p2.Map_) 0)]))),(7,(di (p1.length:Int))),(8,(di x1))],G []⟩) 0 () _ hz1 (sbr rfl rfl) ?_)
 intro x1 g2 z2 hz2 ez2
 unfold D3 at hz2
 refine lr (fun u3 hu3=>sv rfl (A1 (A7 (cc rfl hz2 (fun c1 hz2=> ?_) (fun c1 hz2=> ?_)))))
 refine B1 (A7 (A9 (lr (fun u4 hu4=>sv rfl (sv rfl (A1 (lr (fun u5 hu5=>sv rfl (sv rfl (sv rfl (bs hz2 fun v1 hv1 hz2=>sd rfl (F9 rfl rfl hv1 rfl) (sd rfl (C6 rfl hv1 rfl rfl) (bs hz2 fun v2 hv2 hz2=>B2 rfl rfl A2 (B0d _ _ _ hv2) (.inl rfl) (A1 (cc rfl hz2 (fun c2 hz2=> ?_) (fun c2 hz2=> ?_))))))))))))))))
 refine lr (fun u6 hu6=>sv rfl (sv rfl (A1 (B4 ?_))))
 cases hz2
 obtain rfl:=ez2 _ rfl
 refine ⟨nofun,G0 ?_⟩
 rw [Sum.elim_inr]at h
 cases h
 exact A8 (.inr rfl) (B7 (B6 rfl) E5) (.refl _)
 refine B1 (J3 (C7 fun u7 hu7=>sv rfl (sv rfl (A1 (I3 ?_)))))
 cases hz2
 exact ⟨rfl,(),(sbr rfl rfl)⟩
 refine C5 rfl ?_
 cases hz2
 obtain rfl:=ez2 _ rfl
 refine ⟨nofun,C2 rfl (l_j ?_)⟩
 exact ⟨_,(),rfl,(sbr rfl rfl)⟩
 rintro _ ⟨y1,g1,rfl,q1⟩
 rw [Sum.elim_inl]at h
 refine B5 q1 (lr (fun u8 hu8=>sv rfl (A1 (B4 ?_))))
 cases h
 exact A8 (.inr rfl) (B7 (B6 rfl) E5) (.refl _)
noncomputable def D4 (p1:(List Phase))(p2:RoadsCheck):Option Bool:=
  (E3 p1 p2).bind fun v1=>some (decide (v1≥0))
theorem W8 (p1:(List Phase))(p2:RoadsCheck)(r:Bool)(h:D4 p1 p2=some r):PCall Tryz.prog 211 [(.list (List.map A99 p1)),(.fn (.func 213) [] [(.bp (A5o p2.Map_) 0)])] (bo r):=by
 refine B8 (fk Tryz.func211 Tryz.ntmps211 m0 (by with_unfolding_all rfl)) (nl rfl) ?_
 unfold D4 at h
 refine B5 (s0:=⟨T [(0,(.d _)),(1,(.d _))],G []⟩) (sbr rfl rfl) ?_
 refine lr (fun u1 hu1=>sv rfl (A1 (lr (fun u2 hu2=>sv rfl (sv rfl (bs h fun v1 hv1 h=>B2 rfl rfl A2 (Y5 _ _ _ hv1) (.inl rfl) (sv rfl (sv rfl (A1 (B4 ?_))))))))))
 cases h
 exact A8 (.inr rfl) (B7 (B6 rfl) E5) (.refl _)
noncomputable def V6 (p1:RoadsCheck)(x1:Int):Option (Stp Int (Sum Unit Int)):=
  cond (decide (x1< (p1.Map_.Signals.length:Int))) ((D0 p1.Map_.Signals x1).bind fun v1=>cond ((v1.Phases.length:Int)==0) (some (.out (.inr 6))) (cond (decide ((v1.Phases.length:Int)>6)) (some (.out (.inr 8))) ((W4 v1.Offset 0 1099511627776).bind fun v2=>cond (!v2) (some (.out (.inr 2))) ((D7 v1.Phases).bind fun v3=>cond v3 (some (.out (.inr 2))) ((D4 v1.Phases p1).bind fun v4=>cond v4 (some (.out (.inr 11))) (some (.go (w64 (x1+1))))))))) (some (.out (.inl ())))
noncomputable def A06 (p1:RoadsCheck):Option Int:=
  thenS (loop (V6 p1) 0) (fun _=>some 0) (fun r=>some r)
theorem B3b (p1:RoadsCheck)(r:Int)(h:A06 p1=some r):PCall Tryz.prog 151 [(.agg (A5o p1.Map_))] (i64 r):=by
 refine B8 (fk Tryz.func151 Tryz.ntmps151 m0 (by with_unfolding_all rfl)) (nl rfl) ?_
 unfold A06 at h
 refine B5 (s0:=⟨T [(0,(.d _))],G []⟩) (sbr rfl rfl) ?_
 refine lr (fun u1 hu1=>sn rfl rfl (sv rfl (A1 (A7 (lr (fun u2 hu2=>sp rfl rfl (sp rfl rfl (sl rfl G_hit rfl (sd rfl (J6 rfl) (sv rfl (A1 (js h fun z1 hz1 h=>E7 (fun s=> ∃(y1:Unit) (g1:Unit),z1= .inl y1∧Sb ⟨T [],G []⟩ s) ?_ ?_))))))))))))
 refine A9 (G5 (V6 p1) (fun (x1:Int) (g2:Unit)=>⟨T [(1,(.ptr (1,u1) 0)),(8,(dl B0o p1.Map_.Signals)),(9,(di (p1.Map_.Signals.length:Int))),(10,(di x1))],G [((1,u1),some (.box 212 (A02 p1.Map_)))]⟩) 0 () _ hz1 (sbr rfl rfl) ?_)
 intro x1 g2 z2 hz2 ez2
 unfold V6 at hz2
 refine lr (fun u3 hu3=>sv rfl (A1 (A7 (cc rfl hz2 (fun c1 hz2=> ?_) (fun c1 hz2=> ?_)))))
 refine B1 (A7 (A9 (lr (fun u4 hu4=>bs hz2 fun v1 hv1 hz2=>sd rfl (F9 rfl rfl hv1 rfl) (sd rfl (C6 rfl hv1 rfl rfl) (sn rfl rfl (sst rfl G_hit [(di v1.Offset),(dl A99 v1.Phases)] rfl (A1 (lr (fun u5 hu5=>sp rfl rfl (sl rfl G_hit rfl (sd rfl (J6 rfl) (sv rfl (A1 (A9 (lr (fun u6 hu6=>sv rfl (sv rfl (sv rfl (A1 (cc rfl hz2 (fun c2 hz2=> ?_) (fun c2 hz2=> ?_))))))))))))))))))))))
 refine lr (fun u7 hu7=>sv rfl (A1 (B4 ?_)))
 cases hz2
 obtain rfl:=ez2 _ rfl
 refine ⟨nofun,G0 ?_⟩
 rw [Sum.elim_inr]at h
 cases h
 exact A8 (.inr rfl) (B7 (B6 rfl) E5) (.refl _)
 refine lr (fun u8 hu8=>sv rfl (sv rfl (sv rfl (A1 (cc rfl hz2 (fun c3 hz2=> ?_) (fun c3 hz2=> ?_))))))
 refine lr (fun u9 hu9=>sv rfl (A1 (B4 ?_)))
 cases hz2
 obtain rfl:=ez2 _ rfl
 refine ⟨nofun,G0 ?_⟩
 rw [Sum.elim_inr]at h
 cases h
 exact A8 (.inr rfl) (B7 (B6 rfl) E5) (.refl _)
 refine lr (fun u10 hu10=>sp rfl rfl (sl rfl G_hit rfl (bs hz2 fun v2 hv2 hz2=>B2 rfl rfl A2 (A04 _ _ _ _ hv2) (.inl rfl) (C0 (.d (bo (!v2))) rfl rfl (sv rfl (A1 (cc rfl hz2 (fun c4 hz2=> ?_) (fun c4 hz2=> ?_))))))))
 refine lr (fun u11 hu11=>sv rfl (A1 (B4 ?_)))
 cases hz2
 obtain rfl:=ez2 _ rfl
 refine ⟨nofun,G0 ?_⟩
 rw [Sum.elim_inr]at h
 cases h
 exact A8 (.inr rfl) (B7 (B6 rfl) E5) (.refl _)
 refine lr (fun u12 hu12=>sp rfl rfl (sl rfl G_hit rfl (bs hz2 fun v3 hv3 hz2=>B2 rfl rfl A2 (X8 _ _ hv3) (.inl rfl) (sv rfl (A1 (cc rfl hz2 (fun c5 hz2=> ?_) (fun c5 hz2=> ?_)))))))
 refine lr (fun u13 hu13=>sv rfl (A1 (B4 ?_)))
 cases hz2
 obtain rfl:=ez2 _ rfl
 refine ⟨nofun,G0 ?_⟩
 rw [Sum.elim_inr]at h
 cases h
 exact A8 (.inr rfl) (B7 (B6 rfl) E5) (.refl _)
 refine lr (fun u14 hu14=>sp rfl rfl (sl rfl G_hit rfl (C0 (.fn _ _ _) rfl rfl (bs hz2 fun v4 hv4 hz2=>B2 rfl (rD (C3 (B91 D2 (C3 (A1e (gq rfl) (rD (rD (rD (rD (rD D2)))))) D2)) D2)) A2 (W8 _ _ _ hv4) (.inr rfl) (sv rfl (A1 (cc rfl hz2 (fun c6 hz2=> ?_) (fun c6 hz2=> ?_))))))))
 refine lr (fun u15 hu15=>sv rfl (A1 (B4 ?_)))
 cases hz2
 obtain rfl:=ez2 _ rfl
 refine ⟨nofun,G0 ?_⟩
 rw [Sum.elim_inr]at h
 cases h
 exact A8 (.inr rfl) (B7 (B6 rfl) E5) (.refl _)
 refine B1 (J3 (J3 (C7 fun u16 hu16=>sv rfl (sv rfl (A1 (I3 ?_))))))
 cases hz2
 exact ⟨rfl,(),(sbr rfl rfl)⟩
 refine C5 rfl ?_
 cases hz2
 obtain rfl:=ez2 _ rfl
 refine ⟨nofun,C2 rfl (l_j ?_)⟩
 exact ⟨_,(),rfl,(sbr rfl rfl)⟩
 rintro _ ⟨y1,g1,rfl,q1⟩
 rw [Sum.elim_inl]at h
 refine B5 q1 (lr (fun u17 hu17=>sv rfl (A1 (B4 ?_))))
 cases h
 exact A8 (.inr rfl) (B7 (B6 rfl) E5) (.refl _)
/-- kerbstone/curve.pieces$1 -/
def B1r:AC:=(.seq (.reg [oo 3 (.mv (ci 0))]) (.seq (.reg [oo 8 (.fieldA 0 (.t 1)),oo 9 (.load 1 false (.t 8)),oo 10 (.len (.t 9)),oo 11 (.bin .sub (.t 10) (ci 1)),oo 12 (.mv (ci 0))]) (.block 0 (.loop (.seq (.reg [oo 13 (.bin .lss (.t 12) (.t 11))]) (.seq (.cond (.t 13) .skip (.exit 0)) (.seq (.block 1 (.seq (.reg [oo 14 (.mv (.t 12)),oo 4 (.mv (.t 14))]) (.seq (.draw [oo 15 (.fieldA 0 (.t 1)),oo 16 (.load 1 false (.t 15)),oo 17 (.mv (.t 4)),oo 18 (.idxS 2 (.t 16) (.t 17)),oo 19 (.load 2 true (.t 18)),oo 20 (.fieldA 0 (.t 1)),oo 21 (.load 1 false (.t 20)),oo 22 (.mv (.t 4)),oo 23 (.bin .add (.t 22) (ci 1)),oo 24 (.idxS 2 (.t 21) (.t 23)),oo 25 (.load 2 true (.t 24)),oo 26 (.call (cf 238) [(.t 19),(.t 25)]),oo 5 (.alloc 253 [z0,z0]),oe (.store 2 (.t 5) (.t 26))] []) (.seq (.reg [oo 28 (.load 2 true (.t 5)),oo 29 (.load 2 true (.t 5)),oo 30 (.call (cf 240) [(.t 28),(.t 29)]),oo 31 (.call (cf 239) [(.t 30)]),oo 27 (.mv (.t 31)),oo 32 (.ext (.t 27) 0),oo 33 (.ext (.t 27) 1),oo 6 (.mv (.t 32)),oo 7 (.mv (.t 33))]) (.seq (.seq (.drawB [oo 34 (.mv (.t 0)),oo 35 (.mv (.t 4)),oo 36 (.fieldA 0 (.t 1)),oo 37 (.load 1 false (.t 36)),oo 38 (.mv (.t 4)),oo 39 (.idxS 2 (.t 37) (.t 38)),oo 40 (.load 2 true (.t 39)),oo 41 (.load 2 true (.t 5)),oo 42 (.mv (.t 6)),oo 43 (.mv (.t 3)),oo 44 (.build [z0,z0,z0,z0,z0,z0] [(0,2,(.t 40)),(2,2,(.t 41)),(4,1,(.t 42)),(5,1,(.t 43))]),oo 45 (.icall (.t 34) [(.t 35),(.t 44)]),oo 46 (.un .not (.t 45))] 11 []) (.cond (.t 46) .ret .skip)) (.reg [oo 47 (.mv (.t 3)),oo 48 (.mv (.t 6)),oo 49 (.bin .add (.t 47) (.t 48)),oo 3 (.mv (.t 49))])))))) (.reg [oo 50 (.bin .add (.t 12) (ci 1)),oo 12 (.mv (.t 50))]))))))))
theorem B6r:FnOK Tryz.prog 260 51 [] B1r:=⟨_,_,Tryz.func260,rfl,Tryz.ntmps260,by kernel_rfl,⟨fun r=>if r==6 then [11]else [],by kernel_rfl⟩,by kernel_rfl⟩
/-- The pieces of a chain of points, from a number on. -/
noncomputable def A8j (pts:List Spot):Nat→Nat→Int→Option (List (Int×CurvePiece))
  |0,_,_=>some []
  |n+1,i,start=>(pts[i]?).bind fun p=>(pts[i+1]?).bind fun q=>(A3x p q).bind fun v=>(V3 v v).bind fun d=>(A8w d).bind fun r=>
   (A8j pts n (i+1) (w64 (start+r.1))).bind fun l=>some (((i:Int),CurvePiece.mk p v r.1 start)::l)
noncomputable def B6s (pts:List Spot):Option (List (Int×CurvePiece)):=if pts.length≤1000000 then A8j pts (pts.length - 1) 0 0 else none
/-- kerbstone/curve.pieces -/
def B3m:AC:=(.seq (.reg [oo 1 (.box 61 true (.t 0)),oo 2 (.mv (.c (.v .nilFunc)))]) (.seq (.reg [oo 3 (.mkfn (.func 260) [] [(.t 1)]),oo 2 (.mv (.t 3))]) .ret))
theorem B8m:FnOK Tryz.prog 241 4 [.t 2] B3m:=⟨_,_,Tryz.func241,rfl,Tryz.ntmps241,by kernel_rfl,⟨fun _=> [],by kernel_rfl⟩,by kernel_rfl⟩
abbrev C1y (a:Int×CurvePiece):List D:= [i64 a.1, .agg [i64 a.2.p.X,i64 a.2.p.Y,i64 a.2.v.x,i64 a.2.v.y,i64 a.2.l,i64 a.2.start]]
theorem B8n (c:Curve):PCall Tryz.prog 241 [.agg [.list (List.map A23 c.Pts)]] (.fn (.func 260) [] [.bp [.list (List.map A23 c.Pts)] 0]):=by
  refine C7q B8m (by simp) ?_
  unfold B3m
  refine B1m (B3h fun u hu=> ?_)
  refine C5r (.ptr _ _) _ rfl rfl ?_
  refine D5 (.d _) rfl rfl ?_
  refine A1l ?_
  refine B1m (B3h fun u' hu'=> ?_)
  refine D5 (.fn _ _ _) rfl rfl ?_
  refine D5 (.fn _ _ _) rfl rfl ?_
  refine A1l ?_
  refine C5l ⟨.inr rfl,?_⟩
  refine B7 (B6 (v:= .fn _ _ _) rfl) ?_
  exact B91 D2 (C3 (A1e (by simp only [upd,if_true];rfl) (C3 E5 D2)) D2)
theorem C87 (ps:List Spot)(n:Int)(i:Nat)(p:Spot)(hn:n=i)(h:ps[i]? =some p):(List.map A23 ps)[n.toNat]? =some (A23 p):=by
  subst hn
  rw [Int.toNat_natCast,List.getElem?_map,h];rfl
theorem C6k {n:Int}(h: -9223372036854775808≤n∧n≤9223372036854775807):w64 n=n:=Go.IntWalk.i64_in n h
theorem B8o (pts:List Spot): ∀n i s L,A8j pts n i s=some L→L.length=n:=by
  intro n
  induction n with
  |zero=>intro i s L h;cases h;rfl
  |succ n ih=>
   intro i s L h
   rw [A8j]at h
   obtain ⟨p,hp,h⟩:=bind_some h
   obtain ⟨q,hq,h⟩:=bind_some h
   obtain ⟨v,hv,h⟩:=bind_some h
   obtain ⟨d,hd,h⟩:=bind_some h
   obtain ⟨r,hr,h⟩:=bind_some h
   obtain ⟨l,hl,h⟩:=bind_some h
   cases h
   rw [List.length_cons,ih _ _ _ hl]
theorem B8p {pts:List Spot}{L:List (Int×CurvePiece)}(h:B6s pts=some L):C8j Tryz.prog (.fn (.func 260) [] [.bp [.list (List.map A23 pts)] 0]) (L.map C1y):=by
  unfold B6s at h
  split at h
  case isFalse=>cases h
  rename_i hlen
  refine ⟨260,[],_,rfl,?_⟩
  intro k h0 Inv Stop hi0 hy
  refine C08 B6r (by simp) ?_
  unfold B1r
  refine B1m (B3h fun u hu=> ?_)
  refine D5 (.d _) rfl rfl ?_
  refine A1l ?_
  refine B1m (B3h fun u hu=> ?_)
  refine D5 (.d _) rfl rfl ?_
  refine D5 (.d _) rfl rfl ?_
  refine D5 (.d (i64 pts.length)) rfl (J6 (f:=A23) rfl) ?_
  refine D5 (.d _) rfl rfl ?_
  refine D5 (.d _) rfl rfl ?_
  refine A1l ?_
  refine C06 ?_
  refine C3e (α:=Nat×Int×J4) (fun x=>⟨T [(0, .yld k),(1, .d (.bp [.list (List.map A23 pts)] 0)),(3, .d (i64 x.2.1)),(11, .d (i64 (w64 (pts.length - 1)))),(12, .d (i64 x.1))],x.2.2⟩) (fun x=>pts.length - x.1)
    (fun x=>Inv x.1 x.2.2∧x.1≤pts.length - 1∧A8j pts (pts.length - 1 - x.1) x.1 x.2.1=some (L.drop x.1)) (0,0,h0) ⟨hi0,by omega,h⟩ (B72 ⟨rfl,rfl,rfl,rfl,rfl,trivial⟩ fun _ _ h=>h) ?_
  rintro ⟨i,start,hh⟩ ⟨hinv,hi,hgo⟩
  dsimp only at hinv hi hgo ⊢
  refine B1m (B3h fun u hu=> ?_)
  refine D5 (.d _) rfl rfl ?_
  refine A1l ?_
  refine B1m ?_
  refine C7r rfl (fun hlt=> ?_) (fun hlt=> ?_)
  ·refine C2k ?_
   have hlen1:w64 ((pts.length:Int) - 1)=pts.length - 1:=C6k (by omega)
   rw [hlen1]at hlt
   have hi1:i+1<pts.length:=by omega
   have hw1:IntKind.i64.wrap ((i:Int)+1)=(i:Int)+1:=C6k (by omega)
   obtain ⟨m,hm⟩: ∃m,pts.length - 1 - i=m+1:=⟨pts.length - 1 - i - 1,by omega⟩
   rw [hm,A8j]at hgo
   obtain ⟨p,hp,hgo⟩:=bind_some hgo
   obtain ⟨q,hq,hgo⟩:=bind_some hgo
   obtain ⟨v,hv,hgo⟩:=bind_some hgo
   obtain ⟨d,hd,hgo⟩:=bind_some hgo
   obtain ⟨r,hr,hgo⟩:=bind_some hgo
   obtain ⟨l,hl,hgo⟩:=bind_some hgo
   have hgo:((i:Int),CurvePiece.mk p v r.1 start)::l=L.drop i:=Option.some.inj hgo
   have hLi:L[i]? =some ((i:Int),CurvePiece.mk p v r.1 start):=by
     have:=congrArg (fun z=>z[0]?) hgo
     simpa using this.symm
   have hLd:L.drop (i+1)=l:=by
     have:=congrArg (fun z=>z.drop 1) hgo
     simpa using this.symm
   have hin: ∀(p:Spot) (n:Int) (j:Nat),n=j→pts[j]? =some p→(List.map A23 pts)[n.toNat]? =some (A23 p):=fun p n j=>C87 pts n j p
   refine B1m ?_
   refine C06 ?_
   refine B1m (B3h fun u hu=> ?_)
   refine D5 (.d _) rfl rfl ?_
   refine D5 (.d _) rfl rfl ?_
   refine A1l ?_
   refine B1m (C5o rfl fun u hu=> ?_)
   refine D5 (.d _) rfl rfl ?_
   refine D5 (.d _) rfl rfl ?_
   refine D5 (.d _) rfl rfl ?_
   refine C5t _ _ _ _ rfl rfl (Int.natCast_nonneg i) (hin p _ i rfl hp) rfl ?_
   refine B8a _ _ _ _ _ rfl (hin p _ i rfl hp) (by simp) rfl ?_
   refine D5 (.d _) rfl rfl ?_
   refine D5 (.d _) rfl rfl ?_
   refine D5 (.d _) rfl rfl ?_
   refine D5 (.d _) rfl rfl ?_
   refine C5t _ _ _ _ rfl rfl (by rw [hw1];omega) (hin q _ (i+1) (by rw [hw1];rfl) hq) rfl ?_
   refine B8a _ _ _ _ _ rfl (hin q _ (i+1) (by rw [hw1];rfl) hq) (by simp) rfl ?_
   refine B6q rfl rfl (A62 p q _ hv) (.inl rfl) ?_
   refine C5r (.ptr _ _) _ rfl rfl ?_
   refine C3h _ _ _ _ _ rfl rfl rfl (by simp only [upd,if_true];rfl) (by simp) ?_
   refine A1l ?_
   refine B1m (B3h fun u' hu'=> ?_)
   refine C0a _ _ _ _ (.d (.agg [i64 v.x,i64 v.y])) rfl (by simp only [upd,if_true];rfl) (by simp [B4k]) rfl ?_
   refine C0a _ _ _ _ (.d (.agg [i64 v.x,i64 v.y])) rfl (by simp only [upd,if_true];rfl) (by simp [B4k]) rfl ?_
   refine B6q rfl rfl (A24 v v _ hd) (.inl rfl) ?_
   refine B6q rfl rfl (B6a d _ hr) (.inl rfl) ?_
   refine D5 (.d _) rfl rfl ?_
   refine D5 (.d _) rfl rfl ?_
   refine D5 (.d _) rfl rfl ?_
   refine D5 (.d _) rfl rfl ?_
   refine D5 (.d _) rfl rfl ?_
   refine A1l ?_
   refine B1m (B1m ?_)
   refine C7o rfl fun u2 hu2=> ?_
   simp only [List.take,List.drop]
   refine D5 (.yld _) rfl rfl ?_
   refine D5 (.d _) rfl rfl ?_
   refine D5 (.d _) rfl rfl ?_
   refine D5 (.d _) rfl rfl ?_
   refine D5 (.d _) rfl rfl ?_
   refine C5t _ _ _ _ rfl rfl (Int.natCast_nonneg i) (hin p _ i rfl hp) rfl ?_
   refine B8a _ _ _ _ _ rfl (hin p _ i rfl hp) (by simp) rfl ?_
   refine C0a _ _ _ _ (.d (.agg [i64 v.x,i64 v.y])) rfl (by simp only [upd,if_true];rfl) (by simp [B4k]) rfl ?_
   refine D5 (.d _) rfl rfl ?_
   refine D5 (.d _) rfl rfl ?_
   refine D5 (.d _) rfl rfl ?_
   refine A1l ?_
   intro u3 hu3
   refine C7u k ((C1y ((i:Int),CurvePiece.mk p v r.1 start)).map .d) rfl rfl ?_
   refine YCall.weak (C5v hu (C5v hu fun _ _ h=>h)) ((hy i hh _ (by rw [List.getElem?_map,hLi];rfl) hinv).mono ?_)
   rintro v' h' (⟨rfl,hin⟩|⟨rfl,hst⟩)
   ·intro u4 hu4
    refine D5 (.d _) rfl rfl ?_
    refine A1l ?_
    refine B7o (t:=false) rfl (fun h=>by cases h) (fun _=> ?_)
    refine C2k ?_
    refine B3h fun u hu=> ?_
    refine D5 (.d _) rfl rfl ?_
    refine D5 (.d _) rfl rfl ?_
    refine D5 (.d _) rfl rfl ?_
    refine D5 (.d _) rfl rfl ?_
    refine A1l ?_
    refine B3h fun u hu=> ?_
    refine D5 (.d _) rfl rfl ?_
    refine D5 (.d _) rfl rfl ?_
    refine A1l ?_
    refine ⟨(i+1,w64 (start+r.1),h'),⟨hin,by dsimp only;omega,?_⟩,by dsimp only;omega,B72 ⟨rfl,rfl,rfl,rfl,?_,trivial⟩ fun _ _ h=>h⟩
    ·dsimp only
     rw [hLd,show pts.length - 1 - (i+1)=m by omega];exact hl
    ·show AV.d (i64 (IntKind.i64.wrap ((i:Int)+1)))=_
     rw [hw1];rfl
   ·intro u4 hu4
    refine D5 (.d _) rfl rfl ?_
    refine A1l ?_
    refine B7o (t:=true) rfl (fun _=> ?_) (fun h=>by cases h)
    refine C5l ?_
    dsimp only
    exact ⟨Or.inr trivial,AV.tup [],rfl,Or.inr hst⟩
  ·refine C2l ?_
   have hlen1:1≤pts.length→w64 ((pts.length:Int) - 1)=pts.length - 1:=fun _=>C6k (by omega)
   have:i=pts.length - 1:=by
     by_cases h:1≤pts.length
     ·rw [hlen1 h]at hlt;omega
     ·omega
   subst this
   rw [Nat.sub_self,A8j]at hgo
   have hL:(L.map C1y).length=pts.length - 1:=by
     have h1:L.drop (pts.length - 1)= []:=(Option.some.inj hgo).symm
     have h2:=List.drop_eq_nil_iff.1 h1
     rw [List.length_map]
     refine Nat.le_antisymm h2 ?_
     exact Nat.le_of_eq (B8o _ _ _ _ _ h).symm
   exact ⟨.inl rfl,_,rfl, .inl (by rw [hL];exact hinv)⟩
noncomputable def A35 (x1:(List Int))(a1:(Int×CurvePiece)):Option (Stp (List Int) (List Int)):=
  (A83 x1 [a1.2.l]).bind fun v3=>some (.go v3)
noncomputable def A7p (p1:Curve):Option (List Int):=
  (A57 p1).bind fun v1=>cond (v1 !=0) (some []) (((B6s p1.Pts).bind fun v2=>loopL (A35) (fun (x1:(List Int))=>x1) v2 []).bind fun y1=>some y1)
theorem B8q (p1:Curve)(r:(List Int))(h:A7p p1=some r):PCall Tryz.prog 261 [(.agg [(.list (List.map A23 p1.Pts))])] (.list (List.map A5 r)):=by
 refine B8 (fk Tryz.func261 Tryz.ntmps261 (fun r=>if r==6 then [1003]else []) (by with_unfolding_all rfl)) (nl rfl) ?_
 unfold A7p at h
 refine B5 (s0:=⟨T [(0,(.d _))],G []⟩) (sbr rfl rfl) ?_
 refine lr (fun u1 hu1=>sn rfl rfl (sv rfl (A1 (A7 (lr (fun u2 hu2=>sd rfl (A6 rfl G_hit rfl rfl) (bs h fun v1 hv1 h=>B2 rfl rfl A2 (B0p _ _ hv1) (.inl rfl) (sv rfl (A1 (cc rfl h (fun c1 h=> ?_) (fun c1 h=> ?_)))))))))))
 refine lr (fun u3 hu3=>sv rfl (A1 (B4 ?_)))
 cases h
 exact A8 (.inr rfl) (B7 (B6 rfl) E5) DLe.nil
 refine B1 (lr (fun u4 hu4=>sn rfl rfl (A1 (A7 (lr (fun u5 hu5=>sd rfl (A6 rfl (gq rfl) rfl rfl) (B2 rfl rfl A2 (B8n p1) (.inl rfl) (A1 (bs h fun y1 hy1 h=>E7 (fun s=> ∃g1:Nat,Sb ⟨T [(3,(.ptr (3,u4) 0))],G [((3,u4),some (.box 48 [(oS y1 (17,g1))])),((17,g1),oB 2 1 A5 y1)]⟩ s) ?_ ?_)))))))))
 refine A9 (bs hy1 fun v2 hv2 hy1=>B5 (s0:=⟨T [(3,(.ptr _ _)),(10,(.d _))],G [((3,u4),some (.box 48 _))]⟩) (sbr rfl rfl) ?_)
 refine C3j (.fn (.func 260) [] [(.bp [(.list (List.map A23 p1.Pts))] 0)]) C1y v2 (A35) (fun (x1:(List Int))=>x1) (fun (x1:(List Int)) (g2:Nat)=> [((3,u4),some (.box 48 [(oS x1 (17,g2))])),((17,g2),oB 2 1 A5 x1)]) [] 0 _ rfl (B8p hv2) (fun _=>rfl) hy1 (G2 trivial (B0 G_hit (.of rfl) (A2n trivial))) nofun ?_ ?_
 intro u7 hu7 hku7
 refine ⟨fun x1 g2=>(A3 rfl (A3 rfl rfl)),?_⟩
 intro r1 x1 g2 a1 z1 hrr1 hz1 ez1
 unfold A35 at hz1
 show AWL _ _ _ _ _ _ ⟨T [(12,(.d (.agg (B5c a1.2)))),(11,(di a1.1)),(3,(.ptr (3,u4) 0)),(10,(.d (.fn (.func 260) [] [(.bp [(.list (List.map A23 p1.Pts))] 0)])))],G [((1000000,u7),some (.obj (T [(3,(.ptr (3,u4) 0)),(10,(.d (.fn (.func 260) [] [(.bp [(.list (List.map A23 p1.Pts))] 0)])))]) r1)),((3,u4),some (.box 48 [(oS x1 (17,g2))])),((17,g2),oB 2 1 A5 x1)]⟩
 refine C7 fun u8 hu8=>sn rfl rfl (sst rfl G_hit (A32 a1.2) rfl (A1 (l_j (C3k (gq rfl) ?_))))
 refine A9 (C7 fun u9 hu9=>C0 (oS x1 (17,g2)) rfl (R7 rfl (gq rfl) rfl) (sp rfl rfl (sl rfl (gq rfl) rfl (C0 (dl A5 [a1.2.l]) rfl rfl (bs hz1 fun v3 hv3 hz1=>U6 A5 (17,g2) x1 a1.2.l [] _ (Q5 (fun _=>rfl)) rfl (gq rfl) hv3 (sst rfl (gq rfl) [(.sl (17,u9))] rfl (A1 (J3 (I3 ?_)))))))))
 cases hz1
 exact C3l (gq rfl) u9 (B0 G_hit (.box (.cons (.of (A6z (A00 hv3)).symm) .nil)) (A16 (gq rfl) trivial))
 rintro x1 g2 _ rfl qx1
 refine J3 (l_j ?_)
 exact ⟨g2,(Sb.after qx1 (G2 ⟨.of rfl,trivial⟩ (B0 G_hit (.of rfl) (B3 (gq rfl) trivial))))⟩
 rintro _ ⟨g1,q1⟩
 refine B5 q1 (lr (fun u10 hu10=>C0 (oS y1 (17,g1)) rfl (R7 rfl G_hit rfl) (C0 (oS y1 (17,g1)) rfl rfl (A1 (B4 ?_)))))
 cases h
 exact A8 (.inr rfl) (B7 (B6 rfl) (A3u (gq rfl))) A3t
noncomputable def A36 (v1:(List Int))(x1:(Int×Int)):Option (Stp (Int×Int) Int):=
  cond (decide (x1.2< (v1.length:Int))) ((D0 v1 x1.2).bind fun v2=>some (.go ((w64 (x1.1+v2)),(w64 (x1.2+1))))) (some (.out x1.1))
noncomputable def A7q (p1:Curve):Option Int:=
  (A7p p1).bind fun v1=>(loop (A36 v1) (0,0)).bind fun y1=>some y1
theorem B8r (p1:Curve)(r:Int)(h:A7q p1=some r):PCall Tryz.prog 242 [(.agg [(.list (List.map A23 p1.Pts))])] (i64 r):=by
 refine B8 (fk Tryz.func242 Tryz.ntmps242 m0 (by with_unfolding_all rfl)) (nl rfl) ?_
 unfold A7q at h
 refine B5 (s0:=⟨T [(0,(.d _))],G []⟩) (sbr rfl rfl) ?_
 refine lr (fun u1 hu1=>sn rfl rfl (sv rfl (A1 (lr (fun u2 hu2=>sv rfl (A1 (A7 (lr (fun u3 hu3=>sd rfl (A6 rfl G_hit rfl rfl) (bs h fun v1 hv1 h=>B2 rfl rfl A2 (B8q _ _ hv1) (.inl rfl) (sd rfl (J6 rfl) (sv rfl (A1 (bs h fun y1 hy1 h=>E7 (fun s=> ∃g1:Unit,Sb ⟨T [(3,(di y1))],G []⟩ s) ?_ ?_))))))))))))))
 refine A9 (G5 (A36 v1) (fun (x1:(Int×Int)) (g2:Unit)=>⟨T [(3,(di x1.1)),(7,(dl A5 v1)),(8,(di (v1.length:Int))),(9,(di x1.2))],G []⟩) (0,0) () _ hy1 (sbr rfl rfl) ?_)
 intro x1 g2 z1 hz1 ez1
 unfold A36 at hz1
 refine lr (fun u4 hu4=>sv rfl (A1 (A7 (cc rfl hz1 (fun c1 hz1=> ?_) (fun c1 hz1=> ?_)))))
 refine B1 (A7 (A9 (lr (fun u5 hu5=>bs hz1 fun v2 hv2 hz1=>sd rfl (F9 rfl rfl hv2 rfl) (sd rfl (F4 rfl hv2 rfl) (sv rfl (A1 (C7 fun u6 hu6=>sv rfl (sv rfl (sv rfl (sv rfl (A1 (J3 (C7 fun u7 hu7=>sv rfl (sv rfl (A1 (I3 ?_)))))))))))))))))
 cases hz1
 exact ⟨rfl,(),(sbr rfl rfl)⟩
 refine C5 rfl ?_
 cases hz1
 obtain rfl:=ez1 _ rfl
 refine ⟨nofun,C2 rfl (l_j ?_)⟩
 exact ⟨(),(sbr rfl rfl)⟩
 rintro _ ⟨g1,q1⟩
 refine B5 q1 (lr (fun u8 hu8=>sv rfl (sv rfl (A1 (B4 ?_)))))
 cases h
 exact A8 (.inr rfl) (B7 (B6 rfl) E5) (.refl _)
noncomputable def A5p (p1:Map)(p2:Int):Option Int:=
  (D0 p1.Lanes p2).bind fun v1=>(A7q v1.Curve_).bind fun v2=>some v2
theorem A8k (p1:Map)(p2:Int)(r:Int)(h:A5p p1 p2=some r):PCall Tryz.prog 207 [(.agg (A5o p1)),(i64 p2)] (i64 r):=by
 refine B8 (fk Tryz.func207 Tryz.ntmps207 m0 (by with_unfolding_all rfl)) (nl rfl) ?_
 unfold A5p at h
 refine B5 (s0:=⟨T [(0,(.d _)),(1,(.d _))],G []⟩) (sbr rfl rfl) ?_
 refine lr (fun u1 hu1=>sn rfl rfl (sv rfl (A1 (lr (fun u2 hu2=>sp rfl rfl (sl rfl G_hit rfl (sv rfl (bs h fun v1 hv1 h=>sd rfl (F9 rfl rfl hv1 rfl) (sv rfl (sd rfl (C6 rfl hv1 rfl rfl) (bs h fun v2 hv2 h=>B2 rfl rfl A2 (B8r _ _ hv2) (.inl rfl) (sv rfl (A1 (B4 ?_))))))))))))))
 cases h
 exact A8 (.inr rfl) (B7 (B6 rfl) E5) (.refl _)
noncomputable def Y6 (p1:RoadsCheck)(v1:Zone)(x3:Int):Option (Stp Int (Sum Unit Int)):=
  cond (decide (x3< (v1.Parts.length:Int))) ((D0 v1.Parts x3).bind fun v5=>((cond (!((decide (v5.From<0))||(decide (v5.From≥v5.To)))) (A5p p1.Map_ v5.Lane_) (some default))).bind fun v6=>cond (((((decide (v5.From<0))||(decide (v5.From≥v5.To)))||(decide (v5.To>v6)))||(decide (v5.Rank<0)))||(decide (v5.Rank>100))) (some (.out (.inr 2))) (some (.go (w64 (x3+1))))) (some (.out (.inl ())))
noncomputable def Y7 (v1:Zone)(x2:((List Int)×Int)):Option (Stp ((List Int)×Int) (List Int)):=
  cond (decide (x2.2< (v1.Parts.length:Int))) ((D0 v1.Parts x2.2).bind fun v2=>(A83 x2.1 [v2.Lane_]).bind fun v3=>some (.go (v3,(w64 (x2.2+1))))) (some (.out x2.1))
noncomputable def Y8 (p1:RoadsCheck)(x1:Int):Option (Stp Int (Sum Unit Int)):=
  cond (decide (x1< (p1.Map_.Zones.length:Int))) ((D0 p1.Map_.Zones x1).bind fun v1=>cond (decide ((v1.Parts.length:Int)<2)) (some (.out (.inr 6))) (cond (decide ((v1.Parts.length:Int)>6)) (some (.out (.inr 8))) (cond ((decide (v1.Signal_<0))||(decide (v1.Signal_>(p1.Map_.Signals.length:Int)))) (some (.out (.inr 2))) ((loop (Y7 v1) ([],0)).bind fun y2=>(A34 y2 0 (p1.Map_.Lanes.length:Int)).bind fun v4=>cond (!v4) (some (.out (.inr 11))) (thenS (loop (Y6 p1 v1) 0) (fun _=>some (.go (w64 (x1+1)))) (fun r=>some (.out (.inr r)))))))) (some (.out (.inl ())))
noncomputable def A1o (p1:RoadsCheck):Option Int:=
  thenS (loop (Y8 p1) 0) (fun _=>some 0) (fun r=>some r)
theorem B4o (p1:RoadsCheck)(r:Int)(h:A1o p1=some r):PCall Tryz.prog 152 [(.agg (A5o p1.Map_))] (i64 r):=by
 refine B8 (fk Tryz.func152 Tryz.ntmps152 (fun r=>if r==15 then [1003]else []) (by with_unfolding_all rfl)) (nl rfl) ?_
 unfold A1o at h
 refine B5 (s0:=⟨T [(0,(.d _))],G []⟩) (sbr rfl rfl) ?_
 refine lr (fun u1 hu1=>sn rfl rfl (sv rfl (A1 (A7 (lr (fun u2 hu2=>sp rfl rfl (sp rfl rfl (sl rfl G_hit rfl (sd rfl (J6 rfl) (sv rfl (A1 (js h fun z1 hz1 h=>E7 (fun s=> ∃(y1:Unit) (g1:Unit),z1= .inl y1∧Sb ⟨T [],G []⟩ s) ?_ ?_))))))))))))
 refine A9 (G5 (Y8 p1) (fun (x1:Int) (g2:Unit)=>⟨T [(1,(.ptr (1,u1) 0)),(13,(dl B0c p1.Map_.Zones)),(14,(di (p1.Map_.Zones.length:Int))),(15,(di x1))],G [((1,u1),some (.box 212 (A02 p1.Map_)))]⟩) 0 () _ hz1 (sbr rfl rfl) ?_)
 intro x1 g2 z2 hz2 ez2
 unfold Y8 at hz2
 refine lr (fun u3 hu3=>sv rfl (A1 (A7 (cc rfl hz2 (fun c1 hz2=> ?_) (fun c1 hz2=> ?_)))))
 refine B1 (A7 (A9 (lr (fun u4 hu4=>bs hz2 fun v1 hv1 hz2=>sd rfl (F9 rfl rfl hv1 rfl) (sd rfl (C6 rfl hv1 rfl rfl) (sn rfl rfl (sst rfl G_hit [(dl B0n v1.Parts),(di v1.Signal_)] rfl (A1 (A7 (lr (fun u5 hu5=>sp rfl rfl (sl rfl G_hit rfl (sd rfl (J6 rfl) (sv rfl (A1 (A9 (lr (fun u6 hu6=>sv rfl (sv rfl (sv rfl (A1 (cc rfl hz2 (fun c2 hz2=> ?_) (fun c2 hz2=> ?_)))))))))))))))))))))))
 refine lr (fun u7 hu7=>sv rfl (A1 (B4 ?_)))
 cases hz2
 obtain rfl:=ez2 _ rfl
 refine ⟨nofun,G0 ?_⟩
 rw [Sum.elim_inr]at h
 cases h
 exact A8 (.inr rfl) (B7 (B6 rfl) E5) (.refl _)
 refine lr (fun u8 hu8=>sv rfl (sv rfl (sv rfl (A1 (cc rfl hz2 (fun c3 hz2=> ?_) (fun c3 hz2=> ?_))))))
 refine lr (fun u9 hu9=>sv rfl (A1 (B4 ?_)))
 cases hz2
 obtain rfl:=ez2 _ rfl
 refine ⟨nofun,G0 ?_⟩
 rw [Sum.elim_inr]at h
 cases h
 exact A8 (.inr rfl) (B7 (B6 rfl) E5) (.refl _)
 refine lr (fun u10 hu10=>sp rfl rfl (sl rfl G_hit rfl (sv rfl (sv rfl (gp rfl (A0h rfl) (fun _=>rfl) (gf rfl (vl rfl G_hit rfl) (gp rfl (A0h rfl) (fun _=>rfl) ?_)))))))
 refine U0 _ (.ptr _ _) rfl (A0h rfl) (fun w4=>(by simp only [A4 w4];rfl)) ?_
 refine gf rfl (vl rfl (gq rfl) rfl) (gf rfl (fun w6=>(J6 (A4 w6))) (gf rfl (fun w7=>(X7 (A4 w7) (A4 w7) rfl)) (sd rfl (A49 rfl rfl (fun hc=>A4 (S3 hc))) (sv rfl (A1 (cc rfl hz2 (fun c4 hz2=> ?_) (fun c4 hz2=> ?_)))))))
 refine lr (fun u11 hu11=>sv rfl (A1 (B4 ?_)))
 cases hz2
 obtain rfl:=ez2 _ rfl
 refine ⟨nofun,G0 ?_⟩
 rw [Sum.elim_inr]at h
 cases h
 exact A8 (.inr rfl) (B7 (B6 rfl) E5) (.refl _)
 refine B1 (J3 (lr (fun u12 hu12=>sv rfl (A1 (A7 (lr (fun u13 hu13=>sp rfl rfl (sl rfl G_hit rfl (sd rfl (J6 rfl) (sv rfl (A1 (bs hz2 fun y2 hy2 hz2=>E7 (fun s=> ∃g3:Nat,Sb ⟨T [(1,(.ptr (1,u1) 0)),(4,(.ptr (4,u4) 0)),(6,(oS y2 (52,g3))),(13,(dl B0c p1.Map_.Zones)),(14,(di (p1.Map_.Zones.length:Int))),(15,(di x1))],G [((1,u1),some (.box 212 (A02 p1.Map_))),((4,u4),some (.box 117 [(dl B0n v1.Parts),(di v1.Signal_)])),((52,g3),oB 3 1 A5 y2)]⟩ s) ?_ ?_))))))))))))
 refine A9 (G5 (Y7 v1) (fun (x2:((List Int)×Int)) (g4:Nat)=>⟨T [(1,(.ptr (1,u1) 0)),(4,(.ptr (4,u4) 0)),(6,(oS x2.1 (52,g4))),(13,(dl B0c p1.Map_.Zones)),(14,(di (p1.Map_.Zones.length:Int))),(15,(di x1)),(42,(dl B0n v1.Parts)),(43,(di (v1.Parts.length:Int))),(44,(di x2.2))],G [((1,u1),some (.box 212 (A02 p1.Map_))),((4,u4),some (.box 117 [(dl B0n v1.Parts),(di v1.Signal_)])),((52,g4),oB 3 1 A5 x2.1)]⟩) ([],0) 0 _ hy2 (G2 ⟨.of rfl, .of rfl, .of rfl, .of rfl, .of rfl, .of rfl, .of rfl, .of rfl, .of rfl,trivial⟩ (sg rfl (B0 G_hit (.of rfl) (A2n trivial)))) ?_)
 intro x2 g4 z3 hz3 ez3
 unfold Y7 at hz3
 refine lr (fun u14 hu14=>sv rfl (A1 (A7 (cc rfl hz3 (fun c5 hz3=> ?_) (fun c5 hz3=> ?_)))))
 refine B1 (A7 (A9 (lr (fun u15 hu15=>bs hz3 fun v2 hv2 hz3=>sd rfl (F9 rfl rfl hv2 rfl) (sd rfl (C6 rfl hv2 rfl rfl) (sn rfl rfl (sst rfl G_hit (C4y v2) rfl (A1 (C7 fun u16 hu16=>C0 (oS x2.1 (52,g4)) rfl rfl (sp rfl rfl (sl rfl G_hit rfl (C0 (dl A5 [v2.Lane_]) rfl rfl (bs hz3 fun v3 hv3 hz3=>U6 A5 (52,g4) x2.1 v2.Lane_ [] _ (Q5 (fun _=>rfl)) rfl (gq rfl) hv3 (ss rfl (A1 (J3 (C7 fun u17 hu17=>sv rfl (sv rfl (A1 (I3 ?_))))))))))))))))))))
 cases hz3
 exact ⟨rfl,u16,(G2 ⟨.of rfl, .of rfl,(.of (A6z (A00 hv3)).symm), .of rfl, .of rfl, .of rfl, .of rfl, .of rfl, .of rfl,trivial⟩ (sg rfl (sg rfl (A16 G_hit trivial))))⟩
 refine C5 rfl ?_
 cases hz3
 obtain rfl:=ez3 _ rfl
 refine ⟨nofun,C2 rfl (l_j ?_)⟩
 exact ⟨g4,(G2 ⟨.of rfl, .of rfl, .of rfl, .of rfl, .of rfl, .of rfl,trivial⟩ (B0 G_hit (.of rfl) (sg rfl (B3 (gq rfl) trivial))))⟩
 rintro _ ⟨g3,q1⟩
 refine B5 q1 (A7 (lr (fun u18 hu18=>C0 (oS y2 (52,g3)) rfl rfl (sp rfl rfl (sp rfl rfl (sl rfl G_hit rfl (sd rfl (J6 rfl) (bs hz2 fun v4 hv4 hz2=>B2 rfl (C3 (A3u (gq rfl)) (rD (rD D2))) (.cons A3t (.cons (.refl _) A2)) (A9d _ _ _ _ hv4) (.inr rfl) (C0 (.d (bo (!v4))) rfl rfl (A1 (cc rfl hz2 (fun c6 hz2=> ?_) (fun c6 hz2=> ?_))))))))))))
 refine lr (fun u19 hu19=>sv rfl (A1 (B4 ?_)))
 cases hz2
 obtain rfl:=ez2 _ rfl
 refine ⟨nofun,G0 ?_⟩
 rw [Sum.elim_inr]at h
 cases h
 exact A8 (.inr rfl) (B7 (B6 rfl) E5) (.refl _)
 refine B1 (lr (fun u20 hu20=>sp rfl rfl (sl rfl (gq rfl) rfl (sd rfl (J6 rfl) (sv rfl (A1 (js hz2 fun z4 hz4 hz2=>E7 (fun s=> ∃(y3:Unit) (g5:Unit),z4= .inl y3∧Sb ⟨T [(1,(.ptr (1,u1) 0)),(13,(dl B0c p1.Map_.Zones)),(14,(di (p1.Map_.Zones.length:Int))),(15,(di x1))],G [((1,u1),some (.box 212 (A02 p1.Map_)))]⟩ s) ?_ ?_)))))))
 refine A9 (G5 (Y6 p1 v1) (fun (x3:Int) (g6:Unit)=>⟨T [(1,(.ptr (1,u1) 0)),(13,(dl B0c p1.Map_.Zones)),(14,(di (p1.Map_.Zones.length:Int))),(15,(di x1)),(62,(dl B0n v1.Parts)),(63,(di (v1.Parts.length:Int))),(64,(di x3))],G [((1,u1),some (.box 212 (A02 p1.Map_)))]⟩) 0 () _ hz4 (sbr rfl rfl) ?_)
 intro x3 g6 z5 hz5 ez5
 unfold Y6 at hz5
 refine lr (fun u21 hu21=>sv rfl (A1 (A7 (cc rfl hz5 (fun c7 hz5=> ?_) (fun c7 hz5=> ?_)))))
 refine B1 (A7 (A9 (lr (fun u22 hu22=>bs hz5 fun v5 hv5 hz5=>sd rfl (F9 rfl rfl hv5 rfl) (sd rfl (C6 rfl hv5 rfl rfl) (sn rfl rfl (sst rfl G_hit (C4y v5) rfl (A1 (A7 (I0 rfl fun u23 hu23=>sp rfl rfl (sl rfl G_hit rfl (sv rfl (sv rfl (gp rfl (A0h rfl) (fun _=>rfl) (gf rfl (vl rfl G_hit rfl) (gp rfl (A0h rfl) (fun _=>rfl) (gf rfl (vl rfl G_hit rfl) (gf rfl (fun w12=>(X7 (A4 w12) (A4 w12) rfl)) (sd rfl (A49 rfl rfl (fun hc=>A4 (S3 hc))) (sv rfl (gp rfl (A0h rfl) (fun _=>rfl) (gf rfl (vl rfl G_hit rfl) (gp rfl (A0h rfl) (fun _=>rfl) (gf rfl (fun w16=>(A6 (A4 w16) (gq rfl) rfl rfl)) (gp rfl (A0h rfl) (fun _=>rfl) (gf rfl (vl rfl G_hit rfl) (bs hz5 fun v6 hv6 hz5=> ?_)))))))))))))))))))))))))))
 refine O5 _ (i64 v6) (A0h rfl) (fun w19=>⟨_,[(.d (.agg (A5o p1.Map_))),(di v5.Lane_)],_,_,(by simp only [A4 w19];rfl),rfl,A2,A8k _ _ _ (B9 w19 hv6),(.inl rfl)⟩) ?_
 refine gf rfl (fun w20=>(X7 (A4 w20) (A4 w20) rfl)) (sd rfl (A49 rfl rfl (fun hc=>A4 (S3 hc))) (sv rfl (gp rfl (A0h rfl) (fun _=>rfl) (gf rfl (vl rfl G_hit rfl) (gf rfl (vb rfl rfl rfl) (sd rfl (A49 rfl rfl (fun hc=>A4 (S3 hc))) (sv rfl (gp rfl (A0h rfl) (fun _=>rfl) (gf rfl (vl rfl G_hit rfl) (gf rfl (vb rfl rfl rfl) (sd rfl (A49 rfl rfl (fun hc=>A4 (S3 hc))) (A1 (cc rfl hz5 (fun c8 hz5=> ?_) (fun c8 hz5=> ?_))))))))))))))
 refine lr (fun u24 hu24=>sv rfl (A1 (B4 ?_)))
 cases hz5
 obtain rfl:=ez5 _ rfl
 refine ⟨nofun,G0 ?_⟩
 rw [Sum.elim_inr]at hz2
 cases hz2
 obtain rfl:=ez2 _ rfl
 refine ⟨nofun,G0 ?_⟩
 rw [Sum.elim_inr]at h
 cases h
 exact A8 (.inr rfl) (B7 (B6 rfl) E5) (.refl _)
 refine B1 (J3 (C7 fun u25 hu25=>sv rfl (sv rfl (A1 (I3 ?_)))))
 cases hz5
 exact ⟨rfl,(),(sbr rfl rfl)⟩
 refine C5 rfl ?_
 cases hz5
 obtain rfl:=ez5 _ rfl
 refine ⟨nofun,C2 rfl (l_j ?_)⟩
 exact ⟨_,(),rfl,(sbr rfl rfl)⟩
 rintro _ ⟨y3,g5,rfl,q2⟩
 rw [Sum.elim_inl]at hz2
 refine J3 (B5 q2 (C7 fun u26 hu26=>sv rfl (sv rfl (A1 (I3 ?_)))))
 cases hz2
 exact ⟨rfl,(),(sbr rfl rfl)⟩
 refine C5 rfl ?_
 cases hz2
 obtain rfl:=ez2 _ rfl
 refine ⟨nofun,C2 rfl (l_j ?_)⟩
 exact ⟨_,(),rfl,(sbr rfl rfl)⟩
 rintro _ ⟨y1,g1,rfl,q3⟩
 rw [Sum.elim_inl]at h
 refine B5 q3 (lr (fun u27 hu27=>sv rfl (A1 (B4 ?_))))
 cases h
 exact A8 (.inr rfl) (B7 (B6 rfl) E5) (.refl _)
noncomputable def Y9 (p1:RoadsCheck)(x1:Int):Option (Stp Int (Sum Unit Int)):=
  cond (decide (x1< (p1.Map_.Works.length:Int))) ((D0 p1.Map_.Works x1).bind fun v1=>cond ((decide (v1.Lane_<0))||(decide (v1.Lane_≥(p1.Map_.Lanes.length:Int)))) (some (.out (.inr 7))) ((D0 p1.Map_.Lanes v1.Lane_).bind fun v2=>(A20 v2.Kind).bind fun v3=>((cond (!((decide (v1.From<0))||(decide (v1.From>v1.To)))) (A5p p1.Map_ v1.Lane_) (some default))).bind fun v4=>((cond (!((((((decide (v1.From<0))||(decide (v1.From>v1.To)))||(decide (v1.To>v4)))||(decide (v1.Begin<0)))||(decide (v1.Begin≥v1.End)))||(decide (v1.End>1099511627776)))) (W4 v1.Limit 0 v3.1) (some default))).bind fun v5=>cond (((((((decide (v1.From<0))||(decide (v1.From>v1.To)))||(decide (v1.To>v4)))||(decide (v1.Begin<0)))||(decide (v1.Begin≥v1.End)))||(decide (v1.End>1099511627776)))||(!v5)) (some (.out (.inr 2))) (some (.go (w64 (x1+1)))))) (some (.out (.inl ())))
noncomputable def A1p (p1:RoadsCheck):Option Int:=
  thenS (loop (Y9 p1) 0) (fun _=>some 0) (fun r=>some r)
theorem B4p (p1:RoadsCheck)(r:Int)(h:A1p p1=some r):PCall Tryz.prog 153 [(.agg (A5o p1.Map_))] (i64 r):=by
 refine B8 (fk Tryz.func153 Tryz.ntmps153 m0 (by with_unfolding_all rfl)) (nl rfl) ?_
 unfold A1p at h
 refine B5 (s0:=⟨T [(0,(.d _))],G []⟩) (sbr rfl rfl) ?_
 refine lr (fun u1 hu1=>sn rfl rfl (sv rfl (A1 (A7 (lr (fun u2 hu2=>sp rfl rfl (sp rfl rfl (sl rfl G_hit rfl (sd rfl (J6 rfl) (sv rfl (A1 (js h fun z1 hz1 h=>E7 (fun s=> ∃(y1:Unit) (g1:Unit),z1= .inl y1∧Sb ⟨T [],G []⟩ s) ?_ ?_))))))))))))
 refine A9 (G5 (Y9 p1) (fun (x1:Int) (g2:Unit)=>⟨T [(1,(.ptr (1,u1) 0)),(10,(dl B94 p1.Map_.Works)),(11,(di (p1.Map_.Works.length:Int))),(12,(di x1))],G [((1,u1),some (.box 212 (A02 p1.Map_)))]⟩) 0 () _ hz1 (sbr rfl rfl) ?_)
 intro x1 g2 z2 hz2 ez2
 unfold Y9 at hz2
 refine lr (fun u3 hu3=>sv rfl (A1 (A7 (cc rfl hz2 (fun c1 hz2=> ?_) (fun c1 hz2=> ?_)))))
 refine B1 (A7 (A9 (lr (fun u4 hu4=>bs hz2 fun v1 hv1 hz2=>sd rfl (F9 rfl rfl hv1 rfl) (sd rfl (C6 rfl hv1 rfl rfl) (sn rfl rfl (sst rfl G_hit (D1t v1) rfl (A1 (A7 (lr (fun u5 hu5=>sp rfl rfl (sl rfl G_hit rfl (sv rfl (sv rfl (gp rfl (A0h rfl) (fun _=>rfl) (gf rfl (vl rfl G_hit rfl) (gp rfl (A0h rfl) (fun _=>rfl) ?_)))))))))))))))))
 refine U0 _ (.ptr _ _) rfl (A0h rfl) (fun w4=>(by simp only [A4 w4];rfl)) ?_
 refine gf rfl (vl rfl (gq rfl) rfl) (gf rfl (fun w6=>(J6 (A4 w6))) (gf rfl (fun w7=>(X7 (A4 w7) (A4 w7) rfl)) (sd rfl (A49 rfl rfl (fun hc=>A4 (S3 hc))) (A1 (cc rfl hz2 (fun c2 hz2=> ?_) (fun c2 hz2=> ?_))))))
 refine lr (fun u6 hu6=>sv rfl (A1 (B4 ?_)))
 cases hz2
 obtain rfl:=ez2 _ rfl
 refine ⟨nofun,G0 ?_⟩
 rw [Sum.elim_inr]at h
 cases h
 exact A8 (.inr rfl) (B7 (B6 rfl) E5) (.refl _)
 refine B1 (lr (fun u7 hu7=>sp rfl rfl (sp rfl rfl (sl rfl (gq rfl) rfl (sp rfl rfl (sl rfl G_hit rfl (bs hz2 fun v2 hv2 hz2=>sd rfl (F9 rfl rfl hv2 rfl) (sv rfl (sd rfl (F4 rfl hv2 rfl) (bs hz2 fun v3 hv3 hz2=>B2 rfl rfl A2 (A5z _ _ hv3) (.inl rfl) (sv rfl (sv rfl (sv rfl (sv rfl (sv rfl (sv rfl (sv rfl (A1 (A7 (I0 rfl fun u8 hu8=>sp rfl rfl (sl rfl G_hit rfl (sv rfl (sv rfl (gp rfl (A0h rfl) (fun _=>rfl) (gf rfl (vl rfl G_hit rfl) (gp rfl (A0h rfl) (fun _=>rfl) (gf rfl (vl rfl G_hit rfl) (gf rfl (fun w12=>(X7 (A4 w12) (A4 w12) rfl)) (sd rfl (A49 rfl rfl (fun hc=>A4 (S3 hc))) (sv rfl (gp rfl (A0h rfl) (fun _=>rfl) (gf rfl (vl rfl G_hit rfl) (gp rfl (A0h rfl) (fun _=>rfl) (gf rfl (fun w16=>(A6 (A4 w16) (gq rfl) rfl rfl)) (gp rfl (A0h rfl) (fun _=>rfl) (gf rfl (vl rfl G_hit rfl) (bs hz2 fun v4 hv4 hz2=> ?_)))))))))))))))))))))))))))))))))))))
 refine O5 _ (i64 v4) (A0h rfl) (fun w19=>⟨_,[(.d (.agg (A5o p1.Map_))),(di v1.Lane_)],_,_,(by simp only [A4 w19];rfl),rfl,A2,A8k _ _ _ (B9 w19 hv4),(.inl rfl)⟩) ?_
 refine gf rfl (fun w20=>(X7 (A4 w20) (A4 w20) rfl)) (sd rfl (A49 rfl rfl (fun hc=>A4 (S3 hc))) (sv rfl (gp rfl (A0h rfl) (fun _=>rfl) (gf rfl (vl rfl G_hit rfl) (gf rfl (vb rfl rfl rfl) (sd rfl (A49 rfl rfl (fun hc=>A4 (S3 hc))) (sv rfl (gp rfl (A0h rfl) (fun _=>rfl) (gf rfl (vl rfl G_hit rfl) (gp rfl (A0h rfl) (fun _=>rfl) (gf rfl (vl rfl G_hit rfl) (gf rfl (fun w28=>(X7 (A4 w28) (A4 w28) rfl)) (sd rfl (A49 rfl rfl (fun hc=>A4 (S3 hc))) (sv rfl (gp rfl (A0h rfl) (fun _=>rfl) (gf rfl (vl rfl G_hit rfl) (gf rfl (vb rfl rfl rfl) (sd rfl (A49 rfl rfl (fun hc=>A4 (S3 hc))) (sv rfl (gp rfl (A0h rfl) (fun _=>rfl) (gf rfl (vl rfl G_hit rfl) (gf rfl (fun _=>rfl) (bs hz2 fun v5 hv5 hz2=> ?_)))))))))))))))))))))))
 refine O5 _ (bo v5) (A0h rfl) (fun w35=>⟨_,[(di v1.Limit),(di 0),(di v3.1)],_,_,(by simp only [A4 w35];rfl),rfl,A2,A04 _ _ _ _ (B9 w35 hv5),(.inl rfl)⟩) ?_
 refine U0 _ (.d (bo (!v5))) rfl (A0h rfl) (fun w36=>(by simp only [A4 w36];rfl)) ?_
 refine sd rfl (A49 rfl rfl (fun hc=>A4 (S3 hc))) (A1 (cc rfl hz2 (fun c3 hz2=> ?_) (fun c3 hz2=> ?_)))
 refine A7 (B5 (s0:=⟨T [],G []⟩) (sbr rfl rfl) ?_)
 refine C7 fun u9 hu9=>sv rfl (A1 (B4 ?_))
 cases hz2
 obtain rfl:=ez2 _ rfl
 refine ⟨nofun,G0 ?_⟩
 rw [Sum.elim_inr]at h
 cases h
 exact A8 (.inr rfl) (B7 (B6 rfl) E5) (.refl _)
 refine B1 (J3 (B5 (s0:=⟨T [(1,(.ptr _ _)),(10,(.d _)),(11,(.d _)),(12,(.d _))],G [((1,u1),some (.box 212 _))]⟩) (sbr rfl rfl) ?_))
 refine C7 fun u10 hu10=>sv rfl (sv rfl (A1 (I3 ?_)))
 cases hz2
 exact ⟨rfl,(),(sbr rfl rfl)⟩
 refine C5 rfl ?_
 cases hz2
 obtain rfl:=ez2 _ rfl
 refine ⟨nofun,C2 rfl (l_j ?_)⟩
 exact ⟨_,(),rfl,(sbr rfl rfl)⟩
 rintro _ ⟨y1,g1,rfl,q1⟩
 rw [Sum.elim_inl]at h
 refine B5 q1 (lr (fun u11 hu11=>sv rfl (A1 (B4 ?_))))
 cases h
 exact A8 (.inr rfl) (B7 (B6 rfl) E5) (.refl _)
noncomputable def S4 (v:Nat)(p1:RoadsCheck):Option Int:=
  cond (Nat.beq v 148) (A05 p1) (cond (Nat.beq v 149) (A1n p1) (cond (Nat.beq v 150) (A0v p1) (cond (Nat.beq v 151) (A06 p1) (cond (Nat.beq v 152) (A1o p1) (cond (Nat.beq v 153) (A1p p1) (none))))))
theorem A85 (v:Nat)(p1:RoadsCheck)(r:Int)(h:S4 v p1=some r):PCall Tryz.prog v [(.agg [(i64 p1.Map_.Version),(.list (List.map B39 p1.Map_.Lanes)),(.list (List.map B0c p1.Map_.Zones)),(.list (List.map B0o p1.Map_.Signals)),(.list (List.map B94 p1.Map_.Works))])] (i64 r):=by
  unfold S4 at h
  rcases B9s h with ⟨rfl,h⟩|⟨_,h⟩
  ·exact B3a _ r h
  rcases B9s h with ⟨rfl,h⟩|⟨_,h⟩
  ·exact B4n _ r h
  rcases B9s h with ⟨rfl,h⟩|⟨_,h⟩
  ·exact B3l _ r h
  rcases B9s h with ⟨rfl,h⟩|⟨_,h⟩
  ·exact B3b _ r h
  rcases B9s h with ⟨rfl,h⟩|⟨_,h⟩
  ·exact B4o _ r h
  rcases B9s h with ⟨rfl,h⟩|⟨_,h⟩
  ·exact B4p _ r h
  cases h
noncomputable def A4m (p1:Map)(x1:Int):Option (Stp Int (Sum Unit Int)):=
  cond (decide (x1< ([148,149,150,151,152,153].length:Int))) ((D0 [148,149,150,151,152,153] x1).bind fun v1=>(S4 v1 (RoadsCheck.mk p1)).bind fun v2=>cond (v2 !=0) (some (.out (.inr v2))) (some (.go (w64 (x1+1))))) (some (.out (.inl ())))
noncomputable def A58 (p1:Map):Option Int:=
  thenS (loop (A4m p1) 0) (fun _=>some 0) (fun r=>some r)
theorem B0q (p1:Map)(r:Int)(h:A58 p1=some r):PCall Tryz.prog 71 [(.agg (A5o p1))] (i64 r):=by
 refine B8 (fk Tryz.func71 Tryz.ntmps71 (fun r=>if r==1 then [1000]else []) (by with_unfolding_all rfl)) (nl rfl) ?_
 unfold A58 at h
 refine B5 (s0:=⟨T [(0,(.d _))],G []⟩) (sbr rfl rfl) ?_
 refine lr (fun u1 hu1=>sn rfl rfl (sv rfl (A1 (A7 (lr (fun u2 hu2=>C0 (dl eFn [148,149,150,151,152,153]) rfl rfl (sd rfl (J6 rfl) (sv rfl (A1 (js h fun z1 hz1 h=>E7 (fun s=> ∃(y1:Unit) (g1:Unit),z1= .inl y1∧Sb ⟨T [],G []⟩ s) ?_ ?_))))))))))
 refine A9 (G5 (A4m p1) (fun (x1:Int) (g2:Unit)=>⟨T [(1,(.ptr (1,u1) 0)),(6,(dl eFn [148,149,150,151,152,153])),(7,(di ([148,149,150,151,152,153].length:Int))),(8,(di x1))],G [((1,u1),some (.box 33 (A02 p1)))]⟩) 0 () _ hz1 (sbr rfl rfl) ?_)
 intro x1 g2 z2 hz2 ez2
 unfold A4m at hz2
 refine lr (fun u3 hu3=>sv rfl (A1 (A7 (cc rfl hz2 (fun c1 hz2=> ?_) (fun c1 hz2=> ?_)))))
 refine B1 (A7 (A9 (lr (fun u4 hu4=>bs hz2 fun v1 hv1 hz2=>sd rfl (F9 rfl rfl hv1 rfl) (sd rfl (F4 rfl hv1 rfl) (sv rfl (A1 (lr (fun u5 hu5=>sv rfl (sd rfl (A6 rfl G_hit rfl rfl) (sv rfl (bs hz2 fun v2 hv2 hz2=>B2 rfl rfl A2 (A85 _ _ _ hv2) (.inl rfl) (sv rfl (A1 (lr (fun u6 hu6=>sv rfl (sv rfl (A1 (cc rfl hz2 (fun c2 hz2=> ?_) (fun c2 hz2=> ?_))))))))))))))))))))
 refine lr (fun u7 hu7=>sv rfl (sv rfl (A1 (B4 ?_))))
 cases hz2
 obtain rfl:=ez2 _ rfl
 refine ⟨nofun,G0 ?_⟩
 rw [Sum.elim_inr]at h
 cases h
 exact A8 (.inr rfl) (B7 (B6 rfl) E5) (.refl _)
 refine B1 (J3 (C7 fun u8 hu8=>sv rfl (sv rfl (A1 (I3 ?_)))))
 cases hz2
 exact ⟨rfl,(),(sbr rfl rfl)⟩
 refine C5 rfl ?_
 cases hz2
 obtain rfl:=ez2 _ rfl
 refine ⟨nofun,C2 rfl (l_j ?_)⟩
 exact ⟨_,(),rfl,(sbr rfl rfl)⟩
 rintro _ ⟨y1,g1,rfl,q1⟩
 rw [Sum.elim_inl]at h
 refine B5 q1 (lr (fun u9 hu9=>sv rfl (A1 (B4 ?_))))
 cases h
 exact A8 (.inr rfl) (B7 (B6 rfl) E5) (.refl _)
noncomputable def U9 (p1:(List Int))(p2:Int)(x1:Int):Option (Stp Int (Sum Unit Int)):=
  cond (decide (x1< (p1.length:Int))) ((D0 p1 x1).bind fun v1=>cond (p2==v1) (some (.out (.inr x1))) (some (.go (w64 (x1+1))))) (some (.out (.inl ())))
noncomputable def V2 (p1:(List Int))(p2:Int):Option Int:=
  thenS (loop (U9 p1 p2) 0) (fun _=>some (-1)) (fun r=>some r)
theorem A64 (p1:(List Int))(p2:Int)(r:Int)(h:V2 p1 p2=some r):PCall Tryz.prog 244 [(.list (List.map A5 p1)),(i64 p2)] (i64 r):=by
 refine B8 (fk Tryz.func244 Tryz.ntmps244 m0 (by with_unfolding_all rfl)) (nl rfl) ?_
 unfold V2 at h
 refine B5 (s0:=⟨T [(0,(.d _)),(1,(.d _))],G []⟩) (sbr rfl rfl) ?_
 refine lr (fun u1 hu1=>sv rfl (A1 (A7 (lr (fun u2 hu2=>sv rfl (sd rfl (J6 rfl) (sv rfl (A1 (js h fun z1 hz1 h=>E7 (fun s=> ∃(y1:Unit) (g1:Unit),z1= .inl y1∧Sb ⟨T [],G []⟩ s) ?_ ?_)))))))))
 refine A9 (G5 (U9 p1 p2) (fun (x1:Int) (g2:Unit)=>⟨T [(0,(dl A5 p1)),(1,(di p2)),(7,(di (p1.length:Int))),(8,(di x1))],G []⟩) 0 () _ hz1 (sbr rfl rfl) ?_)
 intro x1 g2 z2 hz2 ez2
 unfold U9 at hz2
 refine lr (fun u3 hu3=>sv rfl (A1 (A7 (cc rfl hz2 (fun c1 hz2=> ?_) (fun c1 hz2=> ?_)))))
 refine B1 (A7 (A9 (lr (fun u4 hu4=>sv rfl (sv rfl (A1 (lr (fun u5 hu5=>sv rfl (sv rfl (sv rfl (bs hz2 fun v1 hv1 hz2=>sd rfl (F9 rfl rfl hv1 rfl) (sd rfl (F4 rfl hv1 rfl) (sv rfl (A1 (cc rfl hz2 (fun c2 hz2=> ?_) (fun c2 hz2=> ?_))))))))))))))))
 refine lr (fun u6 hu6=>sv rfl (sv rfl (A1 (B4 ?_))))
 cases hz2
 obtain rfl:=ez2 _ rfl
 refine ⟨nofun,G0 ?_⟩
 rw [Sum.elim_inr]at h
 cases h
 exact A8 (.inr rfl) (B7 (B6 rfl) E5) (.refl _)
 refine B1 (J3 (C7 fun u7 hu7=>sv rfl (sv rfl (A1 (I3 ?_)))))
 cases hz2
 exact ⟨rfl,(),(sbr rfl rfl)⟩
 refine C5 rfl ?_
 cases hz2
 obtain rfl:=ez2 _ rfl
 refine ⟨nofun,C2 rfl (l_j ?_)⟩
 exact ⟨_,(),rfl,(sbr rfl rfl)⟩
 rintro _ ⟨y1,g1,rfl,q1⟩
 rw [Sum.elim_inl]at h
 refine B5 q1 (lr (fun u8 hu8=>sv rfl (A1 (B4 ?_))))
 cases h
 exact A8 (.inr rfl) (B7 (B6 rfl) E5) (.refl _)
noncomputable def P7 (p1:(List Int))(p2:Int):Option Bool:=
  (V2 p1 p2).bind fun v1=>some (decide (v1≥0))
theorem A0i (p1:(List Int))(p2:Int)(r:Bool)(h:P7 p1 p2=some r):PCall Tryz.prog 215 [(.list (List.map A5 p1)),(i64 p2)] (bo r):=by
 refine B8 (fk Tryz.func215 Tryz.ntmps215 m0 (by with_unfolding_all rfl)) (nl rfl) ?_
 unfold P7 at h
 refine B5 (s0:=⟨T [(0,(.d _)),(1,(.d _))],G []⟩) (sbr rfl rfl) ?_
 refine lr (fun u1 hu1=>sv rfl (A1 (lr (fun u2 hu2=>sv rfl (sv rfl (bs h fun v1 hv1 h=>B2 rfl rfl A2 (A64 _ _ _ hv1) (.inl rfl) (sv rfl (sv rfl (A1 (B4 ?_))))))))))
 cases h
 exact A8 (.inr rfl) (B7 (B6 rfl) E5) (.refl _)
noncomputable def A37 (p1:Map)(p2:Int)(x1:((List Int)×Int)):Option (Stp ((List Int)×Int) (List Int)):=
  cond (decide (x1.2< (p1.Lanes.length:Int))) ((D0 p1.Lanes x1.2).bind fun v1=>(P7 v1.Next p2).bind fun v2=>cond v2 ((A83 x1.1 [x1.2]).bind fun v3=>some (.go (v3,(w64 (x1.2+1))))) (some (.go (x1.1,(w64 (x1.2+1)))))) (some (.out x1.1))
noncomputable def A7r (p1:Map)(p2:Int):Option (List Int):=
  (loop (A37 p1 p2) ([],0)).bind fun y1=>some y1
theorem B8s (p1:Map)(p2:Int)(r:(List Int))(h:A7r p1 p2=some r):PCall Tryz.prog 214 [(.agg (A5o p1)),(i64 p2)] (.list (List.map A5 r)):=by
 refine B8 (fk Tryz.func214 Tryz.ntmps214 (fun r=>if r==6 then [1002]else []) (by with_unfolding_all rfl)) (nl rfl) ?_
 unfold A7r at h
 refine B5 (s0:=⟨T [(0,(.d _)),(1,(.d _))],G []⟩) (sbr rfl rfl) ?_
 refine lr (fun u1 hu1=>sn rfl rfl (sv rfl (A1 (lr (fun u2 hu2=>sv rfl (A1 (A7 (lr (fun u3 hu3=>sp rfl rfl (sl rfl G_hit rfl (sd rfl (J6 rfl) (sv rfl (A1 (bs h fun y1 hy1 h=>E7 (fun s=> ∃g1:Nat,Sb ⟨T [(5,(oS y1 (23,g1)))],G [((23,g1),oB 3 1 A5 y1)]⟩ s) ?_ ?_))))))))))))))
 refine A9 (G5 (A37 p1 p2) (fun (x1:((List Int)×Int)) (g2:Nat)=>⟨T [(1,(di p2)),(5,(oS x1.1 (23,g2))),(9,(dl B39 p1.Lanes)),(10,(di (p1.Lanes.length:Int))),(11,(di x1.2))],G [((23,g2),oB 3 1 A5 x1.1)]⟩) ([],0) 0 _ hy1 (G2 ⟨.of rfl, .of rfl, .of rfl, .of rfl, .of rfl,trivial⟩ (A2n trivial)) ?_)
 intro x1 g2 z1 hz1 ez1
 unfold A37 at hz1
 refine lr (fun u4 hu4=>sv rfl (A1 (A7 (cc rfl hz1 (fun c1 hz1=> ?_) (fun c1 hz1=> ?_)))))
 refine B1 (A7 (A9 (lr (fun u5 hu5=>sv rfl (bs hz1 fun v1 hv1 hz1=>sd rfl (F9 rfl rfl hv1 rfl) (sd rfl (C6 rfl hv1 rfl rfl) (sn rfl rfl (sv rfl (sst rfl G_hit (C85 v1) rfl (A1 (lr (fun u6 hu6=>sp rfl rfl (sl rfl G_hit rfl (sv rfl (bs hz1 fun v2 hv2 hz1=>B2 rfl rfl A2 (A0i _ _ _ hv2) (.inl rfl) (A1 (cc rfl hz1 (fun c2 hz1=> ?_) (fun c2 hz1=> ?_))))))))))))))))))
 refine C7 fun u7 hu7=>C0 (oS x1.1 (23,g2)) rfl rfl (sv rfl (C0 (dl A5 [x1.2]) rfl rfl (bs hz1 fun v3 hv3 hz1=>U6 A5 (23,g2) x1.1 x1.2 [] _ (Q5 (fun _=>rfl)) rfl (gq rfl) hv3 (ss rfl (A1 (J3 (C7 fun u8 hu8=>sv rfl (sv rfl (A1 (I3 ?_))))))))))
 cases hz1
 exact ⟨rfl,u7,(G2 ⟨.of rfl,(.of (A6z (A00 hv3)).symm), .of rfl, .of rfl, .of rfl,trivial⟩ (A16 G_hit trivial))⟩
 refine B1 (J3 (C7 fun u9 hu9=>sv rfl (sv rfl (A1 (I3 ?_)))))
 cases hz1
 exact ⟨rfl,g2,(G2 ⟨.of rfl, .of rfl, .of rfl, .of rfl, .of rfl,trivial⟩ (B3 (gq rfl) trivial))⟩
 refine C5 rfl ?_
 cases hz1
 obtain rfl:=ez1 _ rfl
 refine ⟨nofun,C2 rfl (l_j ?_)⟩
 exact ⟨g2,(G2 ⟨.of rfl,trivial⟩ (B3 G_hit trivial))⟩
 rintro _ ⟨g1,q1⟩
 refine B5 q1 (lr (fun u10 hu10=>C0 (oS y1 (23,g1)) rfl rfl (C0 (oS y1 (23,g1)) rfl rfl (A1 (B4 ?_)))))
 cases h
 exact A8 (.inr rfl) (B7 (B6 rfl) (A3u G_hit)) A3t
noncomputable def A07 (p1:Map)(v7:List Int)(x1:(Int×Int)):Option (Stp (Int×Int) (Sum Unit Int)):=
  cond (decide (x1.2< (v7.length:Int))) ((D0 v7 x1.2).bind fun v8=>(D0 p1.Lanes x1.1).bind fun v9=>(P7 v9.Next v8).bind fun v10=>cond (!v10) (some (.out (.inr 13))) (some (.go (v8,(w64 (x1.2+1)))))) (some (.out (.inl ())))
noncomputable def A0n (p1:Map)(p2:(List Int)):Option Int:=
  (A58 p1).bind fun v1=>cond (v1 !=0) (some v1) (((cond (!(((p2.length:Int)==0)||(decide ((p2.length:Int)>8)))) (D0 p2 0) (some default))).bind fun v2=>((cond (!((((p2.length:Int)==0)||(decide ((p2.length:Int)>8)))||(decide (v2<0)))) (D0 p2 0) (some default))).bind fun v3=>((cond (!(((((p2.length:Int)==0)||(decide ((p2.length:Int)>8)))||(decide (v2<0)))||(decide (v3≥(p1.Lanes.length:Int))))) (D0 p2 0) (some default))).bind fun v4=>((cond (!(((((p2.length:Int)==0)||(decide ((p2.length:Int)>8)))||(decide (v2<0)))||(decide (v3≥(p1.Lanes.length:Int))))) (A7r p1 v4) (some default))).bind fun v5=>cond ((((((p2.length:Int)==0)||(decide ((p2.length:Int)>8)))||(decide (v2<0)))||(decide (v3≥(p1.Lanes.length:Int))))||(decide ((v5.length:Int)>0))) (some 13) ((D0 p2 0).bind fun v6=>(D0s p2 1 (p2.length:Int)).bind fun v7=>thenS (loop (A07 p1 v7) (v6,0)) (fun _=>some 0) (fun r=>some r)))
theorem A9e (p1:Map)(p2:(List Int))(r:Int)(h:A0n p1 p2=some r):PCall Tryz.prog 154 [(.agg (A5o p1)),(.list (List.map A5 p2))] (i64 r):=by
 refine B8 (fk Tryz.func154 Tryz.ntmps154 m0 (by with_unfolding_all rfl)) (nl rfl) ?_
 unfold A0n at h
 refine B5 (s0:=⟨T [(0,(.d _)),(1,(.d _))],G []⟩) (sbr rfl rfl) ?_
 refine lr (fun u1 hu1=>sn rfl rfl (sv rfl (A1 (A7 (lr (fun u2 hu2=>sd rfl (A6 rfl G_hit rfl rfl) (bs h fun v1 hv1 h=>B2 rfl rfl A2 (B0q _ _ hv1) (.inl rfl) (sv rfl (A1 (lr (fun u3 hu3=>sv rfl (sv rfl (A1 (cc rfl h (fun c1 h=> ?_) (fun c1 h=> ?_)))))))))))))))
 refine lr (fun u4 hu4=>sv rfl (sv rfl (A1 (B4 ?_))))
 cases h
 exact A8 (.inr rfl) (B7 (B6 rfl) E5) (.refl _)
 refine B1 (A7 (A7 (I0 rfl fun u5 hu5=>sv rfl (sd rfl (J6 rfl) (sv rfl (sv rfl (gf rfl (fun _=>rfl) (gf rfl (fun w2=>(J6 (A4 w2))) (gf rfl (vb rfl rfl rfl) (sd rfl (A49 rfl rfl (fun hc=>A4 (S3 hc))) (sv rfl (gf rfl (fun _=>rfl) (bs h fun v2 hv2 h=>gf rfl (fun w5=>(F9 (A4 w5) rfl (B9 w5 hv2) rfl)) (gf rfl (fun w6=>(F4 (A4 w6) (B9 w6 hv2) rfl)) (gf rfl (vb rfl rfl rfl) (sd rfl (A49 rfl rfl (fun hc=>A4 (S3 hc))) (sv rfl (gf rfl (fun _=>rfl) (bs h fun v3 hv3 h=>gf rfl (fun w9=>(F9 (A4 w9) rfl (B9 w9 hv3) rfl)) (gf rfl (fun w10=>(F4 (A4 w10) (B9 w10 hv3) rfl)) (gp rfl (A0h rfl) (fun _=>rfl) (gf rfl (vl rfl G_hit rfl) (gf rfl (fun w13=>(J6 (A4 w13))) (gf rfl (fun w14=>(X7 (A4 w14) (A4 w14) rfl)) (sd rfl (A49 rfl rfl (fun hc=>A4 (S3 hc))) (sv rfl (gf rfl (fun w15=>(A6 rfl G_hit rfl rfl)) (gf rfl (fun _=>rfl) (bs h fun v4 hv4 h=>gf rfl (fun w17=>(F9 (A4 w17) rfl (B9 w17 hv4) rfl)) (gf rfl (fun w18=>(F4 (A4 w18) (B9 w18 hv4) rfl)) (bs h fun v5 hv5 h=> ?_)))))))))))))))))))))))))))))))
 refine O5 _ (.list (List.map A5 v5)) (A0h rfl) (fun w19=>⟨_,[(.d (.agg (A5o p1))),(di v4)],_,_,(by simp only [A4 w19];rfl),rfl,A2,B8s _ _ _ (B9 w19 hv5),(.inl rfl)⟩) ?_
 refine gf rfl (fun w20=>(J6 (A4 w20))) (gf rfl (vb rfl rfl rfl) (sd rfl (A49 rfl rfl (fun hc=>A4 (S3 hc))) (A1 (cc rfl h (fun c2 h=> ?_) (fun c2 h=> ?_)))))
 refine lr (fun u6 hu6=>sv rfl (A1 (B4 ?_)))
 cases h
 exact A8 (.inr rfl) (B7 (B6 rfl) E5) (.refl _)
 refine B1 (lr (fun u7 hu7=>sv rfl (bs h fun v6 hv6 h=>sd rfl (F9 rfl rfl hv6 rfl) (sd rfl (F4 rfl hv6 rfl) (sv rfl (A1 (A7 (lr (fun u8 hu8=>sv rfl (bs h fun v7 hv7 h=>sd rfl (D1i rfl (fun _=>rfl) (bd_x rfl) D0y hv7) (sd rfl (J6 rfl) (sv rfl (A1 (js h fun z1 hz1 h=>E7 (fun s=> ∃(y1:Unit) (g1:Unit),z1= .inl y1∧Sb ⟨T [],G []⟩ s) ?_ ?_))))))))))))))
 refine A9 (G5 (A07 p1 v7) (fun (x1:(Int×Int)) (g2:Unit)=>⟨T [(2,(.ptr (2,u1) 0)),(6,(di x1.1)),(50,(dl A5 v7)),(51,(di (v7.length:Int))),(52,(di x1.2))],G [((2,u1),some (.box 33 (A02 p1)))]⟩) (v6,0) () _ hz1 (sbr rfl rfl) ?_)
 intro x1 g2 z2 hz2 ez2
 unfold A07 at hz2
 refine lr (fun u9 hu9=>sv rfl (A1 (A7 (cc rfl hz2 (fun c3 hz2=> ?_) (fun c3 hz2=> ?_)))))
 refine B1 (A7 (A9 (lr (fun u10 hu10=>bs hz2 fun v8 hv8 hz2=>sd rfl (F9 rfl rfl hv8 rfl) (sd rfl (F4 rfl hv8 rfl) (sv rfl (A1 (A7 (lr (fun u11 hu11=>sp rfl rfl (sl rfl G_hit rfl (sv rfl (bs hz2 fun v9 hv9 hz2=>sd rfl (F9 rfl rfl hv9 rfl) (sv rfl (sd rfl (F4 rfl hv9 rfl) (sv rfl (bs hz2 fun v10 hv10 hz2=>B2 rfl rfl A2 (A0i _ _ _ hv10) (.inl rfl) (C0 (.d (bo (!v10))) rfl rfl (A1 (cc rfl hz2 (fun c4 hz2=> ?_) (fun c4 hz2=> ?_)))))))))))))))))))))
 refine lr (fun u12 hu12=>sv rfl (A1 (B4 ?_)))
 cases hz2
 obtain rfl:=ez2 _ rfl
 refine ⟨nofun,G0 ?_⟩
 rw [Sum.elim_inr]at h
 cases h
 exact A8 (.inr rfl) (B7 (B6 rfl) E5) (.refl _)
 refine B1 (C7 fun u13 hu13=>sv rfl (sv rfl (A1 (J3 (C7 fun u14 hu14=>sv rfl (sv rfl (A1 (I3 ?_))))))))
 cases hz2
 exact ⟨rfl,(),(sbr rfl rfl)⟩
 refine C5 rfl ?_
 cases hz2
 obtain rfl:=ez2 _ rfl
 refine ⟨nofun,C2 rfl (l_j ?_)⟩
 exact ⟨_,(),rfl,(sbr rfl rfl)⟩
 rintro _ ⟨y1,g1,rfl,q1⟩
 rw [Sum.elim_inl]at h
 refine B5 q1 (lr (fun u15 hu15=>sv rfl (A1 (B4 ?_))))
 cases h
 exact A8 (.inr rfl) (B7 (B6 rfl) E5) (.refl _)
noncomputable def A38 (p1:Map)(p2:(List Int))(x1:(Int× ((List Int)×Int))):Option (Stp (Int× ((List Int)×Int)) ((List Int)×Int)):=
  cond (decide (x1.1< (p2.length:Int))) ((D0 p2 x1.1).bind fun v2=>(A83 x1.2.1 [x1.2.2]).bind fun v3=>(A5p p1 v2).bind fun v4=>some (.go ((w64 (x1.1+1)),(v3,(w64 (x1.2.2+v4)))))) (some (.out x1.2))
noncomputable def A0w (p1:Map)(p2:(List Int)):Option RoadsWay:=
  (A0n p1 p2).bind fun v1=>cond (v1 !=0) (some (RoadsWay.mk (Map.mk 0 [] [] [] []) [] [] 0)) ((loop (A38 p1 p2) (0,([],0))).bind fun y1=>some (RoadsWay.mk p1 p2 y1.1 y1.2))
theorem A39 (p1:Map)(p2:(List Int))(r:RoadsWay)(h:A0w p1 p2=some r):PCall Tryz.prog 205 [(.agg (A5o p1)),(.list (List.map A5 p2))] (.agg (C6j r)):=by
 refine B8 (fk Tryz.func205 Tryz.ntmps205 (fun r=>if r==7 then [1004]else []) (by with_unfolding_all rfl)) (nl rfl) ?_
 unfold A0w at h
 refine B5 (s0:=⟨T [(0,(.d _)),(1,(.d _))],G []⟩) (sbr rfl rfl) ?_
 refine lr (fun u1 hu1=>sn rfl rfl (sn rfl rfl (A1 (A7 (lr (fun u2 hu2=>sd rfl (A6 rfl (gq rfl) rfl rfl) (sv rfl (bs h fun v1 hv1 h=>B2 rfl rfl A2 (A9e _ _ _ hv1) (.inl rfl) (sv rfl (A1 (cc rfl h (fun c1 h=> ?_) (fun c1 h=> ?_))))))))))))
 refine lr (fun u3 hu3=>sv rfl (sst rfl G_hit [(di 0),(.d .nilS),(.d .nilS),(.d .nilS),(.d .nilS),(.d .nilS),(.d .nilS),(di 0)] rfl (A1 (B4 ?_))))
 cases h
 exact A8 (.inr rfl) (B7 (G1 rfl G_hit (nl rfl) rfl) E5) (.agg (ca rfl (.cons ⟨DLe.nil,rfl⟩ (.cons ⟨DLe.nil,rfl⟩ (.cons ⟨DLe.nil,rfl⟩ (.cons ⟨DLe.nil,rfl⟩ (.cons ⟨DLe.nil,rfl⟩ (.cons ⟨DLe.nil,rfl⟩ (cz rfl)))))))))
 refine B1 (lr (fun u4 hu4=>sd rfl (A6 rfl (gq rfl) rfl rfl) (sv rfl (sv rfl (sn rfl rfl (sst rfl G_hit ((A02 p1)++ [(dl A5 p2),(.d .nilS),(di 0)]) rfl (A1 (A7 (lr (fun u5 hu5=>sv rfl (sd rfl (J6 rfl) (sv rfl (A1 (bs h fun y1 hy1 h=>E7 (fun s=> ∃g1:Nat,Sb ⟨T [(4,(.ptr (4,u1) 0)),(5,(.ptr (5,u4) 0))],G [((4,u1),some (.box 260 [(di 0),(.d .nilS),(.d .nilS),(.d .nilS),(.d .nilS),(.d .nilS),(.d .nilS),(di 0)])),((5,u4),some (.box 260 ((A02 p1)++ [(dl A5 p2),(oS y1.1 (27,g1)),(di y1.2)]))),((27,g1),oB 2 1 A5 y1.1)]⟩ s) ?_ ?_))))))))))))))
 refine A9 (G5 (A38 p1 p2) (fun (x1:(Int× ((List Int)×Int))) (g2:Nat)=>⟨T [(2,(.ptr (2,u1) 0)),(4,(.ptr (4,u1) 0)),(5,(.ptr (5,u4) 0)),(16,(dl A5 p2)),(17,(di (p2.length:Int))),(18,(di x1.1))],G [((2,u1),some (.box 33 (A02 p1))),((4,u1),some (.box 260 [(di 0),(.d .nilS),(.d .nilS),(.d .nilS),(.d .nilS),(.d .nilS),(.d .nilS),(di 0)])),((5,u4),some (.box 260 ((A02 p1)++ [(dl A5 p2),(oS x1.2.1 (27,g2)),(di x1.2.2)]))),((27,g2),oB 2 1 A5 x1.2.1)]⟩) (0,([],0)) 0 _ hy1 (G2 ⟨.of rfl, .of rfl, .of rfl, .of rfl, .of rfl, .of rfl,trivial⟩ (sg rfl (sg rfl (B0 G_hit (.of rfl) (A2n trivial))))) ?_)
 intro x1 g2 z1 hz1 ez1
 unfold A38 at hz1
 refine lr (fun u6 hu6=>sv rfl (A1 (A7 (cc rfl hz1 (fun c2 hz1=> ?_) (fun c2 hz1=> ?_)))))
 refine B1 (A7 (A9 (lr (fun u7 hu7=>bs hz1 fun v2 hv2 hz1=>sd rfl (F9 rfl rfl hv2 rfl) (sd rfl (F4 rfl hv2 rfl) (sv rfl (A1 (lr (fun u8 hu8=>sp rfl rfl (C0 (oS x1.2.1 (27,g2)) rfl (R7 rfl (gq rfl) rfl) (sp rfl rfl (sl rfl (gq rfl) rfl (C0 (dl A5 [x1.2.2]) rfl rfl (bs hz1 fun v3 hv3 hz1=>U6 A5 (27,g2) x1.2.1 x1.2.2 [] _ (Q5 (fun _=>rfl)) rfl (gq rfl) hv3 (sp rfl rfl (sst rfl (gq rfl) ((A02 p1)++ [(dl A5 p2),(.sl (27,u8)),(di x1.2.2)]) rfl (A1 (I0 rfl fun u9 hu9=>sp rfl rfl (sl rfl G_hit rfl (sd rfl (A6 rfl (gq rfl) rfl rfl) (sv rfl (bs hz1 fun v4 hv4 hz1=>B2 rfl rfl A2 (A8k _ _ _ hv4) (.inl rfl) (sv rfl (sp rfl rfl (sst rfl G_hit ((A02 p1)++ [(dl A5 p2),(.sl (27,u8)),(di (w64 (x1.2.2+v4)))]) rfl (A1 (J3 (C7 fun u10 hu10=>sv rfl (sv rfl (A1 (I3 ?_)))))))))))))))))))))))))))))))
 cases hz1
 exact ⟨rfl,u8,(G2 ⟨.of rfl, .of rfl, .of rfl, .of rfl, .of rfl, .of rfl,trivial⟩ (sg rfl (sg rfl (B0 G_hit (.box (cv (cv (cv (cv (cv (cv (.cons (.of (A6z (A00 hv3)).symm) cw)))))))) (A16 (gq rfl) trivial)))))⟩
 refine C5 rfl ?_
 cases hz1
 obtain rfl:=ez1 _ rfl
 refine ⟨nofun,C2 rfl (l_j ?_)⟩
 exact ⟨g2,(G2 ⟨.of rfl, .of rfl,trivial⟩ (sg rfl (sg rfl (B3 (gq rfl) trivial))))⟩
 rintro _ ⟨g1,q1⟩
 refine B5 q1 (lr (fun u11 hu11=>C0 (A31 ((A02 p1)++ [(dl A5 p2),(oS y1.1 (27,g1)),(di y1.2)])) rfl (A6 rfl (gq rfl) rfl rfl) (B2a _ _ _ _ _ (A0s _) rfl rfl G_hit (nl rfl) ((A02 p1)++ [(dl A5 p2),(oS y1.1 (27,g1)),(di y1.2)]) rfl (A1 (B4 ?_)))))
 cases h
 exact A8 (.inr rfl) (B7 (G1 rfl G_hit (nl rfl) rfl) (B4g (rD (rD (rD (rD (rD (rD (C3 (A3u (gq rfl)) (rD D2)))))))))) (.agg (ca rfl (ca rfl (ca rfl (ca rfl (ca rfl (ca rfl (.cons ⟨A3t,rfl⟩ (cz rfl)))))))))
noncomputable def A3a (p1:Map)(p2:(List Int)):Option (List Int):=
  (A0w p1 p2).bind fun v1=>some v1.starts
theorem A9f (p1:Map)(p2:(List Int))(r:(List Int))(h:A3a p1 p2=some r):PCall Tryz.prog 139 [(.agg (A5o p1)),(.list (List.map A5 p2))] (.list (List.map A5 r)):=by
 refine B8 (fk Tryz.func139 Tryz.ntmps139 m0 (by with_unfolding_all rfl)) (nl rfl) ?_
 unfold A3a at h
 refine B5 (s0:=⟨T [(0,(.d _)),(1,(.d _))],G []⟩) (sbr rfl rfl) ?_
 refine lr (fun u1 hu1=>sn rfl rfl (sv rfl (A1 (lr (fun u2 hu2=>sd rfl (A6 rfl G_hit rfl rfl) (sv rfl (bs h fun v1 hv1 h=>B2 rfl rfl A2 (A39 _ _ _ hv1) (.inl rfl) (sv rfl (sv rfl (A1 (B4 ?_)))))))))))
 cases h
 exact A8 (.inr rfl) (B7 (B6 rfl) E5) (.refl _)
noncomputable def A2j (p1:Agent):Option WorldSpan:=
  some (WorldSpan.mk (w64 (p1.S - p1.Len)) p1.S)
theorem A3y (p1:Agent)(r:WorldSpan)(h:A2j p1=some r):PCall Tryz.prog 140 [(.agg (C4 p1))] (.agg [(i64 r.from_),(i64 r.to)]):=by
 refine B8 (fk Tryz.func140 Tryz.ntmps140 m0 (by with_unfolding_all rfl)) (nl rfl) ?_
 unfold A2j at h
 refine B5 (s0:=⟨T [(0,(.d _))],G []⟩) (sbr rfl rfl) ?_
 refine lr (fun u1 hu1=>sn rfl rfl (sn rfl rfl (A1 (lr (fun u2 hu2=>sp rfl rfl (sl rfl (gq rfl) rfl (sp rfl rfl (sl rfl (gq rfl) rfl (sv rfl (sp rfl rfl (sl rfl (gq rfl) rfl (sv rfl (sst rfl G_hit [(di (w64 (p1.S - p1.Len))),(di p1.S)] rfl (A1 (B4 ?_)))))))))))))))
 cases h
 exact A8 (.inr rfl) (B7 (G1 rfl G_hit (nl rfl) rfl) E5) (.refl _)
noncomputable def W9 (p1:WorldSpan)(p2:Int):Option WorldSpan:=
  some (WorldSpan.mk (w64 (p1.from_ - p2)) (w64 (p1.to - p2)))
theorem A2x (p1:WorldSpan)(p2:Int)(r:WorldSpan)(h:W9 p1 p2=some r):PCall Tryz.prog 141 [(.agg [(i64 p1.from_),(i64 p1.to)]),(i64 p2)] (.agg [(i64 r.from_),(i64 r.to)]):=by
 refine B8 (fk Tryz.func141 Tryz.ntmps141 m0 (by with_unfolding_all rfl)) (nl rfl) ?_
 unfold W9 at h
 refine B5 (s0:=⟨T [(0,(.d _)),(1,(.d _))],G []⟩) (sbr rfl rfl) ?_
 refine lr (fun u1 hu1=>sn rfl rfl (sn rfl rfl (A1 (lr (fun u2 hu2=>sp rfl rfl (sl rfl (gq rfl) rfl (sv rfl (sv rfl (sp rfl rfl (sl rfl (gq rfl) rfl (sv rfl (sv rfl (sv rfl (sst rfl G_hit [(di (w64 (p1.from_ - p2))),(di (w64 (p1.to - p2)))] rfl (A1 (B4 ?_))))))))))))))))
 cases h
 exact A8 (.inr rfl) (B7 (G1 rfl G_hit (nl rfl) rfl) E5) (.refl _)
noncomputable def B2f (p1:Map)(p2:Int):Option Bool:=
  ((cond ((decide (p2≥0))&& (decide (p2< (p1.Lanes.length:Int)))) (A58 p1) (some default))).bind fun v1=>some (((decide (p2≥0))&& (decide (p2< (p1.Lanes.length:Int))))&& (v1==0))
theorem B5d (p1:Map)(p2:Int)(r:Bool)(h:B2f p1 p2=some r):PCall Tryz.prog 206 [(.agg (A5o p1)),(i64 p2)] (bo r):=by
 refine B8 (fk Tryz.func206 Tryz.ntmps206 m0 (by with_unfolding_all rfl)) (nl rfl) ?_
 unfold B2f at h
 refine B5 (s0:=⟨T [(0,(.d _)),(1,(.d _))],G []⟩) (sbr rfl rfl) ?_
 refine lr (fun u1 hu1=>sn rfl rfl (sv rfl (A1 (lr (fun u2 hu2=>sv rfl (sv rfl (sv rfl (gt rfl (fun _=>rfl) (gp rfl (V5 rfl) (fun _=>rfl) (gt rfl (vl rfl G_hit rfl) (gt rfl (fun w4=>(J6 (A4 w4))) (gt rfl (fun w5=>(X7 (A4 w5) (A4 w5) rfl)) (sa rfl rfl rfl (sv rfl (gt rfl (fun w6=>(A6 rfl G_hit rfl rfl)) (bs h fun v1 hv1 h=> ?_))))))))))))))))
 refine O5 _ (i64 v1) (V5 rfl) (fun w7=>⟨_,[(.d (.agg (A5o p1)))],_,_,(by simp only [A4 w7];rfl),rfl,A2,B0q _ _ (B9 w7 hv1),(.inl rfl)⟩) ?_
 refine gt rfl (vb rfl rfl rfl) (sa rfl rfl rfl (sv rfl (A1 (B4 ?_))))
 cases h
 exact A8 (.inr rfl) (B7 (B6 rfl) E5) (.refl _)
noncomputable def A21 (p1:Map)(p2:Int):Option Int:=
  (B2f p1 p2).bind fun v1=>cond (!v1) (some 0) ((A5p p1 p2).bind fun v2=>some v2)
theorem A65 (p1:Map)(p2:Int)(r:Int)(h:A21 p1 p2=some r):PCall Tryz.prog 143 [(.agg (A5o p1)),(i64 p2)] (i64 r):=by
 refine B8 (fk Tryz.func143 Tryz.ntmps143 m0 (by with_unfolding_all rfl)) (nl rfl) ?_
 unfold A21 at h
 refine B5 (s0:=⟨T [(0,(.d _)),(1,(.d _))],G []⟩) (sbr rfl rfl) ?_
 refine lr (fun u1 hu1=>sn rfl rfl (sv rfl (A1 (A7 (lr (fun u2 hu2=>sd rfl (A6 rfl G_hit rfl rfl) (sv rfl (bs h fun v1 hv1 h=>B2 rfl rfl A2 (B5d _ _ _ hv1) (.inl rfl) (C0 (.d (bo (!v1))) rfl rfl (A1 (cc rfl h (fun c1 h=> ?_) (fun c1 h=> ?_))))))))))))
 refine lr (fun u3 hu3=>sv rfl (A1 (B4 ?_)))
 cases h
 exact A8 (.inr rfl) (B7 (B6 rfl) E5) (.refl _)
 refine B1 (lr (fun u4 hu4=>sd rfl (A6 rfl G_hit rfl rfl) (sv rfl (bs h fun v2 hv2 h=>B2 rfl rfl A2 (A8k _ _ _ hv2) (.inl rfl) (sv rfl (A1 (B4 ?_)))))))
 cases h
 exact A8 (.inr rfl) (B7 (B6 rfl) E5) (.refl _)
noncomputable def A18 (p1:WorldSpan)(p2:WorldSpan):Option WorldSpan:=
  some (WorldSpan.mk (mm2 true p1.from_ p2.from_) (mm2 false p1.to p2.to))
theorem A72 (p1:WorldSpan)(p2:WorldSpan)(r:WorldSpan)(h:A18 p1 p2=some r):PCall Tryz.prog 142 [(.agg [(i64 p1.from_),(i64 p1.to)]),(.agg [(i64 p2.from_),(i64 p2.to)])] (.agg [(i64 r.from_),(i64 r.to)]):=by
 refine B8 (fk Tryz.func142 Tryz.ntmps142 m0 (by with_unfolding_all rfl)) (nl rfl) ?_
 unfold A18 at h
 refine B5 (s0:=⟨T [(0,(.d _)),(1,(.d _))],G []⟩) (sbr rfl rfl) ?_
 refine lr (fun u1 hu1=>sn rfl rfl (sn rfl rfl (sn rfl rfl (A1 (lr (fun u2 hu2=>sp rfl rfl (sl rfl (gq rfl) rfl (sp rfl rfl (sl rfl (gq rfl) rfl (sv rfl (sp rfl rfl (sl rfl (gq rfl) rfl (sp rfl rfl (sl rfl (gq rfl) rfl (sv rfl (sv rfl (sst rfl G_hit [(di (mm2 true p1.from_ p2.from_)),(di (mm2 false p1.to p2.to))] rfl (A1 (B4 ?_)))))))))))))))))))
 cases h
 exact A8 (.inr rfl) (B7 (G1 rfl G_hit (nl rfl) rfl) E5) (.refl _)
noncomputable def Y3 (p1:WorldSpan):Option Bool:=
  some (decide (p1.from_>p1.to))
theorem A59 (p1:WorldSpan)(r:Bool)(h:Y3 p1=some r):PCall Tryz.prog 144 [(.agg [(i64 p1.from_),(i64 p1.to)])] (bo r):=by
 refine B8 (fk Tryz.func144 Tryz.ntmps144 m0 (by with_unfolding_all rfl)) (nl rfl) ?_
 unfold Y3 at h
 refine B5 (s0:=⟨T [(0,(.d _))],G []⟩) (sbr rfl rfl) ?_
 refine lr (fun u1 hu1=>sn rfl rfl (sv rfl (A1 (lr (fun u2 hu2=>sp rfl rfl (sl rfl G_hit rfl (sp rfl rfl (sl rfl G_hit rfl (sv rfl (sv rfl (A1 (B4 ?_))))))))))))
 cases h
 exact A8 (.inr rfl) (B7 (B6 rfl) E5) (.refl _)
noncomputable def A66 (p1:Map)(p2:Agent)(v2:(List Int))(x1:((List Span)×Int)):Option (Stp ((List Span)×Int) (List Span)):=
  cond (decide (x1.2< (v2.length:Int))) ((D0 v2 x1.2).bind fun v3=>(D0 p2.Route x1.2).bind fun v4=>(A2j p2).bind fun v5=>(W9 v5 v3).bind fun v6=>(A21 p1 v4).bind fun v7=>(A18 v6 (WorldSpan.mk 0 v7)).bind fun v8=>(Y3 v8).bind fun v9=>cond (!v9) ((A83 x1.1 [(Span.mk v4 v8.from_ v8.to)]).bind fun v10=>some (.go (v10,(w64 (x1.2+1))))) (some (.go (x1.1,(w64 (x1.2+1)))))) (some (.out x1.1))
noncomputable def A3z (p1:Map)(p2:Agent):Option (List Span):=
  (A71 p2).bind fun v1=>cond (!v1) (some []) ((A3a p1 p2.Route).bind fun v2=>(loop (A66 p1 p2 v2) ([],0)).bind fun y1=>some y1)
theorem A67 (p1:Map)(p2:Agent)(r:(List Span))(h:A3z p1 p2=some r):PCall Tryz.prog 67 [(.agg (A5o p1)),(.agg (C4 p2))] (.list (List.map R8 r)):=by
 refine B8 (fk Tryz.func67 Tryz.ntmps67 (fun r=>if r==10 then [1007]else []) (by with_unfolding_all rfl)) (nl rfl) ?_
 unfold A3z at h
 refine B5 (s0:=⟨T [(0,(.d _)),(1,(.d _))],G []⟩) (sbr rfl rfl) ?_
 refine lr (fun u1 hu1=>sn rfl rfl (sn rfl rfl (sv rfl (A1 (A7 (lr (fun u2 hu2=>sd rfl (A6 rfl G_hit rfl rfl) (bs h fun v1 hv1 h=>B2 rfl rfl A2 (B2e _ _ hv1) (.inl rfl) (C0 (.d (bo (!v1))) rfl rfl (A1 (cc rfl h (fun c1 h=> ?_) (fun c1 h=> ?_))))))))))))
 refine lr (fun u3 hu3=>sv rfl (A1 (B4 ?_)))
 cases h
 exact A8 (.inr rfl) (B7 (B6 rfl) E5) DLe.nil
 refine B1 (lr (fun u4 hu4=>sv rfl (A1 (A7 (lr (fun u5 hu5=>sd rfl (A6 rfl (gq rfl) rfl rfl) (sp rfl rfl (sl rfl G_hit rfl (bs h fun v2 hv2 h=>B2 rfl rfl A2 (A9f _ _ _ hv2) (.inl rfl) (sd rfl (J6 rfl) (sv rfl (A1 (bs h fun y1 hy1 h=>E7 (fun s=> ∃g1:Nat,Sb ⟨T [(5,(oS y1 (48,g1)))],G [((48,g1),oB 93 3 R8 y1)]⟩ s) ?_ ?_)))))))))))))
 refine A9 (G5 (A66 p1 p2 v2) (fun (x1:((List Span)×Int)) (g2:Nat)=>⟨T [(2,(.ptr (2,u1) 0)),(3,(.ptr (3,u1) 0)),(5,(oS x1.1 (48,g2))),(16,(dl A5 v2)),(17,(di (v2.length:Int))),(18,(di x1.2))],G [((2,u1),some (.box 33 (A02 p1))),((3,u1),some (.box 45 (Y0 p2))),((48,g2),oB 93 3 R8 x1.1)]⟩) ([],0) 0 _ hy1 (G2 ⟨.of rfl, .of rfl, .of rfl, .of rfl, .of rfl, .of rfl,trivial⟩ (sg rfl (B0 G_hit (.of rfl) (A2n trivial)))) ?_)
 intro x1 g2 z1 hz1 ez1
 unfold A66 at hz1
 refine lr (fun u6 hu6=>sv rfl (A1 (A7 (cc rfl hz1 (fun c2 hz1=> ?_) (fun c2 hz1=> ?_)))))
 refine B1 (A7 (A9 (lr (fun u7 hu7=>sv rfl (bs hz1 fun v3 hv3 hz1=>sd rfl (F9 rfl rfl hv3 rfl) (sd rfl (F4 rfl hv3 rfl) (sv rfl (sv rfl (A1 (lr (fun u8 hu8=>sp rfl rfl (sl rfl (gq rfl) rfl (sv rfl (bs hz1 fun v4 hv4 hz1=>sd rfl (F9 rfl rfl hv4 rfl) (sd rfl (F4 rfl hv4 rfl) (sv rfl (A1 (A7 (I0 rfl fun u9 hu9=>sd rfl (A6 rfl (gq rfl) rfl rfl) (bs hz1 fun v5 hv5 hz1=>B2 rfl rfl A2 (A3y _ _ hv5) (.inl rfl) (sv rfl (bs hz1 fun v6 hv6 hz1=>B2 rfl rfl A2 (A2x _ _ _ hv6) (.inl rfl) (sd rfl (A6 rfl G_hit rfl rfl) (sv rfl (bs hz1 fun v7 hv7 hz1=>B2 rfl rfl A2 (A65 _ _ _ hv7) (.inl rfl) (sv rfl (bs hz1 fun v8 hv8 hz1=>B2 rfl rfl A2 (A72 _ _ _ hv8) (.inl rfl) (sn rfl rfl (sst rfl G_hit [(di v8.from_),(di v8.to)] rfl (A1 (lr (fun u10 hu10=>sd rfl (A6 rfl G_hit rfl rfl) (bs hz1 fun v9 hv9 hz1=>B2 rfl rfl A2 (A59 _ _ hv9) (.inl rfl) (C0 (.d (bo (!v9))) rfl rfl (A1 (cc rfl hz1 (fun c3 hz1=> ?_) (fun c3 hz1=> ?_)))))))))))))))))))))))))))))))))))))
 refine C7 fun u11 hu11=>C0 (oS x1.1 (48,g2)) rfl rfl (sv rfl (sp rfl rfl (sl rfl G_hit rfl (sp rfl rfl (sl rfl G_hit rfl (sv rfl (C0 (dl R8 [(Span.mk v4 v8.from_ v8.to)]) rfl rfl (bs hz1 fun v10 hv10 hz1=>U6 R8 (48,g2) x1.1 (Span.mk v4 v8.from_ v8.to) [] _ (Q5 (fun _=>rfl)) rfl (gq rfl) hv10 (ss rfl (A1 (J3 (C7 fun u12 hu12=>sv rfl (sv rfl (A1 (I3 ?_)))))))))))))))
 cases hz1
 exact ⟨rfl,u11,(G2 ⟨.of rfl, .of rfl,(.of (A6z (A00 hv10)).symm), .of rfl, .of rfl, .of rfl,trivial⟩ (sg rfl (sg rfl (A16 G_hit trivial))))⟩
 refine B1 (J3 (C7 fun u13 hu13=>sv rfl (sv rfl (A1 (I3 ?_)))))
 cases hz1
 exact ⟨rfl,g2,(G2 ⟨.of rfl, .of rfl, .of rfl, .of rfl, .of rfl, .of rfl,trivial⟩ (sg rfl (sg rfl (B3 (gq rfl) trivial))))⟩
 refine C5 rfl ?_
 cases hz1
 obtain rfl:=ez1 _ rfl
 refine ⟨nofun,C2 rfl (l_j ?_)⟩
 exact ⟨g2,(G2 ⟨.of rfl,trivial⟩ (B3 (gq rfl) trivial))⟩
 rintro _ ⟨g1,q1⟩
 refine B5 q1 (lr (fun u14 hu14=>C0 (oS y1 (48,g1)) rfl rfl (C0 (oS y1 (48,g1)) rfl rfl (A1 (B4 ?_)))))
 cases h
 exact A8 (.inr rfl) (B7 (B6 rfl) (A3u G_hit)) A3t
noncomputable def A2e (p1:(List Span))(p2:(List Span))(x1:Int):Option (Stp Int (Sum Unit Bool)):=
  cond ((decide (x1< (p1.length:Int)))&& (decide (x1< (p2.length:Int)))) ((D0 p1 x1).bind fun v1=>(D0 p2 x1).bind fun v2=>cond (!(v1.Lane_==v2.Lane_&& (v1.From==v2.From&& (v1.To==v2.To&&true)))) (some (.out (.inr false))) (some (.go (w64 (x1+1))))) (some (.out (.inl ())))
noncomputable def A68 (p1:(List Span))(p2:(List Span)):Option Bool:=
  thenS (loop (A2e p1 p2) 0) (fun _=>some ((p1.length:Int)==(p2.length:Int))) (fun r=>some r)
theorem B7b (p1:(List Span))(p2:(List Span))(r:Bool)(h:A68 p1 p2=some r):PCall Tryz.prog 58 [(.list (List.map R8 p1)),(.list (List.map R8 p2))] (bo r):=by
 refine B8 (fk Tryz.func58 Tryz.ntmps58 m0 (by with_unfolding_all rfl)) (nl rfl) ?_
 unfold A68 at h
 refine B5 (s0:=⟨T [(0,(.d _)),(1,(.d _))],G []⟩) (sbr rfl rfl) ?_
 refine lr (fun u1 hu1=>sv rfl (A1 (A7 (lr (fun u2 hu2=>sv rfl (A1 (js h fun z1 hz1 h=>E7 (fun s=> ∃(y1:Unit) (g1:Unit),z1= .inl y1∧Sb ⟨T [(0,(dl R8 p1)),(1,(dl R8 p2))],G []⟩ s) ?_ ?_)))))))
 refine A9 (G5 (A2e p1 p2) (fun (x1:Int) (g2:Unit)=>⟨T [(0,(dl R8 p1)),(1,(dl R8 p2)),(5,(di x1))],G []⟩) 0 () _ hz1 (sbr rfl rfl) ?_)
 intro x1 g2 z2 hz2 ez2
 unfold A2e at hz2
 refine A7 (lr (fun u3 hu3=>sv rfl (sv rfl (sd rfl (J6 rfl) (sv rfl (sv rfl (gt rfl (fun _=>rfl) (gt rfl (fun _=>rfl) (gt rfl (fun w3=>(J6 (A4 w3))) (gt rfl (fun w4=>(X7 (A4 w4) (A4 w4) rfl)) (sa rfl rfl rfl (A1 (cc rfl hz2 (fun c1 hz2=> ?_) (fun c1 hz2=> ?_))))))))))))))
 refine B1 (A7 (A9 (A7 (I0 rfl fun u4 hu4=>sv rfl (sv rfl (bs hz2 fun v1 hv1 hz2=>sd rfl (F9 rfl rfl hv1 rfl) (sd rfl (C6 rfl hv1 rfl rfl) (sv rfl (sv rfl (bs hz2 fun v2 hv2 hz2=>sd rfl (F9 rfl rfl hv2 rfl) (sd rfl (C6 rfl hv2 rfl rfl) (C0 (.d (bo (!(v1.Lane_==v2.Lane_&& (v1.From==v2.From&& (v1.To==v2.To&&true)))))) rfl rfl (A1 (cc rfl hz2 (fun c2 hz2=> ?_) (fun c2 hz2=> ?_)))))))))))))))
 refine lr (fun u5 hu5=>sv rfl (A1 (B4 ?_)))
 cases hz2
 obtain rfl:=ez2 _ rfl
 refine ⟨nofun,G0 ?_⟩
 rw [Sum.elim_inr]at h
 cases h
 exact A8 (.inr rfl) (B7 (B6 rfl) E5) (.refl _)
 refine B1 (J3 (C7 fun u6 hu6=>sv rfl (sv rfl (sv rfl (A1 (I3 ?_))))))
 cases hz2
 exact ⟨rfl,(),(sbr rfl rfl)⟩
 refine C5 rfl ?_
 cases hz2
 obtain rfl:=ez2 _ rfl
 refine ⟨nofun,C2 rfl (l_j ?_)⟩
 exact ⟨_,(),rfl,(sbr rfl rfl)⟩
 rintro _ ⟨y1,g1,rfl,q1⟩
 rw [Sum.elim_inl]at h
 refine B5 q1 (lr (fun u7 hu7=>sv rfl (sd rfl (J6 rfl) (sv rfl (sd rfl (J6 rfl) (sv rfl (sv rfl (A1 (B4 ?_)))))))))
 cases h
 exact A8 (.inr rfl) (B7 (B6 rfl) E5) (.refl _)
noncomputable def Z0 (p1:Span)(p2:Span):Option Bool:=
  ((cond (p2.Lane_==p1.Lane_) (A18 (WorldSpan.mk p2.From p2.To) (WorldSpan.mk p1.From p1.To)) (some default))).bind fun v1=>((cond (p2.Lane_==p1.Lane_) (Y3 v1) (some default))).bind fun v2=>some ((p2.Lane_==p1.Lane_)&& (!v2))
theorem B2g (p1:Span)(p2:Span)(r:Bool)(h:Z0 p1 p2=some r):PCall Tryz.prog 147 [(.agg (R8 p1)),(.bp (R8 p2) 0)] (bo r):=by
 refine B8 (fk Tryz.func147 Tryz.ntmps147 m0 (by with_unfolding_all rfl)) (nl rfl) ?_
 unfold Z0 at h
 refine B5 (s0:=⟨T [(0,(.d _)),(1,(.d _))],G []⟩) (sbr rfl rfl) ?_
 refine lr (fun u1 hu1=>sn rfl rfl (sv rfl (A1 (lr (fun u2 hu2=>sv rfl (sv rfl (sp rfl rfl (sl rfl G_hit rfl (sv rfl (sv rfl (gt rfl (fun _=>rfl) ?_)))))))))))
 refine gt rfl (fun w2=>(by simp only [A4 w2];rfl)) ?_
 refine gt rfl (fun _=>rfl) ?_
 refine gt rfl (fun w4=>(by simp only [A4 w4];rfl)) ?_
 refine gt rfl (fun w5=>(by simp only [A4 w5];rfl)) ?_
 refine gp rfl (V5 rfl) (fun _=>rfl) (gt rfl (vl rfl G_hit rfl) (gp rfl (V5 rfl) (fun _=>rfl) (gt rfl (vl rfl G_hit rfl) ?_)))
 refine gt rfl (fun w10=>(by simp only [A4 w10];rfl)) ?_
 refine bs h fun v1 hv1 h=> ?_
 refine O5 _ (.agg [(i64 v1.from_),(i64 v1.to)]) (V5 rfl) (fun w11=>⟨_,[(.d (.agg [(i64 p2.From),(i64 p2.To)])),(.d (.agg [(i64 p1.From),(i64 p1.To)]))],_,_,(by simp only [A4 w11];rfl),rfl,A2,A72 _ _ _ (B9 w11 hv1),(.inl rfl)⟩) ?_
 refine bs h fun v2 hv2 h=> ?_
 refine O5 _ (bo v2) (V5 rfl) (fun w12=>⟨_,[(.d (.agg [(i64 v1.from_),(i64 v1.to)]))],_,_,(by simp only [A4 w12];rfl),rfl,A2,A59 _ _ (B9 w12 hv2),(.inl rfl)⟩) ?_
 refine U0 _ (.d (bo (!v2))) rfl (V5 rfl) (fun w13=>(by simp only [A4 w13];rfl)) ?_
 refine sa rfl rfl rfl (sv rfl (A1 (B4 ?_)))
 cases h
 exact A8 (.inr rfl) (B7 (B6 rfl) E5) (.refl _)
noncomputable def E8 (p1:(List Span))(p2:Span)(x1:Int):Option (Stp Int (Sum Unit Int)):=
  cond (decide (x1< (p1.length:Int))) ((D0 p1 x1).bind fun v1=>(Z0 v1 p2).bind fun v2=>cond v2 (some (.out (.inr x1))) (some (.go (w64 (x1+1))))) (some (.out (.inl ())))
noncomputable def G3 (p1:(List Span))(p2:Span):Option Int:=
  thenS (loop (E8 p1 p2) 0) (fun _=>some (-1)) (fun r=>some r)
theorem A0j (p1:(List Span))(p2:Span)(r:Int)(h:G3 p1 p2=some r):PCall Tryz.prog 208 [(.list (List.map R8 p1)),(.fn (.func 147) [] [(.bp (R8 p2) 0)])] (i64 r):=by
 refine B8 (fk Tryz.func208 Tryz.ntmps208 m0 (by with_unfolding_all rfl)) (nl rfl) ?_
 unfold G3 at h
 refine B5 (s0:=⟨T [(0,(.d _)),(1,(.d _))],G []⟩) (sbr rfl rfl) ?_
 refine lr (fun u1 hu1=>sv rfl (A1 (A7 (lr (fun u2 hu2=>sv rfl (sd rfl (J6 rfl) (sv rfl (A1 (js h fun z1 hz1 h=>E7 (fun s=> ∃(y1:Unit) (g1:Unit),z1= .inl y1∧Sb ⟨T [],G []⟩ s) ?_ ?_)))))))))
 refine A9 (G5 (E8 p1 p2) (fun (x1:Int) (g2:Unit)=>⟨T [(0,(dl R8 p1)),(1,(.d (.fn (.func 147) [] [(.bp (R8 p2) 0)]))),(7,(di (p1.length:Int))),(8,(di x1))],G []⟩) 0 () _ hz1 (sbr rfl rfl) ?_)
 intro x1 g2 z2 hz2 ez2
 unfold E8 at hz2
 refine lr (fun u3 hu3=>sv rfl (A1 (A7 (cc rfl hz2 (fun c1 hz2=> ?_) (fun c1 hz2=> ?_)))))
 refine B1 (A7 (A9 (lr (fun u4 hu4=>sv rfl (sv rfl (A1 (lr (fun u5 hu5=>sv rfl (sv rfl (sv rfl (bs hz2 fun v1 hv1 hz2=>sd rfl (F9 rfl rfl hv1 rfl) (sd rfl (C6 rfl hv1 rfl rfl) (bs hz2 fun v2 hv2 hz2=>B2 rfl rfl A2 (B2g _ _ _ hv2) (.inl rfl) (A1 (cc rfl hz2 (fun c2 hz2=> ?_) (fun c2 hz2=> ?_))))))))))))))))
 refine lr (fun u6 hu6=>sv rfl (sv rfl (A1 (B4 ?_))))
 cases hz2
 obtain rfl:=ez2 _ rfl
 refine ⟨nofun,G0 ?_⟩
 rw [Sum.elim_inr]at h
 cases h
 exact A8 (.inr rfl) (B7 (B6 rfl) E5) (.refl _)
 refine B1 (J3 (C7 fun u7 hu7=>sv rfl (sv rfl (A1 (I3 ?_)))))
 cases hz2
 exact ⟨rfl,(),(sbr rfl rfl)⟩
 refine C5 rfl ?_
 cases hz2
 obtain rfl:=ez2 _ rfl
 refine ⟨nofun,C2 rfl (l_j ?_)⟩
 exact ⟨_,(),rfl,(sbr rfl rfl)⟩
 rintro _ ⟨y1,g1,rfl,q1⟩
 rw [Sum.elim_inl]at h
 refine B5 q1 (lr (fun u8 hu8=>sv rfl (A1 (B4 ?_))))
 cases h
 exact A8 (.inr rfl) (B7 (B6 rfl) E5) (.refl _)
noncomputable def E9 (p1:(List Span))(p2:Span):Option Bool:=
  (G3 p1 p2).bind fun v1=>some (decide (v1≥0))
theorem Z4 (p1:(List Span))(p2:Span)(r:Bool)(h:E9 p1 p2=some r):PCall Tryz.prog 145 [(.list (List.map R8 p1)),(.fn (.func 147) [] [(.bp (R8 p2) 0)])] (bo r):=by
 refine B8 (fk Tryz.func145 Tryz.ntmps145 m0 (by with_unfolding_all rfl)) (nl rfl) ?_
 unfold E9 at h
 refine B5 (s0:=⟨T [(0,(.d _)),(1,(.d _))],G []⟩) (sbr rfl rfl) ?_
 refine lr (fun u1 hu1=>sv rfl (A1 (lr (fun u2 hu2=>sv rfl (sv rfl (bs h fun v1 hv1 h=>B2 rfl rfl A2 (A0j _ _ _ hv1) (.inl rfl) (sv rfl (sv rfl (A1 (B4 ?_))))))))))
 cases h
 exact A8 (.inr rfl) (B7 (B6 rfl) E5) (.refl _)
noncomputable def A0x (p1:Span)(p2:(List Span)):Option Bool:=
  (E9 p2 p1).bind fun v1=>some v1
theorem B3n (p1:Span)(p2:(List Span))(r:Bool)(h:A0x p1 p2=some r):PCall Tryz.prog 146 [(.agg (R8 p1)),(.bp [(.list (List.map R8 p2))] 0)] (bo r):=by
 refine B8 (fk Tryz.func146 Tryz.ntmps146 m0 (by with_unfolding_all rfl)) (nl rfl) ?_
 unfold A0x at h
 refine B5 (s0:=⟨T [(0,(.d _)),(1,(.d _))],G []⟩) (sbr rfl rfl) ?_
 refine lr (fun u1 hu1=>sn rfl rfl (sv rfl (A1 (lr (fun u2 hu2=>sv rfl (C0 (.fn _ _ _) rfl rfl (bs h fun v1 hv1 h=>B2 rfl (rD (C3 (B91 D2 (C3 (A1e G_hit (rD (rD (rD D2)))) D2)) D2)) A2 (Z4 _ _ _ hv1) (.inr rfl) (sv rfl (A1 (B4 ?_))))))))))
 cases h
 exact A8 (.inr rfl) (B7 (B6 rfl) E5) (.refl _)
noncomputable def F5 (p1:(List Span))(p2:(List Span))(x1:Int):Option (Stp Int (Sum Unit Int)):=
  cond (decide (x1< (p1.length:Int))) ((D0 p1 x1).bind fun v1=>(A0x v1 p2).bind fun v2=>cond v2 (some (.out (.inr x1))) (some (.go (w64 (x1+1))))) (some (.out (.inl ())))
noncomputable def H6 (p1:(List Span))(p2:(List Span)):Option Int:=
  thenS (loop (F5 p1 p2) 0) (fun _=>some (-1)) (fun r=>some r)
theorem A19 (p1:(List Span))(p2:(List Span))(r:Int)(h:H6 p1 p2=some r):PCall Tryz.prog 208 [(.list (List.map R8 p1)),(.fn (.func 146) [] [(.bp [(.list (List.map R8 p2))] 0)])] (i64 r):=by
 refine B8 (fk Tryz.func208 Tryz.ntmps208 m0 (by with_unfolding_all rfl)) (nl rfl) ?_
 unfold H6 at h
 refine B5 (s0:=⟨T [(0,(.d _)),(1,(.d _))],G []⟩) (sbr rfl rfl) ?_
 refine lr (fun u1 hu1=>sv rfl (A1 (A7 (lr (fun u2 hu2=>sv rfl (sd rfl (J6 rfl) (sv rfl (A1 (js h fun z1 hz1 h=>E7 (fun s=> ∃(y1:Unit) (g1:Unit),z1= .inl y1∧Sb ⟨T [],G []⟩ s) ?_ ?_)))))))))
 refine A9 (G5 (F5 p1 p2) (fun (x1:Int) (g2:Unit)=>⟨T [(0,(dl R8 p1)),(1,(.d (.fn (.func 146) [] [(.bp [(.list (List.map R8 p2))] 0)]))),(7,(di (p1.length:Int))),(8,(di x1))],G []⟩) 0 () _ hz1 (sbr rfl rfl) ?_)
 intro x1 g2 z2 hz2 ez2
 unfold F5 at hz2
 refine lr (fun u3 hu3=>sv rfl (A1 (A7 (cc rfl hz2 (fun c1 hz2=> ?_) (fun c1 hz2=> ?_)))))
 refine B1 (A7 (A9 (lr (fun u4 hu4=>sv rfl (sv rfl (A1 (lr (fun u5 hu5=>sv rfl (sv rfl (sv rfl (bs hz2 fun v1 hv1 hz2=>sd rfl (F9 rfl rfl hv1 rfl) (sd rfl (C6 rfl hv1 rfl rfl) (bs hz2 fun v2 hv2 hz2=>B2 rfl rfl A2 (B3n _ _ _ hv2) (.inl rfl) (A1 (cc rfl hz2 (fun c2 hz2=> ?_) (fun c2 hz2=> ?_))))))))))))))))
 refine lr (fun u6 hu6=>sv rfl (sv rfl (A1 (B4 ?_))))
 cases hz2
 obtain rfl:=ez2 _ rfl
 refine ⟨nofun,G0 ?_⟩
 rw [Sum.elim_inr]at h
 cases h
 exact A8 (.inr rfl) (B7 (B6 rfl) E5) (.refl _)
 refine B1 (J3 (C7 fun u7 hu7=>sv rfl (sv rfl (A1 (I3 ?_)))))
 cases hz2
 exact ⟨rfl,(),(sbr rfl rfl)⟩
 refine C5 rfl ?_
 cases hz2
 obtain rfl:=ez2 _ rfl
 refine ⟨nofun,C2 rfl (l_j ?_)⟩
 exact ⟨_,(),rfl,(sbr rfl rfl)⟩
 rintro _ ⟨y1,g1,rfl,q1⟩
 rw [Sum.elim_inl]at h
 refine B5 q1 (lr (fun u8 hu8=>sv rfl (A1 (B4 ?_))))
 cases h
 exact A8 (.inr rfl) (B7 (B6 rfl) E5) (.refl _)
noncomputable def F6 (p1:(List Span))(p2:(List Span)):Option Bool:=
  (H6 p1 p2).bind fun v1=>some (decide (v1≥0))
theorem A0e (p1:(List Span))(p2:(List Span))(r:Bool)(h:F6 p1 p2=some r):PCall Tryz.prog 145 [(.list (List.map R8 p1)),(.fn (.func 146) [] [(.bp [(.list (List.map R8 p2))] 0)])] (bo r):=by
 refine B8 (fk Tryz.func145 Tryz.ntmps145 m0 (by with_unfolding_all rfl)) (nl rfl) ?_
 unfold F6 at h
 refine B5 (s0:=⟨T [(0,(.d _)),(1,(.d _))],G []⟩) (sbr rfl rfl) ?_
 refine lr (fun u1 hu1=>sv rfl (A1 (lr (fun u2 hu2=>sv rfl (sv rfl (bs h fun v1 hv1 h=>B2 rfl rfl A2 (A19 _ _ _ hv1) (.inl rfl) (sv rfl (sv rfl (A1 (B4 ?_))))))))))
 cases h
 exact A8 (.inr rfl) (B7 (B6 rfl) E5) (.refl _)
noncomputable def A2k (p1:Map)(p2:Agent)(p3:Agent):Option Bool:=
  (A3z p1 p3).bind fun v1=>(A3z p1 p2).bind fun v2=>(F6 v2 v1).bind fun v3=>some v3
theorem B1s (p1:Map)(p2:Agent)(p3:Agent)(r:Bool)(h:A2k p1 p2 p3=some r):PCall Tryz.prog 68 [(.agg (A5o p1)),(.agg (C4 p2)),(.agg (C4 p3))] (bo r):=by
 refine B8 (fk Tryz.func68 Tryz.ntmps68 m0 (by with_unfolding_all rfl)) (nl rfl) ?_
 unfold A2k at h
 refine B5 (s0:=⟨T [(0,(.d _)),(1,(.d _)),(2,(.d _))],G []⟩) (sbr rfl rfl) ?_
 refine lr (fun u1 hu1=>sn rfl rfl (sn rfl rfl (sn rfl rfl (sv rfl (A1 (lr (fun u2 hu2=>sd rfl (A6 rfl (gq rfl) rfl rfl) (sd rfl (A6 rfl G_hit rfl rfl) (bs h fun v1 hv1 h=>B2 rfl rfl A2 (A67 _ _ _ hv1) (.inl rfl) (sn rfl rfl (sst rfl G_hit [(dl R8 v1)] rfl (A1 (lr (fun u3 hu3=>sd rfl (A6 rfl (gq rfl) rfl rfl) (sd rfl (A6 rfl (gq rfl) rfl rfl) (bs h fun v2 hv2 h=>B2 rfl rfl A2 (A67 _ _ _ hv2) (.inl rfl) (C0 (.fn _ _ _) rfl rfl (bs h fun v3 hv3 h=>B2 rfl (rD (C3 (B91 D2 (C3 (A1e G_hit (rD D2)) D2)) D2)) A2 (A0e _ _ _ hv3) (.inr rfl) (sv rfl (A1 (B4 ?_)))))))))))))))))))))
 cases h
 exact A8 (.inr rfl) (B7 (B6 rfl) E5) (.refl _)
noncomputable def S9 (p1:List Stay):Option (List Stay):=A83 [] p1
theorem A3b (p1:List Stay)(a0:D)(hl:A83 ([]:List Stay) p1=some p1)(hn: ∀h,S8 (T [(3, .d a0),(2, .d .nilS),(0, .d a0)]) h (.isnil false (.t 3))=some (.d (bo false)))(he: ∀h,A0g h 4 (.d a0)=some (List.map M2 p1)):
    PCall Tryz.prog 121 [a0] (.list (List.map M2 p1)):=by
  refine B8 (fk Tryz.func121 Tryz.ntmps121 m0 (by with_unfolding_all rfl)) (Nat.le_of_ble_eq_true rfl) ?_
  refine (B5 (s0:=⟨T [(0, .d a0)],G []⟩) (G2 ⟨.of rfl,trivial⟩ trivial) ?_)
  refine A7 ?_
  refine C7 fun u1 hu1=> ?_
  refine C0 (.d .nilS) rfl rfl ?_
  refine A1 ?_
  refine A7 ?_
  refine A7 ?_
  refine C7 fun u2 hu2=> ?_
  refine C0 (.d a0) rfl rfl ?_
  refine C0 (.d (bo false)) rfl (hn _) ?_
  refine A1 ?_
  refine B27 rfl ?_
  refine B1 ?_
  refine A7 ?_
  refine C7 fun u3 hu3=> ?_
  refine C7w (.sl _) (.arr 127 4 (List.map M2 ([]:List Stay))) rfl rfl ?_
  refine C0 (.d a0) rfl rfl ?_
  refine B64 M2 _ [] p1 _ (he _) rfl G_hit hl ?_
  refine C0 (.sl _) rfl rfl ?_
  refine A1 ?_
  refine B4 ?_
  exact A8 (.inr rfl) (B7 (B6 rfl) (C5w G_hit)) (.refl _)
theorem A4n (p1:List Stay)(r:List Stay)(h:S9 p1=some r):PCall Tryz.prog 121 [.list (List.map M2 p1)] (.list (List.map M2 r)):=by
  have hr:r=p1:=by obtain ⟨_,rfl⟩:=A7m h;rfl
  subst hr
  cases r with
  |cons x xs=>exact A3b (x::xs) _ h (fun _=>rfl) fun _=>Q5 (fun _=>rfl)
  |nil=>
   refine PCall.nil fun A cap=> ?_
   cases A with
   |some A=>exact A3b [] (.v (.slice (some A) 0 cap)) h (fun _=>rfl) fun _=>rfl
   |none=>
    refine B8 (fk Tryz.func121 Tryz.ntmps121 m0 (by with_unfolding_all rfl)) (Nat.le_of_ble_eq_true rfl) ?_
    refine (B5 (s0:=⟨T [(0, .d (.v (.slice none 0 cap)))],G []⟩) (G2 ⟨.of rfl,trivial⟩ trivial) ?_)
    refine A7 ?_
    refine C7 fun u1 hu1=> ?_
    refine C0 (.d .nilS) rfl rfl ?_
    refine A1 ?_
    refine A7 ?_
    refine A7 ?_
    refine C7 fun u2 hu2=> ?_
    refine C0 (.d _) rfl rfl ?_
    refine C0 (.d (bo true)) rfl rfl ?_
    refine A1 ?_
    refine B3i rfl ?_
    refine A7 ?_
    refine C7 fun u3 hu3=> ?_
    refine C0 (.d .nilS) rfl rfl ?_
    refine A1 ?_
    refine B4 ?_
    exact A8 (.inr rfl) (B7 (B6 rfl) E5) .nil
noncomputable def A1g (p1:List Int):Option (List Int):=A83 [] p1
theorem A4o (p1:List Int)(a0:D)(hl:A83 ([]:List Int) p1=some p1)(hn: ∀h,S8 (T [(3, .d a0),(2, .d .nilS),(0, .d a0)]) h (.isnil false (.t 3))=some (.d (bo false)))(he: ∀h,A0g h 1 (.d a0)=some (List.map A5 p1)):
    PCall Tryz.prog 178 [a0] (.list (List.map A5 p1)):=by
  refine B8 (fk Tryz.func178 Tryz.ntmps178 m0 (by with_unfolding_all rfl)) (Nat.le_of_ble_eq_true rfl) ?_
  refine (B5 (s0:=⟨T [(0, .d a0)],G []⟩) (G2 ⟨.of rfl,trivial⟩ trivial) ?_)
  refine A7 ?_
  refine C7 fun u1 hu1=> ?_
  refine C0 (.d .nilS) rfl rfl ?_
  refine A1 ?_
  refine A7 ?_
  refine A7 ?_
  refine C7 fun u2 hu2=> ?_
  refine C0 (.d a0) rfl rfl ?_
  refine C0 (.d (bo false)) rfl (hn _) ?_
  refine A1 ?_
  refine B27 rfl ?_
  refine B1 ?_
  refine A7 ?_
  refine C7 fun u3 hu3=> ?_
  refine C7w (.sl _) (.arr 3 1 (List.map A5 ([]:List Int))) rfl rfl ?_
  refine C0 (.d a0) rfl rfl ?_
  refine B64 A5 _ [] p1 _ (he _) rfl G_hit hl ?_
  refine C0 (.sl _) rfl rfl ?_
  refine A1 ?_
  refine B4 ?_
  exact A8 (.inr rfl) (B7 (B6 rfl) (C5w G_hit)) (.refl _)
theorem B2h (p1:List Int)(r:List Int)(h:A1g p1=some r):PCall Tryz.prog 178 [.list (List.map A5 p1)] (.list (List.map A5 r)):=by
  have hr:r=p1:=by obtain ⟨_,rfl⟩:=A7m h;rfl
  subst hr
  cases r with
  |cons x xs=>exact A4o (x::xs) _ h (fun _=>rfl) fun _=>Q5 (fun _=>rfl)
  |nil=>
   refine PCall.nil fun A cap=> ?_
   cases A with
   |some A=>exact A4o [] (.v (.slice (some A) 0 cap)) h (fun _=>rfl) fun _=>rfl
   |none=>
    refine B8 (fk Tryz.func178 Tryz.ntmps178 m0 (by with_unfolding_all rfl)) (Nat.le_of_ble_eq_true rfl) ?_
    refine (B5 (s0:=⟨T [(0, .d (.v (.slice none 0 cap)))],G []⟩) (G2 ⟨.of rfl,trivial⟩ trivial) ?_)
    refine A7 ?_
    refine C7 fun u1 hu1=> ?_
    refine C0 (.d .nilS) rfl rfl ?_
    refine A1 ?_
    refine A7 ?_
    refine A7 ?_
    refine C7 fun u2 hu2=> ?_
    refine C0 (.d _) rfl rfl ?_
    refine C0 (.d (bo true)) rfl rfl ?_
    refine A1 ?_
    refine B3i rfl ?_
    refine A7 ?_
    refine C7 fun u3 hu3=> ?_
    refine C0 (.d .nilS) rfl rfl ?_
    refine A1 ?_
    refine B4 ?_
    exact A8 (.inr rfl) (B7 (B6 rfl) E5) .nil
noncomputable def A1a (p1:Agent):Option Agent:=
  (A1g p1.Route).bind fun v1=>some (Agent.mk v1 p1.S p1.V p1.Len p1.Begin p1.Obey p1.Gone)
theorem A73 (p1:Agent)(r:Agent)(h:A1a p1=some r):PCall Tryz.prog 87 [(.agg (C4 p1))] (.agg (C4 r)):=by
 refine B8 (fk Tryz.func87 Tryz.ntmps87 m0 (by with_unfolding_all rfl)) (nl rfl) ?_
 unfold A1a at h
 refine B5 (s0:=⟨T [(0,(.d _))],G []⟩) (sbr rfl rfl) ?_
 refine lr (fun u1 hu1=>sn rfl rfl (sn rfl rfl (A1 (lr (fun u2 hu2=>sp rfl rfl (sl rfl (gq rfl) rfl (bs h fun v1 hv1 h=>B2 rfl rfl A2 (B2h _ _ hv1) (.inl rfl) (sp rfl rfl (sst rfl (gq rfl) ((Y0 p1).set 0 (dl A5 v1)) rfl (A1 (lr (fun u3 hu3=>sd rfl (A6 rfl G_hit rfl rfl) (sst rfl (gq rfl) ((Y0 p1).set 0 (dl A5 v1)) rfl (A1 (B4 ?_)))))))))))))))
 cases h
 exact A8 (.inr rfl) (B7 (G1 rfl G_hit (nl rfl) rfl) E5) (.refl _)
noncomputable def A69 (p1:State)(x1:(Int×State)):Option (Stp (Int×State) State):=
  cond (decide (x1.1< (p1.Agents.length:Int))) ((D0 p1.Agents x1.1).bind fun v2=>(A1a v2).bind fun v3=>(A83 x1.2.Agents [v3]).bind fun v4=>some (.go ((w64 (x1.1+1)),(State.mk x1.2.Tick v4 x1.2.In)))) (some (.out x1.2))
noncomputable def A8x (p1:State):Option State:=
  (S9 p1.In).bind fun v1=>(loop (A69 p1) (0,(State.mk p1.Tick [] v1))).bind fun y1=>some y1
theorem B6b (p1:State)(r:State)(h:A8x p1=some r):PCall Tryz.prog 56 [(.agg (A1z p1))] (.agg (A1z r)):=by
 refine B8 (fk Tryz.func56 Tryz.ntmps56 (fun r=>if r==5 then [1004]else []) (by with_unfolding_all rfl)) (nl rfl) ?_
 unfold A8x at h
 refine B5 (s0:=⟨T [(0,(.d _))],G []⟩) (sbr rfl rfl) ?_
 refine lr (fun u1 hu1=>sn rfl rfl (sn rfl rfl (A1 (A7 (I0 rfl fun u2 hu2=>sp rfl rfl (sl rfl (gq rfl) rfl (sp rfl rfl (sl rfl (gq rfl) rfl (bs h fun v1 hv1 h=>B2 rfl rfl A2 (A4n _ _ hv1) (.inl rfl) (sv rfl (sn rfl rfl (sst rfl G_hit [(di p1.Tick),(.d .nilS),(dl M2 v1)] rfl (A1 (A7 (lr (fun u3 hu3=>sp rfl rfl (sl rfl (gq rfl) rfl (sd rfl (J6 rfl) (sv rfl (A1 (bs h fun y1 hy1 h=>E7 (fun s=> ∃g1:Nat,Sb ⟨T [(2,(.ptr (2,u1) 0)),(3,(.ptr (3,u2) 0))],G [((2,u1),some (.box 25 [(di 0),(.d .nilS),(.d .nilS)])),((3,u2),some (.box 25 [(di y1.Tick),(oS y1.Agents (24,g1)),(dl M2 y1.In)])),((24,g1),oB 45 7 C4 y1.Agents)]⟩ s) ?_ ?_)))))))))))))))))))))
 refine A9 (G5 (A69 p1) (fun (x1:(Int×State)) (g2:Nat)=>⟨T [(2,(.ptr (2,u1) 0)),(3,(.ptr (3,u2) 0)),(13,(dl C4 p1.Agents)),(14,(di (p1.Agents.length:Int))),(15,(di x1.1))],G [((2,u1),some (.box 25 [(di 0),(.d .nilS),(.d .nilS)])),((3,u2),some (.box 25 [(di x1.2.Tick),(oS x1.2.Agents (24,g2)),(dl M2 x1.2.In)])),((24,g2),oB 45 7 C4 x1.2.Agents)]⟩) (0,(State.mk p1.Tick [] v1)) 0 _ hy1 (G2 ⟨.of rfl, .of rfl, .of rfl, .of rfl, .of rfl,trivial⟩ (sg rfl (B0 G_hit (.of rfl) (A2n trivial)))) ?_)
 intro x1 g2 z1 hz1 ez1
 unfold A69 at hz1
 refine lr (fun u4 hu4=>sv rfl (A1 (A7 (cc rfl hz1 (fun c1 hz1=> ?_) (fun c1 hz1=> ?_)))))
 refine B1 (A7 (A9 (lr (fun u5 hu5=>bs hz1 fun v2 hv2 hz1=>sd rfl (F9 rfl rfl hv2 rfl) (sd rfl (C6 rfl hv2 rfl rfl) (sn rfl rfl (sst rfl G_hit (Y0 v2) rfl (A1 (I0 rfl fun u6 hu6=>sp rfl rfl (C0 (oS x1.2.Agents (24,g2)) rfl (R7 rfl (gq rfl) rfl) (sd rfl (A6 rfl G_hit rfl rfl) (bs hz1 fun v3 hv3 hz1=>B2 rfl rfl A2 (A73 _ _ hv3) (.inl rfl) (C0 (dl C4 [v3]) rfl rfl (bs hz1 fun v4 hv4 hz1=>U6 C4 (24,g2) x1.2.Agents v3 [] _ (Q5 (fun _=>rfl)) rfl (gq rfl) hv4 (sp rfl rfl (sst rfl (gq rfl) [(di x1.2.Tick),(.sl (24,u6)),(dl M2 x1.2.In)] rfl (A1 (J3 (C7 fun u7 hu7=>sv rfl (sv rfl (A1 (I3 ?_))))))))))))))))))))))
 cases hz1
 exact ⟨rfl,u6,(G2 ⟨.of rfl, .of rfl, .of rfl, .of rfl, .of rfl,trivial⟩ (sg rfl (B0 G_hit (.box (cv (.cons (.of (A6z (A00 hv4)).symm) cw))) (A16 (gq rfl) trivial))))⟩
 refine C5 rfl ?_
 cases hz1
 obtain rfl:=ez1 _ rfl
 refine ⟨nofun,C2 rfl (l_j ?_)⟩
 exact ⟨g2,(G2 ⟨.of rfl, .of rfl,trivial⟩ (B0 G_hit (.of rfl) (sg rfl (B3 (gq rfl) trivial))))⟩
 rintro _ ⟨g1,q1⟩
 refine B5 q1 (lr (fun u8 hu8=>C0 (A31 [(di y1.Tick),(oS y1.Agents (24,g1)),(dl M2 y1.In)]) rfl (A6 rfl (gq rfl) rfl rfl) (B2a _ _ _ _ _ (A0s _) rfl rfl G_hit (nl rfl) [(di y1.Tick),(oS y1.Agents (24,g1)),(dl M2 y1.In)] rfl (A1 (B4 ?_)))))
 cases h
 exact A8 (.inr rfl) (B7 (G1 rfl G_hit (nl rfl) rfl) (B4g (rD (C3 (A3u (gq rfl)) (rD D2))))) (.agg (ca rfl (.cons ⟨A3t,rfl⟩ (cz rfl))))
noncomputable def V9 (p1:Map)(p2:(List Int)):Option Int:=
  (A0w p1 p2).bind fun v1=>some v1.length
theorem A4b (p1:Map)(p2:(List Int))(r:Int)(h:V9 p1 p2=some r):PCall Tryz.prog 155 [(.agg (A5o p1)),(.list (List.map A5 p2))] (i64 r):=by
 refine B8 (fk Tryz.func155 Tryz.ntmps155 m0 (by with_unfolding_all rfl)) (nl rfl) ?_
 unfold V9 at h
 refine B5 (s0:=⟨T [(0,(.d _)),(1,(.d _))],G []⟩) (sbr rfl rfl) ?_
 refine lr (fun u1 hu1=>sn rfl rfl (sv rfl (A1 (lr (fun u2 hu2=>sd rfl (A6 rfl G_hit rfl rfl) (sv rfl (bs h fun v1 hv1 h=>B2 rfl rfl A2 (A39 _ _ _ hv1) (.inl rfl) (sv rfl (sv rfl (A1 (B4 ?_)))))))))))
 cases h
 exact A8 (.inr rfl) (B7 (B6 rfl) E5) (.refl _)
noncomputable def A6a (p2:Agent)(v1:(List Int))(x1:Int):Option (Stp Int Int):=
  (D0 v1 x1).bind fun v2=>cond (decide (v2>p2.S)) (some (.go (w64 (x1 - 1)))) (some (.out x1))
noncomputable def A8y (p1:Map)(p2:Agent):Option (Int×Int):=
  (A3a p1 p2.Route).bind fun v1=>(loop (A6a p2 v1) (w64 ((v1.length:Int) - 1))).bind fun y1=>(D0 p2.Route y1).bind fun v3=>(D0 v1 y1).bind fun v4=>some (v3,(w64 (p2.S - v4)))
theorem B6c (p1:Map)(p2:Agent)(r:(Int×Int))(h:A8y p1 p2=some r):PCall Tryz.prog 156 [(.agg (A5o p1)),(.agg (C4 p2))] (.tup [(i64 r.1),(i64 r.2)]):=by
 refine B8 (fk Tryz.func156 Tryz.ntmps156 m0 (by with_unfolding_all rfl)) (nl rfl) ?_
 unfold A8y at h
 refine B5 (s0:=⟨T [(0,(.d _)),(1,(.d _))],G []⟩) (sbr rfl rfl) ?_
 refine lr (fun u1 hu1=>sn rfl rfl (sn rfl rfl (sv rfl (sv rfl (A1 (lr (fun u2 hu2=>sd rfl (A6 rfl (gq rfl) rfl rfl) (sp rfl rfl (sl rfl G_hit rfl (bs h fun v1 hv1 h=>B2 rfl rfl A2 (A9f _ _ _ hv1) (.inl rfl) (sv rfl (A1 (lr (fun u3 hu3=>sv rfl (sd rfl (J6 rfl) (sv rfl (sv rfl (A1 (A7 (bs h fun y1 hy1 h=>E7 (fun s=> ∃g1:Unit,Sb ⟨T [(3,(.ptr (3,u1) 0)),(6,(dl A5 v1)),(7,(di y1))],G [((3,u1),some (.box 45 (Y0 p2)))]⟩ s) ?_ ?_))))))))))))))))))))
 refine A9 (G5 (A6a p2 v1) (fun (x1:Int) (g2:Unit)=>⟨T [(3,(.ptr (3,u1) 0)),(6,(dl A5 v1)),(7,(di x1))],G [((3,u1),some (.box 45 (Y0 p2)))]⟩) (w64 ((v1.length:Int) - 1)) () _ hy1 (sbr rfl rfl) ?_)
 intro x1 g2 z1 hz1 ez1
 unfold A6a at hz1
 refine A7 (A7 (I0 rfl fun u4 hu4=>sv rfl (sv rfl (bs hz1 fun v2 hv2 hz1=>sd rfl (F9 rfl rfl hv2 rfl) (sd rfl (F4 rfl hv2 rfl) (sp rfl rfl (sl rfl G_hit rfl (sv rfl (A1 (cc rfl hz1 (fun c1 hz1=> ?_) (fun c1 hz1=> ?_)))))))))))
 refine B1 (A9 (C7 fun u5 hu5=>sv rfl (sv rfl (sv rfl (A1 (J3 (I3 ?_)))))))
 cases hz1
 exact ⟨rfl,(),(sbr rfl rfl)⟩
 refine C5 rfl ?_
 cases hz1
 obtain rfl:=ez1 _ rfl
 refine ⟨nofun,C2 rfl (l_j ?_)⟩
 exact ⟨(),(sbr rfl rfl)⟩
 rintro _ ⟨g1,q1⟩
 refine B5 q1 (A7 (I0 rfl fun u6 hu6=>sp rfl rfl (sl rfl G_hit rfl (sv rfl (bs h fun v3 hv3 h=>sd rfl (F9 rfl rfl hv3 rfl) (sd rfl (F4 rfl hv3 rfl) (sp rfl rfl (sl rfl G_hit rfl (sv rfl (sv rfl (bs h fun v4 hv4 h=>sd rfl (F9 rfl rfl hv4 rfl) (sd rfl (F4 rfl hv4 rfl) (sv rfl (sv rfl (sv rfl (A1 (B4 ?_)))))))))))))))))
 cases h
 exact A8 (.inr rfl) (B4m (B6 rfl) (B6 rfl) E5 E5) (.refl _)
noncomputable def A8z (p1:Map)(p2:Agent):Option Bool:=
  (A2j p2).bind fun v1=>(V9 p1 p2.Route).bind fun v2=>some (decide (v1.from_>v2))
theorem B6d (p1:Map)(p2:Agent)(r:Bool)(h:A8z p1 p2=some r):PCall Tryz.prog 158 [(.agg (A5o p1)),(.agg (C4 p2))] (bo r):=by
 refine B8 (fk Tryz.func158 Tryz.ntmps158 m0 (by with_unfolding_all rfl)) (nl rfl) ?_
 unfold A8z at h
 refine B5 (s0:=⟨T [(0,(.d _)),(1,(.d _))],G []⟩) (sbr rfl rfl) ?_
 refine lr (fun u1 hu1=>sn rfl rfl (sn rfl rfl (sv rfl (A1 (A7 (I0 rfl fun u2 hu2=>sd rfl (A6 rfl G_hit rfl rfl) (bs h fun v1 hv1 h=>B2 rfl rfl A2 (A3y _ _ hv1) (.inl rfl) (sv rfl (sd rfl (A6 rfl (gq rfl) rfl rfl) (sp rfl rfl (sl rfl G_hit rfl (bs h fun v2 hv2 h=>B2 rfl rfl A2 (A4b _ _ _ hv2) (.inl rfl) (sv rfl (sv rfl (A1 (B4 ?_))))))))))))))))
 cases h
 exact A8 (.inr rfl) (B7 (B6 rfl) E5) (.refl _)
noncomputable def A2f (p1:Map)(p2:State)(p3:Int):Option Int:=
  (D0 p2.Agents p3).bind fun v1=>(A0n p1 v1.Route).bind fun v2=>cond (v2 !=0) (some 13) (((cond (!(((((decide (v1.Len<300))||(decide (v1.Len>20000)))||(decide (v1.Begin<0)))||(decide (v1.Begin>1099511627776)))||(decide (v1.S<0)))) (V9 p1 v1.Route) (some default))).bind fun v3=>cond ((((((decide (v1.Len<300))||(decide (v1.Len>20000)))||(decide (v1.Begin<0)))||(decide (v1.Begin>1099511627776)))||(decide (v1.S<0)))||(decide (v1.S>(w64 ((w64 (v3+v1.Len))+2000))))) (some 2) ((A8y p1 v1).bind fun v4=>(D0 p1.Lanes v4.1).bind fun v5=>(A20 v5.Kind).bind fun v6=>cond ((decide (v1.V<0))||(decide (v1.V>v6.1))) (some 2) ((A8z p1 v1).bind fun v7=>cond ((!(v1.Gone==v7))||(((decide (v1.Begin>p2.Tick))&& (v1.S !=0))||((p3==0)&& (v1.Begin !=0)))) (some 10) (some 0))))
theorem B5e (p1:Map)(p2:State)(p3:Int)(r:Int)(h:A2f p1 p2 p3=some r):PCall Tryz.prog 72 [(.agg (A5o p1)),(.agg (A1z p2)),(i64 p3)] (i64 r):=by
 refine B8 (fk Tryz.func72 Tryz.ntmps72 m0 (by with_unfolding_all rfl)) (nl rfl) ?_
 unfold A2f at h
 refine B5 (s0:=⟨T [(0,(.d _)),(1,(.d _)),(2,(.d _))],G []⟩) (sbr rfl rfl) ?_
 refine lr (fun u1 hu1=>sn rfl rfl (sn rfl rfl (sv rfl (A1 (lr (fun u2 hu2=>sp rfl rfl (sl rfl G_hit rfl (sv rfl (bs h fun v1 hv1 h=>sd rfl (F9 rfl rfl hv1 rfl) (sd rfl (C6 rfl hv1 rfl rfl) (sn rfl rfl (sst rfl G_hit (Y0 v1) rfl (A1 (A7 (lr (fun u3 hu3=>sd rfl (A6 rfl (gq rfl) rfl rfl) (sp rfl rfl (sl rfl G_hit rfl (bs h fun v2 hv2 h=>B2 rfl rfl A2 (A9e _ _ _ hv2) (.inl rfl) (sv rfl (A1 (cc rfl h (fun c1 h=> ?_) (fun c1 h=> ?_)))))))))))))))))))))))
 refine lr (fun u4 hu4=>sv rfl (A1 (B4 ?_)))
 cases h
 exact A8 (.inr rfl) (B7 (B6 rfl) E5) (.refl _)
 refine B1 (A7 (A7 (I0 rfl fun u5 hu5=>sp rfl rfl (sl rfl G_hit rfl (sv rfl (sv rfl (gp rfl (A0h rfl) (fun _=>rfl) (gf rfl (vl rfl G_hit rfl) (gf rfl (vb rfl rfl rfl) (sd rfl (A49 rfl rfl (fun hc=>A4 (S3 hc))) (sv rfl (gp rfl (A0h rfl) (fun _=>rfl) (gf rfl (vl rfl G_hit rfl) (gf rfl (vb rfl rfl rfl) (sd rfl (A49 rfl rfl (fun hc=>A4 (S3 hc))) (sv rfl (gp rfl (A0h rfl) (fun _=>rfl) (gf rfl (vl rfl G_hit rfl) (gf rfl (vb rfl rfl rfl) (sd rfl (A49 rfl rfl (fun hc=>A4 (S3 hc))) (sv rfl (gp rfl (A0h rfl) (fun _=>rfl) (gf rfl (vl rfl G_hit rfl) (gf rfl (vb rfl rfl rfl) (sd rfl (A49 rfl rfl (fun hc=>A4 (S3 hc))) (sv rfl (gp rfl (A0h rfl) (fun _=>rfl) (gf rfl (vl rfl G_hit rfl) (gf rfl (fun w15=>(A6 rfl (gq rfl) rfl rfl)) (gp rfl (A0h rfl) (fun _=>rfl) (gf rfl (vl rfl G_hit rfl) (bs h fun v3 hv3 h=> ?_))))))))))))))))))))))))))))))))
 refine O5 _ (i64 v3) (A0h rfl) (fun w18=>⟨_,[(.d (.agg (A5o p1))),(dl A5 v1.Route)],_,_,(by simp only [A4 w18];rfl),rfl,A2,A4b _ _ _ (B9 w18 hv3),(.inl rfl)⟩) ?_
 refine gp rfl (A0h rfl) (fun _=>rfl) (gf rfl (vl rfl G_hit rfl) (gf rfl (fun w21=>(X7 (A4 w21) (A4 w21) rfl)) (gf rfl (vb rfl rfl rfl) (gf rfl (fun w23=>(X7 (A4 w23) (A4 w23) rfl)) (sd rfl (A49 rfl rfl (fun hc=>A4 (S3 hc))) (A1 (cc rfl h (fun c2 h=> ?_) (fun c2 h=> ?_))))))))
 refine lr (fun u6 hu6=>sv rfl (A1 (B4 ?_)))
 cases h
 exact A8 (.inr rfl) (B7 (B6 rfl) E5) (.refl _)
 refine B1 (lr (fun u7 hu7=>sd rfl (A6 rfl (gq rfl) rfl rfl) (sd rfl (A6 rfl G_hit rfl rfl) (bs h fun v4 hv4 h=>B2 rfl rfl A2 (B6c _ _ _ hv4) (.inl rfl) (sv rfl (sv rfl (sv rfl (sv rfl (sv rfl (A1 (A7 (lr (fun u8 hu8=>sp rfl rfl (sl rfl (gq rfl) rfl (sv rfl (bs h fun v5 hv5 h=>sd rfl (F9 rfl rfl hv5 rfl) (sv rfl (sd rfl (F4 rfl hv5 rfl) (bs h fun v6 hv6 h=>B2 rfl rfl A2 (A5z _ _ hv6) (.inl rfl) (sv rfl (sv rfl (sv rfl (sv rfl (sv rfl (sv rfl (sv rfl (A1 (lr (fun u9 hu9=>sp rfl rfl (sl rfl G_hit rfl (sv rfl (sv rfl (gp rfl (A0h rfl) (fun _=>rfl) (gf rfl (vl rfl G_hit rfl) (gf rfl (fun _=>rfl) (gf rfl (fun w27=>(X7 (A4 w27) (A4 w27) rfl)) (sd rfl (A49 rfl rfl (fun hc=>A4 (S3 hc))) (A1 (cc rfl h (fun c3 h=> ?_) (fun c3 h=> ?_))))))))))))))))))))))))))))))))))))))))
 refine A7 (B5 (s0:=⟨T [],G []⟩) (sbr rfl rfl) ?_)
 refine C7 fun u10 hu10=>sv rfl (A1 (B4 ?_))
 cases h
 exact A8 (.inr rfl) (B7 (B6 rfl) E5) (.refl _)
 refine B1 (A7 (B5 (s0:=⟨T [(2,(.d _)),(3,(.ptr _ _)),(4,(.ptr _ _)),(7,(.ptr _ _))],G [((3,u1),some (.box 33 _)),((4,u1),some (.box 25 _)),((7,u2),some (.box 45 _))]⟩) (sbr rfl rfl) ?_))
 refine C7 fun u11 hu11=>sp rfl rfl (sl rfl (gq rfl) rfl (sp rfl rfl (sl rfl (gq rfl) rfl (sv rfl (sv rfl (gp rfl (V5 rfl) (fun _=>rfl) (gt rfl (vl rfl (gq rfl) rfl) (gt rfl (vb rfl rfl rfl) (sa rfl rfl rfl (sv rfl (gf rfl (fun _=>rfl) (gf rfl (vb rfl rfl rfl) (gf rfl (fun w33=>(D0v (A4 w33))) (U0 _ (.ptr _ _) rfl (A8i rfl) (fun _=>rfl) (gv rfl (A8i rfl) (vl rfl (gq rfl) rfl) (gv rfl (A8i rfl) (vb rfl rfl rfl) (gf rfl (fun w37=>(C2s (A4 w37) (fun hc=>A4 (C65 w37 hc)) rfl)) (sd rfl (A49 rfl rfl (fun hc=>A4 (S3 hc))) (sv rfl (A1 (A7 (A7 (I0 rfl fun u12 hu12=>sp rfl rfl (sl rfl (gq rfl) rfl (sd rfl (A6 rfl G_hit rfl rfl) (sd rfl (A6 rfl (gq rfl) rfl rfl) (bs h fun v7 hv7 h=>B2 rfl rfl A2 (B6d _ _ _ hv7) (.inl rfl) (C0 (.d (bo (!(v1.Gone==v7)))) rfl rfl (sv rfl (gf rfl (fun _=>rfl) (sd rfl (A49 rfl rfl (fun hc=>A4 (S3 hc))) (A1 (cc rfl h (fun c4 h=> ?_) (fun c4 h=> ?_))))))))))))))))))))))))))))))))))
 refine lr (fun u13 hu13=>sv rfl (A1 (B4 ?_)))
 cases h
 exact A8 (.inr rfl) (B7 (B6 rfl) E5) (.refl _)
 refine B1 (lr (fun u14 hu14=>sv rfl (A1 (B4 ?_))))
 cases h
 exact A8 (.inr rfl) (B7 (B6 rfl) E5) (.refl _)
noncomputable def A40 (p1:Int):Option Bool:=
  some (p1 !=p1)
theorem B36 (p1:Int)(r:Bool)(h:A40 p1=some r):PCall Tryz.prog 216 [(i64 p1)] (bo r):=by
 refine B8 (fk Tryz.func216 Tryz.ntmps216 m0 (by with_unfolding_all rfl)) (nl rfl) ?_
 unfold A40 at h
 refine B5 (s0:=⟨T [(0,(.d _))],G []⟩) (sbr rfl rfl) ?_
 refine lr (fun u1 hu1=>sv rfl (A1 (lr (fun u2 hu2=>sv rfl (sv rfl (sv rfl (sv rfl (A1 (B4 ?_)))))))))
 cases h
 exact A8 (.inr rfl) (B7 (B6 rfl) E5) (.refl _)
end Go.Abs.World
