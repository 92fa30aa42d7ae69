/-
  The Go functions that WorldMarks reaches, as plain Lean functions, and the proofs that the program computes them.
-/
import Derived.Test.YtgjdiioennhoeaaGreatCoreD
import Derived.Test.YtgjdiioennhoeaaGreatProg
import Derived.KernelRfl
import Derived.IntWalk
import Derived.Shelf.SlicesE.Compact
set_option maxRecDepth 20000
set_option maxHeartbeats 4000000
set_option linter.unusedVariables false
namespace Go.Abs.World
open Go Go.Abs Go.Proofs
attribute [local irreducible] T6 B2y AWL
structure Spot where
  X:Int
  Y:Int
  deriving Inhabited
structure CurveVector where
  x:Int
  y:Int
  deriving Inhabited
structure CurvePiece where
  p:Spot
  v:CurveVector
  l:Int
  start:Int
  deriving Inhabited
abbrev A6c:Spot→List D:=fun x=> [(i64 x.X),(i64 x.Y)]
structure Curve where
  Pts:(List Spot)
  deriving Inhabited
abbrev eCurve:Curve→List D:=fun x=> [(.list (List.map A6c x.Pts))]
structure Stay where
  Agent_:Int
  Zone_:Int
  Since:Int
  Rank:Int
  deriving Inhabited
abbrev L4:Stay→List D:=fun x=> [(i64 x.Agent_),(i64 x.Zone_),(i64 x.Since),(i64 x.Rank)]
abbrev A4:Int→List D:=fun x=> [.v (.int .i64 x)]
structure Agent where
  Route:(List Int)
  S:Int
  V:Int
  Len:Int
  Begin:Int
  Obey:Bool
  Gone:Bool
  deriving Inhabited
structure State where
  Tick:Int
  Agents:(List Agent)
  In:(List Stay)
  deriving Inhabited
abbrev C3:Agent→List D:=fun x=> [(.list (List.map A4 x.Route)),(i64 x.S),(i64 x.V),(i64 x.Len),(i64 x.Begin),(bo x.Obey),(bo x.Gone)]
abbrev A0r:State→List D:=fun x=> [(i64 x.Tick),(.list (List.map C3 x.Agents)),(.list (List.map L4 x.In))]
abbrev C5u:(List Agent)→List D:=fun x=> [.list (List.map C3 x)]
abbrev C2e:(List Int)→List D:=fun x=> [.list (List.map A4 x)]
abbrev C9z:Bool→List D:=fun x=> [bo x]
abbrev C7z:(List Stay)→List D:=fun x=> [.list (List.map L4 x)]
structure Lane where
  Kind:Int
  Curve_:Curve
  Half:Int
  Limit:Int
  Next:(List Int)
  deriving Inhabited
structure Part where
  Lane_:Int
  From:Int
  To:Int
  Rank:Int
  deriving Inhabited
structure Zone where
  Parts:(List Part)
  Signal_:Int
  deriving Inhabited
structure Phase where
  Ticks:Int
  Green:(List Int)
  deriving Inhabited
structure Signal where
  Offset:Int
  Phases:(List Phase)
  deriving Inhabited
structure Work where
  Lane_:Int
  From:Int
  To:Int
  Begin:Int
  End:Int
  Limit:Int
  deriving Inhabited
structure Map where
  Version:Int
  Lanes:(List Lane)
  Zones:(List Zone)
  Signals:(List Signal)
  Works:(List Work)
  deriving Inhabited
abbrev B1n:Lane→List D:=fun x=> [(i64 x.Kind),(.list (List.map A6c x.Curve_.Pts)),(i64 x.Half),(i64 x.Limit),(.list (List.map A4 x.Next))]
abbrev A8k:Part→List D:=fun x=> [(i64 x.Lane_),(i64 x.From),(i64 x.To),(i64 x.Rank)]
abbrev A9e:Zone→List D:=fun x=> [(.list (List.map A8k x.Parts)),(i64 x.Signal_)]
abbrev A7d:Phase→List D:=fun x=> [(i64 x.Ticks),(.list (List.map A4 x.Green))]
abbrev B0y:Signal→List D:=fun x=> [(i64 x.Offset),(.list (List.map A7d x.Phases))]
abbrev B93:Work→List D:=fun x=> [(i64 x.Lane_),(i64 x.From),(i64 x.To),(i64 x.Begin),(i64 x.End),(i64 x.Limit)]
abbrev eFn:Nat→List D:=fun x=> [.fn (.func x) [] []]
structure RoadsCheck where
  Map_:Map
  deriving Inhabited
abbrev D00:(Int×Int×Int)→List D:=fun x=> [(i64 x.1),(i64 x.2.1),(i64 x.2.2)]
structure RoadsWay where
  Map_:Map
  lanes:(List Int)
  starts:(List Int)
  length:Int
  deriving Inhabited
structure WorldSpan where
  from_:Int
  to:Int
  deriving Inhabited
structure Crash where
  Tick:Int
  A:Int
  B:Int
  Lane_:Int
  Zone_:Int
  Who:(List Int)
  deriving Inhabited
structure WorldScene where
  m:Map
  before:State
  after:State
  acts:(List Int)
  crashes:(List Crash)
  deriving Inhabited
abbrev A1x:Crash→List D:=fun x=> [(i64 x.Tick),(i64 x.A),(i64 x.B),(i64 x.Lane_),(i64 x.Zone_),(.list (List.map A4 x.Who))]
structure Pass where
  Zone_:Int
  Part_:Int
  From:Int
  To:Int
  deriving Inhabited
abbrev A0s:Pass→List D:=fun x=> [(i64 x.Zone_),(i64 x.Part_),(i64 x.From),(i64 x.To)]
structure Span where
  Lane_:Int
  From:Int
  To:Int
  deriving Inhabited
abbrev A8b:Span→List D:=fun x=> [(i64 x.Lane_),(i64 x.From),(i64 x.To)]
structure Mark where
  Stamp:Int
  Lo:Int
  Hi:Int
  deriving Inhabited
structure Anon7 where
  x:Int
  y:Int
  signed:Bool
  code:Int
  deriving Inhabited
structure RuntimeBoundsError where
  x:Int
  y:Int
  signed:Bool
  code:Int
  deriving Inhabited
structure Anon13 where
  msg:ByteArray
  addr:Int
  deriving Inhabited
structure RuntimeErrorAddressString where
  msg:ByteArray
  addr:Int
  deriving Inhabited
structure Anon24 where
  Tick:Int
  Agents:(List Agent)
  In:(List Stay)
  deriving Inhabited
structure Anon32 where
  Version:Int
  Lanes:(List Lane)
  Zones:(List Zone)
  Signals:(List Signal)
  Works:(List Work)
  deriving Inhabited
structure Anon44 where
  Route:(List Int)
  S:Int
  V:Int
  Len:Int
  Begin:Int
  Obey:Bool
  Gone:Bool
  deriving Inhabited
structure Anon60 where
  Pts:(List Spot)
  deriving Inhabited
structure Anon62 where
  Kind:Int
  Curve_:Curve
  Half:Int
  Limit:Int
  Next:(List Int)
  deriving Inhabited
structure Anon72 where
  R:Int
  S:Int
  V:Int
  Len:Int
  Begin:Int
  Disobeys:Bool
  deriving Inhabited
structure KitActor where
  R:Int
  S:Int
  V:Int
  Len:Int
  Begin:Int
  Disobeys:Bool
  deriving Inhabited
structure Anon76 where
  Tick:Int
  A:Int
  B:Int
  Lane_:Int
  Zone_:Int
  Who:(List Int)
  deriving Inhabited
structure Anon82 where
  Stamp:Int
  Lo:Int
  Hi:Int
  deriving Inhabited
structure Anon92 where
  Lane_:Int
  From:Int
  To:Int
  deriving Inhabited
structure Point where
  X:Int
  Y:Int
  V:Int
  deriving Inhabited
structure Anon98 where
  Stamp:Int
  Seen:(List Span)
  Points:(List Point)
  deriving Inhabited
structure Scan where
  Stamp:Int
  Seen:(List Span)
  Points:(List Point)
  deriving Inhabited
structure Anon103 where
  X:Int
  Y:Int
  deriving Inhabited
structure Anon106 where
  X:Int
  Y:Int
  V:Int
  deriving Inhabited
structure Anon113 where
  Lane_:Int
  From:Int
  To:Int
  Rank:Int
  deriving Inhabited
structure Anon116 where
  Parts:(List Part)
  Signal_:Int
  deriving Inhabited
structure Anon119 where
  Offset:Int
  Phases:(List Phase)
  deriving Inhabited
structure Anon122 where
  Lane_:Int
  From:Int
  To:Int
  Begin:Int
  End:Int
  Limit:Int
  deriving Inhabited
structure Anon126 where
  Agent_:Int
  Zone_:Int
  Since:Int
  Rank:Int
  deriving Inhabited
structure Anon134 where
  m:Map
  before:State
  after:State
  acts:(List Int)
  crashes:(List Crash)
  deriving Inhabited
structure Anon164 where
  s:ByteArray
  bad:Bool
  deriving Inhabited
structure WorldReader where
  s:ByteArray
  bad:Bool
  deriving Inhabited
structure Anon171 where
  s:ByteArray
  bad:Bool
  deriving Inhabited
structure Ref04Reader where
  s:ByteArray
  bad:Bool
  deriving Inhabited
structure Anon190 where
  from_:Int
  to:Int
  deriving Inhabited
structure Anon207 where
  Ticks:Int
  Green:(List Int)
  deriving Inhabited
structure Anon211 where
  Map_:Map
  deriving Inhabited
structure Anon228 where
  Zone_:Int
  Part_:Int
  From:Int
  To:Int
  deriving Inhabited
structure WorldBar where
  front:Spot
  rear:Spot
  deriving Inhabited
structure Anon245 where
  m:Map
  eye:Spot
  view:Int
  bodies:(List (List Span))
  bars:(List WorldBar)
  deriving Inhabited
structure WorldLooks where
  m:Map
  eye:Spot
  view:Int
  bodies:(List (List Span))
  bars:(List WorldBar)
  deriving Inhabited
structure Anon247 where
  front:Spot
  rear:Spot
  deriving Inhabited
structure Anon252 where
  x:Int
  y:Int
  deriving Inhabited
structure Anon254 where
  p:Spot
  v:CurveVector
  l:Int
  start:Int
  deriving Inhabited
structure Anon259 where
  Map_:Map
  lanes:(List Int)
  starts:(List Int)
  length:Int
  deriving Inhabited
abbrev A7e:WorldScene→List D:=fun x=> [(i64 x.m.Version),(.list (List.map B1n x.m.Lanes)),(.list (List.map A9e x.m.Zones)),(.list (List.map B0y x.m.Signals)),(.list (List.map B93 x.m.Works)),(i64 x.before.Tick),(.list (List.map C3 x.before.Agents)),(.list (List.map L4 x.before.In)),(i64 x.after.Tick),(.list (List.map C3 x.after.Agents)),(.list (List.map L4 x.after.In)),(.list (List.map A4 x.acts)),(.list (List.map A1x x.crashes))]
abbrev T0:WorldScene→List AV:=fun x=> [(.d (i64 x.m.Version)),(.d (.list (List.map B1n x.m.Lanes))),(.d (.list (List.map A9e x.m.Zones))),(.d (.list (List.map B0y x.m.Signals))),(.d (.list (List.map B93 x.m.Works))),(.d (i64 x.before.Tick)),(.d (.list (List.map C3 x.before.Agents))),(.d (.list (List.map L4 x.before.In))),(.d (i64 x.after.Tick)),(.d (.list (List.map C3 x.after.Agents))),(.d (.list (List.map L4 x.after.In))),(.d (.list (List.map A4 x.acts))),(.d (.list (List.map A1x x.crashes)))]
abbrev C41:RoadsWay→List D:=fun x=> [(i64 x.Map_.Version),(.list (List.map B1n x.Map_.Lanes)),(.list (List.map A9e x.Map_.Zones)),(.list (List.map B0y x.Map_.Signals)),(.list (List.map B93 x.Map_.Works)),(.list (List.map A4 x.lanes)),(.list (List.map A4 x.starts)),(i64 x.length)]
abbrev A7f:RoadsWay→List AV:=fun x=> [(.d (i64 x.Map_.Version)),(.d (.list (List.map B1n x.Map_.Lanes))),(.d (.list (List.map A9e x.Map_.Zones))),(.d (.list (List.map B0y x.Map_.Signals))),(.d (.list (List.map B93 x.Map_.Works))),(.d (.list (List.map A4 x.lanes))),(.d (.list (List.map A4 x.starts))),(.d (i64 x.length))]
abbrev A0a:Agent→List AV:=fun x=> [(.d (.list (List.map A4 x.Route))),(.d (i64 x.S)),(.d (i64 x.V)),(.d (i64 x.Len)),(.d (i64 x.Begin)),(.d (bo x.Obey)),(.d (bo x.Gone))]
abbrev D01:Work→List AV:=fun x=> [(.d (i64 x.Lane_)),(.d (i64 x.From)),(.d (i64 x.To)),(.d (i64 x.Begin)),(.d (i64 x.End)),(.d (i64 x.Limit))]
abbrev C05:CurvePiece→List D:=fun x=> [(i64 x.p.X),(i64 x.p.Y),(i64 x.v.x),(i64 x.v.y),(i64 x.l),(i64 x.start)]
abbrev C06:CurvePiece→List AV:=fun x=> [(.d (i64 x.p.X)),(.d (i64 x.p.Y)),(.d (i64 x.v.x)),(.d (i64 x.v.y)),(.d (i64 x.l)),(.d (i64 x.start))]
abbrev A5o:Map→List D:=fun x=> [(i64 x.Version),(.list (List.map B1n x.Lanes)),(.list (List.map A9e x.Zones)),(.list (List.map B0y x.Signals)),(.list (List.map B93 x.Works))]
abbrev A14:Map→List AV:=fun x=> [(.d (i64 x.Version)),(.d (.list (List.map B1n x.Lanes))),(.d (.list (List.map A9e x.Zones))),(.d (.list (List.map B0y x.Signals))),(.d (.list (List.map B93 x.Works)))]
abbrev C5v:Lane→List AV:=fun x=> [(.d (i64 x.Kind)),(.d (.list (List.map A6c x.Curve_.Pts))),(.d (i64 x.Half)),(.d (i64 x.Limit)),(.d (.list (List.map A4 x.Next)))]
abbrev C2f:Part→List AV:=fun x=> [(.d (i64 x.Lane_)),(.d (i64 x.From)),(.d (i64 x.To)),(.d (i64 x.Rank))]
abbrev B6a:Stay→List AV:=fun x=> [(.d (i64 x.Agent_)),(.d (i64 x.Zone_)),(.d (i64 x.Since)),(.d (i64 x.Rank))]
abbrev Q7:State→List AV:=fun x=> [(.d (i64 x.Tick)),(.d (.list (List.map C3 x.Agents))),(.d (.list (List.map L4 x.In)))]
abbrev C2g:Mark→List D:=fun x=> [(i64 x.Stamp),(i64 x.Lo),(i64 x.Hi)]
noncomputable def A1m (p1:State)(x1:Int):Option (Stp Int (Sum Unit Bool)):=
  cond (decide (x1< (p1.Agents.length:Int))) ((G3 p1.Agents x1).bind fun v1=>cond (decide ((v1.Route.length:Int)>10)) (some (.out (.inr false))) (some (.go (w64 (x1+1))))) (some (.out (.inl ())))
noncomputable def A7g (p1:State):Option Bool:=
  cond ((decide ((p1.Agents.length:Int)>10))||(decide ((p1.In.length:Int)>20))) (some false) (thenS (loop (A1m p1) 0) (fun _=>some true) (fun r=>some r))
theorem B6b (p1:State)(r:Bool)(h:A7g p1=some r):PCall Tryz.prog 20 [(.agg (A0r p1))] (bo r):=by
 refine B8 (fk Tryz.func20 Tryz.ntmps20 m0 (by with_unfolding_all rfl)) (nl rfl) ?_
 unfold A7g at h
 refine B4 (s0:=⟨T [(0,(.d _))],G []⟩) (sbr rfl rfl) ?_
 refine lr (fun u1 hu1=>sn rfl rfl (sv rfl (A1 (A6 (lr (fun u2 hu2=>sp rfl rfl (sl rfl G_hit rfl (sd rfl (L9 rfl) (sv rfl (sv rfl (gp rfl (A2t rfl) (fun _=>rfl) (gf rfl (vl rfl G_hit rfl) (gf rfl (fun w3=>(L9 (A5 w3))) (gf rfl (vb rfl rfl rfl) (sd rfl (A6a rfl rfl (fun hc=>A5 (W6 hc))) (A1 (cc rfl h (fun c1 h=> ?_) (fun c1 h=> ?_))))))))))))))))))
 refine lr (fun u3 hu3=>sv rfl (A1 (B3 ?_)))
 cases h
 exact A7 (.inr rfl) (B7 (B6 rfl) G8) (.refl _)
 refine B0 (A6 (lr (fun u4 hu4=>sv rfl (A1 (js h fun z1 hz1 h=>I6 (fun s=> ∃(y1:Unit) (g1:Unit),z1= .inl y1∧Sb ⟨T [],G []⟩ s) ?_ ?_)))))
 refine A8 (J3 (A1m p1) (fun (x1:Int) (g2:Unit)=>⟨T [(1,(.ptr (1,u1) 0)),(3,(di x1))],G [((1,u1),some (.box 25 (Q7 p1)))]⟩) 0 () _ hz1 (sbr rfl rfl) ?_)
 intro x1 g2 z2 hz2 ez2
 unfold A1m at hz2
 refine A6 (lr (fun u5 hu5=>sv rfl (sp rfl rfl (sl rfl G_hit rfl (sd rfl (L9 rfl) (sv rfl (A1 (cc rfl hz2 (fun c2 hz2=> ?_) (fun c2 hz2=> ?_)))))))))
 refine B0 (A6 (A8 (lr (fun u6 hu6=>sp rfl rfl (sl rfl G_hit rfl (sv rfl (bs hz2 fun v1 hv1 hz2=>sd rfl (K5 rfl rfl hv1 rfl) (sv rfl (sd rfl (M1 rfl hv1 rfl) (sd rfl (L9 rfl) (sv rfl (A1 (cc rfl hz2 (fun c3 hz2=> ?_) (fun c3 hz2=> ?_))))))))))))))
 refine lr (fun u7 hu7=>sv rfl (A1 (B3 ?_)))
 cases hz2
 obtain rfl:=ez2 _ rfl
 refine ⟨nofun,H8 ?_⟩
 rw [Sum.elim_inr]at h
 cases h
 exact A7 (.inr rfl) (B7 (B6 rfl) G8) (.refl _)
 refine B0 (L8 (E8 fun u8 hu8=>sv rfl (sv rfl (sv rfl (A1 (K4 ?_))))))
 cases hz2
 exact ⟨rfl,(),(sbr rfl rfl)⟩
 refine D8 rfl ?_
 cases hz2
 obtain rfl:=ez2 _ rfl
 refine ⟨nofun,C7 rfl (l_j ?_)⟩
 exact ⟨_,(),rfl,(sbr rfl rfl)⟩
 rintro _ ⟨y1,g1,rfl,q1⟩
 rw [Sum.elim_inl]at h
 refine B4 q1 (lr (fun u9 hu9=>sv rfl (A1 (B3 ?_))))
 cases h
 exact A7 (.inr rfl) (B7 (B6 rfl) G8) (.refl _)
noncomputable def A7h (p4:(List Int))(x1:(Int× (List Spot))):Option (Stp (Int× (List Spot)) (List Spot)):=
  cond (decide ((w64 (x1.1+1))< (p4.length:Int))) ((G3 p4 x1.1).bind fun v1=>(G3 p4 (w64 (x1.1+1))).bind fun v2=>(A9r x1.2 [(Spot.mk v1 v2)]).bind fun v3=>some (.go ((w64 (x1.1+2)),v3))) (some (.out x1.2))
noncomputable def B1k (p1:Int)(p2:Int)(p3:(List Int))(p4:(List Int)):Option Lane:=
  (loop (A7h p4) (0,[])).bind fun y1=>cond (p1==3) (some (Lane.mk p1 (Curve.mk y1) 500 p2 p3)) (some (Lane.mk p1 (Curve.mk y1) 1500 p2 p3))
theorem B5s (p1:Int)(p2:Int)(p3:(List Int))(p4:(List Int))(r:Lane)(h:B1k p1 p2 p3 p4=some r):PCall Tryz.prog 69 [(i64 p1),(i64 p2),(.list (List.map A4 p3)),(.list (List.map A4 p4))] (.agg (B1n r)):=by
 refine B8 (fk Tryz.func69 Tryz.ntmps69 (fun r=>if r==5 then [1013]else []) (by with_unfolding_all rfl)) (nl rfl) ?_
 unfold B1k at h
 refine B4 (s0:=⟨T [(0,(.d _)),(1,(.d _)),(2,(.d _)),(3,(.d _))],G []⟩) (sbr rfl rfl) ?_
 refine lr (fun u1 hu1=>sn rfl rfl (A1 (lr (fun u2 hu2=>sv rfl (sv rfl (sv rfl (sv rfl (sn rfl rfl (sst rfl G_hit [(di p1),(.d .nilS),(di 1500),(di p2),(dl A4 p3)] rfl (A1 (A6 (lr (fun u3 hu3=>sv rfl (A1 (bs h fun y1 hy1 h=>I6 (fun s=> ∃g1:Nat,Sb ⟨T [(0,(di p1)),(8,(.ptr (8,u1) 0)),(9,(.ptr (9,u2) 0))],G [((8,u1),some (.box 63 (((zs 4).set 1 (.d .nilS))++ [(.d .nilS)]))),((9,u2),some (.box 63 [(di p1),(oS y1 (36,g1)),(di 1500),(di p2),(dl A4 p3)])),((36,g1),oB 104 2 A6c y1)]⟩ s) ?_ ?_)))))))))))))))
 refine A8 (J3 (A7h p4) (fun (x1:(Int× (List Spot))) (g2:Nat)=>⟨T [(0,(di p1)),(3,(dl A4 p4)),(8,(.ptr (8,u1) 0)),(9,(.ptr (9,u2) 0)),(10,(di x1.1))],G [((8,u1),some (.box 63 (((zs 4).set 1 (.d .nilS))++ [(.d .nilS)]))),((9,u2),some (.box 63 [(di p1),(oS x1.2 (36,g2)),(di 1500),(di p2),(dl A4 p3)])),((36,g2),oB 104 2 A6c x1.2)]⟩) (0,[]) 0 _ hy1 (J4 ⟨.of rfl, .of rfl, .of rfl, .of rfl, .of rfl,trivial⟩ (sg rfl (A9 G_hit (.of rfl) (A5c trivial)))) ?_)
 intro x1 g2 z1 hz1 ez1
 unfold A7h at hz1
 refine A6 (lr (fun u4 hu4=>sv rfl (sv rfl (sv rfl (sd rfl (L9 rfl) (sv rfl (A1 (cc rfl hz1 (fun c1 hz1=> ?_) (fun c1 hz1=> ?_)))))))))
 refine B0 (A6 (A8 (M8 rfl fun u5 hu5=>sp rfl rfl (sp rfl rfl (C9 (oS x1.2 (36,g2)) rfl (V1 rfl (gq rfl) rfl) (sv rfl (sv rfl (bs hz1 fun v1 hv1 hz1=>sd rfl (K5 rfl rfl hv1 rfl) (sd rfl (M1 rfl hv1 rfl) (sv rfl (sv rfl (sv rfl (bs hz1 fun v2 hv2 hz1=>sd rfl (K5 rfl rfl hv2 rfl) (sd rfl (M1 rfl hv2 rfl) (sv rfl (C9 (dl A6c [(Spot.mk v1 v2)]) rfl rfl (bs hz1 fun v3 hv3 hz1=>A08 A6c (36,g2) x1.2 (Spot.mk v1 v2) [] _ (T1 (fun _=>rfl)) rfl (gq rfl) hv3 (sp rfl rfl (sp rfl rfl (sst rfl (gq rfl) [(di p1),(.sl (36,u5)),(di 1500),(di p2),(dl A4 p3)] rfl (A1 (L8 (E8 fun u6 hu6=>sv rfl (sv rfl (sv rfl (A1 (K4 ?_)))))))))))))))))))))))))))
 cases hz1
 exact ⟨rfl,u5,(J4 ⟨.of rfl, .of rfl, .of rfl, .of rfl, .of rfl,trivial⟩ (sg rfl (A9 G_hit (.box (cv (.cons (.of (A9w (A36 hv3)).symm) cw))) (A3v (gq rfl) trivial))))⟩
 refine D8 rfl ?_
 cases hz1
 obtain rfl:=ez1 _ rfl
 refine ⟨nofun,C7 rfl (l_j ?_)⟩
 exact ⟨g2,(J4 ⟨.of rfl, .of rfl, .of rfl,trivial⟩ (A9 G_hit (.of rfl) (sg rfl (B5 (gq rfl) trivial))))⟩
 rintro _ ⟨g1,q1⟩
 refine B4 q1 (A6 (lr (fun u7 hu7=>sv rfl (sv rfl (A1 (cc rfl h (fun c2 h=> ?_) (fun c2 h=> ?_)))))))
 refine E8 fun u8 hu8=>sp rfl rfl (sst rfl (gq rfl) [(di p1),(oS y1 (36,g1)),(di 500),(di p2),(dl A4 p3)] rfl (A1 (lr (fun u9 hu9=>C9 (A23 [(di p1),(oS y1 (36,g1)),(di 500),(di p2),(dl A4 p3)]) rfl (B2 rfl G_hit rfl rfl) (B0x _ _ _ _ _ (A16 _) rfl rfl (gq rfl) (nl rfl) [(di p1),(oS y1 (36,g1)),(di 500),(di p2),(dl A4 p3)] rfl (A1 (B3 ?_)))))))
 cases h
 exact A7 (.inr rfl) (B7 (I3 rfl G_hit (nl rfl) rfl) (B35 (rD (C0 (A4b (gq rfl)) (rD (rD (rD D3))))))) (.agg (ca rfl (.cons ⟨A4a,rfl⟩ (cz rfl))))
 refine B0 (lr (fun u10 hu10=>C9 (A23 [(di p1),(oS y1 (36,g1)),(di 1500),(di p2),(dl A4 p3)]) rfl (B2 rfl (gq rfl) rfl rfl) (B0x _ _ _ _ _ (A16 _) rfl rfl G_hit (nl rfl) [(di p1),(oS y1 (36,g1)),(di 1500),(di p2),(dl A4 p3)] rfl (A1 (B3 ?_)))))
 cases h
 exact A7 (.inr rfl) (B7 (I3 rfl G_hit (nl rfl) rfl) (B35 (rD (C0 (A4b (gq rfl)) (rD (rD (rD D3))))))) (.agg (ca rfl (.cons ⟨A4a,rfl⟩ (cz rfl))))
noncomputable def B0z:Option Map:=
  (B1k 1 1500 [] [0,0,100000,0]).bind fun v1=>(B1k 1 1500 [] [50000,(-50000),50000,50000]).bind fun v2=>some (Map.mk 0 [v1,v2] [(Zone.mk [(Part.mk 0 48000 52000 1),(Part.mk 1 48000 52000 0)] 0)] [] [])
theorem B94 (r:Map)(h:B0z=some r):PCall Tryz.prog 65 [] (.agg (A5o r)):=by
 refine B8 (fk Tryz.func65 Tryz.ntmps65 (fun r=>if r==1 then [1000,1002,1004,1007,1009]else []) (by with_unfolding_all rfl)) (nl rfl) ?_
 unfold B0z at h
 refine B4 (s0:=⟨T [],G []⟩) (sbr rfl rfl) ?_
 refine lr (fun u1 hu1=>sn rfl rfl (A1 (lr (fun u2 hu2=>C9 (dl A4 [0,0,100000,0]) rfl rfl (bs h fun v1 hv1 h=>B1 rfl rfl (.cons (.refl _) (.cons (.refl _) (.cons DLe.nil A2))) (B5s _ _ _ _ _ hv1) (.inl rfl) (C9 (dl A4 [50000,(-50000),50000,50000]) rfl rfl (bs h fun v2 hv2 h=>B1 rfl rfl (.cons (.refl _) (.cons (.refl _) (.cons DLe.nil A2))) (B5s _ _ _ _ _ hv2) (.inl rfl) (C9 (dl B1n [v1,v2]) rfl (B90 B1n ([v1,v2]:List Lane) (fun _=>rfl) rfl rfl ⟨rfl,rfl,rfl,rfl,rfl,rfl,trivial⟩ (fun _=>rfl)) (sv rfl (sv rfl (C9 (dl A8k [(Part.mk 0 48000 52000 1),(Part.mk 1 48000 52000 0)]) rfl rfl (sv rfl (C9 (dl A9e [(Zone.mk [(Part.mk 0 48000 52000 1),(Part.mk 1 48000 52000 0)] 0)]) rfl rfl (sv rfl (sst rfl G_hit [(di 0),(dl B1n [v1,v2]),(dl A9e [(Zone.mk [(Part.mk 0 48000 52000 1),(Part.mk 1 48000 52000 0)] 0)]),(.d .nilS),(.d .nilS)] rfl (A1 (B3 ?_)))))))))))))))))
 cases h
 exact A7 (.inr rfl) (B7 (I3 rfl G_hit (nl rfl) rfl) G8) (.agg (ca rfl (ca rfl (ca rfl (.cons ⟨DLe.nil,rfl⟩ (.cons ⟨DLe.nil,rfl⟩ .nil))))))
noncomputable def A5d (p1:Int)(p2:Int)(p3:Int):Option Agent:=
  some (Agent.mk [p1] p2 p3 4000 0 false false)
theorem B1z (p1:Int)(p2:Int)(p3:Int)(r:Agent)(h:A5d p1 p2 p3=some r):PCall Tryz.prog 66 [(i64 p1),(i64 p2),(i64 p3)] (.agg (C3 r)):=by
 refine B8 (fk Tryz.func66 Tryz.ntmps66 (fun r=>if r==1 then [1001]else []) (by with_unfolding_all rfl)) (nl rfl) ?_
 unfold A5d at h
 refine B4 (s0:=⟨T [(0,(.d _)),(1,(.d _)),(2,(.d _))],G []⟩) (sbr rfl rfl) ?_
 refine lr (fun u1 hu1=>sn rfl rfl (A1 (lr (fun u2 hu2=>sv rfl (C9 (dl A4 [p1]) rfl rfl (sv rfl (sv rfl (sv rfl (sst rfl G_hit [(dl A4 [p1]),(di p2),(di p3),(di 4000),(di 0),(.d (bo false)),(.d (bo false))] rfl (A1 (B3 ?_)))))))))))
 cases h
 exact A7 (.inr rfl) (B7 (I3 rfl G_hit (nl rfl) rfl) G8) (.refl _)
noncomputable def R9 (p1:List Stay):Option (List Stay):=A9r [] p1
theorem A25 (p1:List Stay)(a0:D)(hl:A9r ([]:List Stay) p1=some p1)(hn: ∀h,S4 (T [(3, .d a0),(2, .d .nilS),(0, .d a0)]) h (.isnil false (.t 3))=some (.d (bo false)))(he: ∀h,A24 h 4 (.d a0)=some (List.map L4 p1)):
    PCall Tryz.prog 121 [a0] (.list (List.map L4 p1)):=by
  refine B8 (fk Tryz.func121 Tryz.ntmps121 m0 (by with_unfolding_all rfl)) (Nat.le_of_ble_eq_true rfl) ?_
  refine (B4 (s0:=⟨T [(0, .d a0)],G []⟩) (J4 ⟨.of rfl,trivial⟩ trivial) ?_)
  refine A6 ?_
  refine E8 fun u1 hu1=> ?_
  refine C9 (.d .nilS) rfl rfl ?_
  refine A1 ?_
  refine A6 ?_
  refine A6 ?_
  refine E8 fun u2 hu2=> ?_
  refine C9 (.d a0) rfl rfl ?_
  refine C9 (.d (bo false)) rfl (hn _) ?_
  refine A1 ?_
  refine B0w rfl ?_
  refine B0 ?_
  refine A6 ?_
  refine E8 fun u3 hu3=> ?_
  refine C5i (.sl _) (.arr 127 4 (List.map L4 ([]:List Stay))) rfl rfl ?_
  refine C9 (.d a0) rfl rfl ?_
  refine B4x L4 _ [] p1 _ (he _) rfl G_hit hl ?_
  refine C9 (.sl _) rfl rfl ?_
  refine A1 ?_
  refine B3 ?_
  exact A7 (.inr rfl) (B7 (B6 rfl) (C3e G_hit)) (.refl _)
theorem A3d (p1:List Stay)(r:List Stay)(h:R9 p1=some r):PCall Tryz.prog 121 [.list (List.map L4 p1)] (.list (List.map L4 r)):=by
  have hr:r=p1:=by obtain ⟨_,rfl⟩:=A7b h;rfl
  subst hr
  cases r with
  |cons x xs=>exact A25 (x::xs) _ h (fun _=>rfl) fun _=>T1 (fun _=>rfl)
  |nil=>
   refine PCall.nil fun A cap=> ?_
   cases A with
   |some A=>exact A25 [] (.v (.slice (some A) 0 cap)) h (fun _=>rfl) fun _=>rfl
   |none=>
    refine B8 (fk Tryz.func121 Tryz.ntmps121 m0 (by with_unfolding_all rfl)) (Nat.le_of_ble_eq_true rfl) ?_
    refine (B4 (s0:=⟨T [(0, .d (.v (.slice none 0 cap)))],G []⟩) (J4 ⟨.of rfl,trivial⟩ trivial) ?_)
    refine A6 ?_
    refine E8 fun u1 hu1=> ?_
    refine C9 (.d .nilS) rfl rfl ?_
    refine A1 ?_
    refine A6 ?_
    refine A6 ?_
    refine E8 fun u2 hu2=> ?_
    refine C9 (.d _) rfl rfl ?_
    refine C9 (.d (bo true)) rfl rfl ?_
    refine A1 ?_
    refine B3q rfl ?_
    refine A6 ?_
    refine E8 fun u3 hu3=> ?_
    refine C9 (.d .nilS) rfl rfl ?_
    refine A1 ?_
    refine B3 ?_
    exact A7 (.inr rfl) (B7 (B6 rfl) G8) .nil
noncomputable def A0k (p1:List Int):Option (List Int):=A9r [] p1
theorem A3e (p1:List Int)(a0:D)(hl:A9r ([]:List Int) p1=some p1)(hn: ∀h,S4 (T [(3, .d a0),(2, .d .nilS),(0, .d a0)]) h (.isnil false (.t 3))=some (.d (bo false)))(he: ∀h,A24 h 1 (.d a0)=some (List.map A4 p1)):
    PCall Tryz.prog 178 [a0] (.list (List.map A4 p1)):=by
  refine B8 (fk Tryz.func178 Tryz.ntmps178 m0 (by with_unfolding_all rfl)) (Nat.le_of_ble_eq_true rfl) ?_
  refine (B4 (s0:=⟨T [(0, .d a0)],G []⟩) (J4 ⟨.of rfl,trivial⟩ trivial) ?_)
  refine A6 ?_
  refine E8 fun u1 hu1=> ?_
  refine C9 (.d .nilS) rfl rfl ?_
  refine A1 ?_
  refine A6 ?_
  refine A6 ?_
  refine E8 fun u2 hu2=> ?_
  refine C9 (.d a0) rfl rfl ?_
  refine C9 (.d (bo false)) rfl (hn _) ?_
  refine A1 ?_
  refine B0w rfl ?_
  refine B0 ?_
  refine A6 ?_
  refine E8 fun u3 hu3=> ?_
  refine C5i (.sl _) (.arr 3 1 (List.map A4 ([]:List Int))) rfl rfl ?_
  refine C9 (.d a0) rfl rfl ?_
  refine B4x A4 _ [] p1 _ (he _) rfl G_hit hl ?_
  refine C9 (.sl _) rfl rfl ?_
  refine A1 ?_
  refine B3 ?_
  exact A7 (.inr rfl) (B7 (B6 rfl) (C3e G_hit)) (.refl _)
theorem A9y (p1:List Int)(r:List Int)(h:A0k p1=some r):PCall Tryz.prog 178 [.list (List.map A4 p1)] (.list (List.map A4 r)):=by
  have hr:r=p1:=by obtain ⟨_,rfl⟩:=A7b h;rfl
  subst hr
  cases r with
  |cons x xs=>exact A3e (x::xs) _ h (fun _=>rfl) fun _=>T1 (fun _=>rfl)
  |nil=>
   refine PCall.nil fun A cap=> ?_
   cases A with
   |some A=>exact A3e [] (.v (.slice (some A) 0 cap)) h (fun _=>rfl) fun _=>rfl
   |none=>
    refine B8 (fk Tryz.func178 Tryz.ntmps178 m0 (by with_unfolding_all rfl)) (Nat.le_of_ble_eq_true rfl) ?_
    refine (B4 (s0:=⟨T [(0, .d (.v (.slice none 0 cap)))],G []⟩) (J4 ⟨.of rfl,trivial⟩ trivial) ?_)
    refine A6 ?_
    refine E8 fun u1 hu1=> ?_
    refine C9 (.d .nilS) rfl rfl ?_
    refine A1 ?_
    refine A6 ?_
    refine A6 ?_
    refine E8 fun u2 hu2=> ?_
    refine C9 (.d _) rfl rfl ?_
    refine C9 (.d (bo true)) rfl rfl ?_
    refine A1 ?_
    refine B3q rfl ?_
    refine A6 ?_
    refine E8 fun u3 hu3=> ?_
    refine C9 (.d .nilS) rfl rfl ?_
    refine A1 ?_
    refine B3 ?_
    exact A7 (.inr rfl) (B7 (B6 rfl) G8) .nil
noncomputable def A0f (p1:Agent):Option Agent:=
  (A0k p1.Route).bind fun v1=>some (Agent.mk v1 p1.S p1.V p1.Len p1.Begin p1.Obey p1.Gone)
theorem A5e (p1:Agent)(r:Agent)(h:A0f p1=some r):PCall Tryz.prog 87 [(.agg (C3 p1))] (.agg (C3 r)):=by
 refine B8 (fk Tryz.func87 Tryz.ntmps87 m0 (by with_unfolding_all rfl)) (nl rfl) ?_
 unfold A0f at h
 refine B4 (s0:=⟨T [(0,(.d _))],G []⟩) (sbr rfl rfl) ?_
 refine lr (fun u1 hu1=>sn rfl rfl (sn rfl rfl (A1 (lr (fun u2 hu2=>sp rfl rfl (sl rfl (gq rfl) rfl (bs h fun v1 hv1 h=>B1 rfl rfl A2 (A9y _ _ hv1) (.inl rfl) (sp rfl rfl (sst rfl (gq rfl) ((A0a p1).set 0 (dl A4 v1)) rfl (A1 (lr (fun u3 hu3=>sd rfl (B2 rfl G_hit rfl rfl) (sst rfl (gq rfl) ((A0a p1).set 0 (dl A4 v1)) rfl (A1 (B3 ?_)))))))))))))))
 cases h
 exact A7 (.inr rfl) (B7 (I3 rfl G_hit (nl rfl) rfl) G8) (.refl _)
noncomputable def A4j (p1:State)(x1:(Int×State)):Option (Stp (Int×State) State):=
  cond (decide (x1.1< (p1.Agents.length:Int))) ((G3 p1.Agents x1.1).bind fun v2=>(A0f v2).bind fun v3=>(A9r x1.2.Agents [v3]).bind fun v4=>some (.go ((w64 (x1.1+1)),(State.mk x1.2.Tick v4 x1.2.In)))) (some (.out x1.2))
noncomputable def A6z (p1:State):Option State:=
  (R9 p1.In).bind fun v1=>(loop (A4j p1) (0,(State.mk p1.Tick [] v1))).bind fun y1=>some y1
theorem B39 (p1:State)(r:State)(h:A6z p1=some r):PCall Tryz.prog 56 [(.agg (A0r p1))] (.agg (A0r r)):=by
 refine B8 (fk Tryz.func56 Tryz.ntmps56 (fun r=>if r==5 then [1004]else []) (by with_unfolding_all rfl)) (nl rfl) ?_
 unfold A6z at h
 refine B4 (s0:=⟨T [(0,(.d _))],G []⟩) (sbr rfl rfl) ?_
 refine lr (fun u1 hu1=>sn rfl rfl (sn rfl rfl (A1 (A6 (M8 rfl fun u2 hu2=>sp rfl rfl (sl rfl (gq rfl) rfl (sp rfl rfl (sl rfl (gq rfl) rfl (bs h fun v1 hv1 h=>B1 rfl rfl A2 (A3d _ _ hv1) (.inl rfl) (sv rfl (sn rfl rfl (sst rfl G_hit [(di p1.Tick),(.d .nilS),(dl L4 v1)] rfl (A1 (A6 (lr (fun u3 hu3=>sp rfl rfl (sl rfl (gq rfl) rfl (sd rfl (L9 rfl) (sv rfl (A1 (bs h fun y1 hy1 h=>I6 (fun s=> ∃g1:Nat,Sb ⟨T [(2,(.ptr (2,u1) 0)),(3,(.ptr (3,u2) 0))],G [((2,u1),some (.box 25 [(di 0),(.d .nilS),(.d .nilS)])),((3,u2),some (.box 25 [(di y1.Tick),(oS y1.Agents (24,g1)),(dl L4 y1.In)])),((24,g1),oB 45 7 C3 y1.Agents)]⟩ s) ?_ ?_)))))))))))))))))))))
 refine A8 (J3 (A4j p1) (fun (x1:(Int×State)) (g2:Nat)=>⟨T [(2,(.ptr (2,u1) 0)),(3,(.ptr (3,u2) 0)),(13,(dl C3 p1.Agents)),(14,(di (p1.Agents.length:Int))),(15,(di x1.1))],G [((2,u1),some (.box 25 [(di 0),(.d .nilS),(.d .nilS)])),((3,u2),some (.box 25 [(di x1.2.Tick),(oS x1.2.Agents (24,g2)),(dl L4 x1.2.In)])),((24,g2),oB 45 7 C3 x1.2.Agents)]⟩) (0,(State.mk p1.Tick [] v1)) 0 _ hy1 (J4 ⟨.of rfl, .of rfl, .of rfl, .of rfl, .of rfl,trivial⟩ (sg rfl (A9 G_hit (.of rfl) (A5c trivial)))) ?_)
 intro x1 g2 z1 hz1 ez1
 unfold A4j at hz1
 refine lr (fun u4 hu4=>sv rfl (A1 (A6 (cc rfl hz1 (fun c1 hz1=> ?_) (fun c1 hz1=> ?_)))))
 refine B0 (A6 (A8 (lr (fun u5 hu5=>bs hz1 fun v2 hv2 hz1=>sd rfl (K5 rfl rfl hv2 rfl) (sd rfl (E7 rfl hv2 rfl rfl) (sn rfl rfl (sst rfl G_hit (A0a v2) rfl (A1 (M8 rfl fun u6 hu6=>sp rfl rfl (C9 (oS x1.2.Agents (24,g2)) rfl (V1 rfl (gq rfl) rfl) (sd rfl (B2 rfl G_hit rfl rfl) (bs hz1 fun v3 hv3 hz1=>B1 rfl rfl A2 (A5e _ _ hv3) (.inl rfl) (C9 (dl C3 [v3]) rfl rfl (bs hz1 fun v4 hv4 hz1=>A08 C3 (24,g2) x1.2.Agents v3 [] _ (T1 (fun _=>rfl)) rfl (gq rfl) hv4 (sp rfl rfl (sst rfl (gq rfl) [(di x1.2.Tick),(.sl (24,u6)),(dl L4 x1.2.In)] rfl (A1 (L8 (E8 fun u7 hu7=>sv rfl (sv rfl (A1 (K4 ?_))))))))))))))))))))))
 cases hz1
 exact ⟨rfl,u6,(J4 ⟨.of rfl, .of rfl, .of rfl, .of rfl, .of rfl,trivial⟩ (sg rfl (A9 G_hit (.box (cv (.cons (.of (A9w (A36 hv4)).symm) cw))) (A3v (gq rfl) trivial))))⟩
 refine D8 rfl ?_
 cases hz1
 obtain rfl:=ez1 _ rfl
 refine ⟨nofun,C7 rfl (l_j ?_)⟩
 exact ⟨g2,(J4 ⟨.of rfl, .of rfl,trivial⟩ (A9 G_hit (.of rfl) (sg rfl (B5 (gq rfl) trivial))))⟩
 rintro _ ⟨g1,q1⟩
 refine B4 q1 (lr (fun u8 hu8=>C9 (A23 [(di y1.Tick),(oS y1.Agents (24,g1)),(dl L4 y1.In)]) rfl (B2 rfl (gq rfl) rfl rfl) (B0x _ _ _ _ _ (A16 _) rfl rfl G_hit (nl rfl) [(di y1.Tick),(oS y1.Agents (24,g1)),(dl L4 y1.In)] rfl (A1 (B3 ?_)))))
 cases h
 exact A7 (.inr rfl) (B7 (I3 rfl G_hit (nl rfl) rfl) (B35 (rD (C0 (A4b (gq rfl)) (rD D3))))) (.agg (ca rfl (.cons ⟨A4a,rfl⟩ (cz rfl))))
noncomputable def X7 (p1:Int)(p2:Int)(p3:Int):Option Bool:=
  some ((decide (p2≤p1))&& (decide (p1≤p3)))
theorem A0t (p1:Int)(p2:Int)(p3:Int)(r:Bool)(h:X7 p1 p2 p3=some r):PCall Tryz.prog 209 [(i64 p1),(i64 p2),(i64 p3)] (bo r):=by
 refine B8 (fk Tryz.func209 Tryz.ntmps209 m0 (by with_unfolding_all rfl)) (nl rfl) ?_
 unfold X7 at h
 refine B4 (s0:=⟨T [(0,(.d _)),(1,(.d _)),(2,(.d _))],G []⟩) (sbr rfl rfl) ?_
 refine lr (fun u1 hu1=>sv rfl (A1 (lr (fun u2 hu2=>sv rfl (sv rfl (sv rfl (sv rfl (gt rfl (fun _=>rfl) (gt rfl (fun _=>rfl) (gt rfl (fun w3=>(A1i (A5 w3) (A5 w3) rfl)) (sa rfl rfl rfl (sv rfl (A1 (B3 ?_))))))))))))))
 cases h
 exact A7 (.inr rfl) (B7 (B6 rfl) G8) (.refl _)
noncomputable def Y6 (p1:RoadsCheck):Option Int:=
  (X7 p1.Map_.Version 0 1099511627776).bind fun v1=>cond (!v1) (some 2) (cond ((p1.Map_.Lanes.length:Int)==0) (some 6) (cond ((((decide ((p1.Map_.Lanes.length:Int)>12))||(decide ((p1.Map_.Zones.length:Int)>12)))||(decide ((p1.Map_.Signals.length:Int)>4)))||(decide ((p1.Map_.Works.length:Int)>8))) (some 8) (some 0)))
theorem B0o (p1:RoadsCheck)(r:Int)(h:Y6 p1=some r):PCall Tryz.prog 148 [(.agg (A5o p1.Map_))] (i64 r):=by
 refine B8 (fk Tryz.func148 Tryz.ntmps148 m0 (by with_unfolding_all rfl)) (nl rfl) ?_
 unfold Y6 at h
 refine B4 (s0:=⟨T [(0,(.d _))],G []⟩) (sbr rfl rfl) ?_
 refine lr (fun u1 hu1=>sn rfl rfl (sv rfl (A1 (A6 (A8 (lr (fun u2 hu2=>sp rfl rfl (sp rfl rfl (sl rfl G_hit rfl (bs h fun v1 hv1 h=>B1 rfl rfl A2 (A0t _ _ _ _ hv1) (.inl rfl) (C9 (.d (bo (!v1))) rfl rfl (sv rfl (A1 (cc rfl h (fun c1 h=> ?_) (fun c1 h=> ?_)))))))))))))))
 refine lr (fun u3 hu3=>sv rfl (A1 (B3 ?_)))
 cases h
 exact A7 (.inr rfl) (B7 (B6 rfl) G8) (.refl _)
 refine lr (fun u4 hu4=>sp rfl rfl (sp rfl rfl (sl rfl G_hit rfl (sd rfl (L9 rfl) (sv rfl (sv rfl (A1 (cc rfl h (fun c2 h=> ?_) (fun c2 h=> ?_)))))))))
 refine lr (fun u5 hu5=>sv rfl (A1 (B3 ?_)))
 cases h
 exact A7 (.inr rfl) (B7 (B6 rfl) G8) (.refl _)
 refine lr (fun u6 hu6=>sp rfl rfl (sp rfl rfl (sl rfl G_hit rfl (sd rfl (L9 rfl) (sv rfl (sv rfl (gp rfl (A2t rfl) (fun _=>rfl) ?_)))))))
 refine Z4 _ (.ptr _ _) rfl (A2t rfl) (fun w2=>(by simp only [A5 w2];rfl)) ?_
 refine gf rfl (vl rfl G_hit rfl) (gf rfl (fun w4=>(L9 (A5 w4))) (gf rfl (vb rfl rfl rfl) (sd rfl (A6a rfl rfl (fun hc=>A5 (W6 hc))) (sv rfl (gp rfl (A2t rfl) (fun _=>rfl) ?_)))))
 refine Z4 _ (.ptr _ _) rfl (A2t rfl) (fun w7=>(by simp only [A5 w7];rfl)) ?_
 refine gf rfl (vl rfl G_hit rfl) (gf rfl (fun w9=>(L9 (A5 w9))) (gf rfl (vb rfl rfl rfl) (sd rfl (A6a rfl rfl (fun hc=>A5 (W6 hc))) (sv rfl (gp rfl (A2t rfl) (fun _=>rfl) ?_)))))
 refine Z4 _ (.ptr _ _) rfl (A2t rfl) (fun w12=>(by simp only [A5 w12];rfl)) ?_
 refine gf rfl (vl rfl G_hit rfl) (gf rfl (fun w14=>(L9 (A5 w14))) (gf rfl (vb rfl rfl rfl) (sd rfl (A6a rfl rfl (fun hc=>A5 (W6 hc))) (sv rfl (A1 (cc rfl h (fun c3 h=> ?_) (fun c3 h=> ?_)))))))
 refine lr (fun u7 hu7=>sv rfl (A1 (B3 ?_)))
 cases h
 exact A7 (.inr rfl) (B7 (B6 rfl) G8) (.refl _)
 refine B0 (L8 (lr (fun u8 hu8=>sv rfl (A1 (B3 ?_)))))
 cases h
 exact A7 (.inr rfl) (B7 (B6 rfl) G8) (.refl _)
noncomputable def A17 (p1:Int):Option (Int×Int×Int):=
  cond ((decide (p1<0))||(decide (p1≥4))) (some (0,0,0)) ((G3 ([(0,0,0),(2000,30,90),(1000,20,60),(300,100,300)]:List (Int×Int×Int)) p1).bind fun v1=>some (v1.1,v1.2.1,v1.2.2))
theorem A4k (p1:Int)(r:(Int×Int×Int))(h:A17 p1=some r):PCall Tryz.prog 157 [(i64 p1)] (.tup [(i64 r.1),(i64 r.2.1),(i64 r.2.2)]):=by
 refine B8 (fk Tryz.func157 Tryz.ntmps157 m0 (by with_unfolding_all rfl)) (nl rfl) ?_
 unfold A17 at h
 refine B4 (s0:=⟨T [(0,(.d _))],G []⟩) (sbr rfl rfl) ?_
 refine lr (fun u1 hu1=>sv rfl (sv rfl (sv rfl (A1 (lr (fun u2 hu2=>sv rfl (sv rfl (sv rfl (sv rfl (sn rfl rfl (sst rfl G_hit [(di 0),(di 0),(di 0),(di 2000),(di 30),(di 90),(di 1000),(di 20),(di 60),(di 300),(di 100),(di 300)] rfl (A1 (A6 (lr (fun u3 hu3=>sv rfl (sv rfl (sv rfl (gf rfl (fun _=>rfl) (gf rfl (vb rfl rfl rfl) (sd rfl (A6a rfl rfl (fun hc=>A5 (W6 hc))) (A1 (cc rfl h (fun c1 h=> ?_) (fun c1 h=> ?_)))))))))))))))))))))))
 refine lr (fun u4 hu4=>sv rfl (sv rfl (sv rfl (A1 (B3 ?_)))))
 cases h
 exact A7 (.inr rfl) (C3f (B6 rfl) (B6 rfl) (B6 rfl) G8 G8 G8) (.refl _)
 refine B0 (lr (fun u5 hu5=>sv rfl (bs h fun v1 hv1 h=>sp rfl (C7y rfl rfl hv1 rfl) (sd rfl (C5t (f:=D00) rfl G_hit hv1 (fun _=>rfl) rfl rfl) (sn rfl rfl (sst rfl G_hit [(di v1.1),(di v1.2.1),(di v1.2.2)] rfl (A1 (A6 (M8 rfl fun u6 hu6=>sp rfl rfl (sl rfl G_hit rfl (sp rfl rfl (sl rfl G_hit rfl (sp rfl rfl (sl rfl G_hit rfl (sv rfl (sv rfl (sv rfl (A1 (B3 ?_)))))))))))))))))))
 cases h
 exact A7 (.inr rfl) (C3f (B6 rfl) (B6 rfl) (B6 rfl) G8 G8 G8) (.refl _)
noncomputable def A4l (p1:(List Spot))(x1:Int):Option (Stp Int (Sum Unit Bool)):=
  cond (decide (x1< (p1.length:Int))) ((G3 p1 x1).bind fun v1=>cond ((decide ((mm2 false v1.X v1.Y)< (-16777216)))||(decide ((mm2 true v1.X v1.Y)>16777216))) (some (.out (.inr false))) (some (.go (w64 (x1+1))))) (some (.out (.inl ())))
noncomputable def A9f (p1:(List Spot)):Option Bool:=
  thenS (loop (A4l p1) 0) (fun _=>some true) (fun r=>some r)
theorem B7q (p1:(List Spot))(r:Bool)(h:A9f p1=some r):PCall Tryz.prog 237 [(.list (List.map A6c p1))] (bo r):=by
 refine B8 (fk Tryz.func237 Tryz.ntmps237 m0 (by with_unfolding_all rfl)) (nl rfl) ?_
 unfold A9f at h
 refine B4 (s0:=⟨T [(0,(.d _))],G []⟩) (sbr rfl rfl) ?_
 refine lr (fun u1 hu1=>sv rfl (A1 (A6 (lr (fun u2 hu2=>sv rfl (sd rfl (L9 rfl) (sv rfl (A1 (js h fun z1 hz1 h=>I6 (fun s=> ∃(y1:Unit) (g1:Unit),z1= .inl y1∧Sb ⟨T [],G []⟩ s) ?_ ?_)))))))))
 refine A8 (J3 (A4l p1) (fun (x1:Int) (g2:Unit)=>⟨T [(5,(dl A6c p1)),(6,(di (p1.length:Int))),(7,(di x1))],G []⟩) 0 () _ hz1 (sbr rfl rfl) ?_)
 intro x1 g2 z2 hz2 ez2
 unfold A4l at hz2
 refine lr (fun u3 hu3=>sv rfl (A1 (A6 (cc rfl hz2 (fun c1 hz2=> ?_) (fun c1 hz2=> ?_)))))
 refine B0 (A6 (A8 (lr (fun u4 hu4=>bs hz2 fun v1 hv1 hz2=>sd rfl (K5 rfl rfl hv1 rfl) (sd rfl (E7 rfl hv1 rfl rfl) (sn rfl rfl (sst rfl G_hit [(di v1.X),(di v1.Y)] rfl (A1 (lr (fun u5 hu5=>sp rfl rfl (sl rfl G_hit rfl (sp rfl rfl (sl rfl G_hit rfl (sv rfl (sv rfl (sv rfl (gp rfl (A2t rfl) (fun _=>rfl) (gf rfl (vl rfl G_hit rfl) (gp rfl (A2t rfl) (fun _=>rfl) (gf rfl (vl rfl G_hit rfl) ?_))))))))))))))))))))
 refine gf rfl (fun w5=>(by simp only [A5 w5];rfl)) ?_
 refine gf rfl (vb rfl rfl rfl) (sd rfl (A6a rfl rfl (fun hc=>A5 (W6 hc))) (A1 (cc rfl hz2 (fun c2 hz2=> ?_) (fun c2 hz2=> ?_))))
 refine lr (fun u6 hu6=>sv rfl (A1 (B3 ?_)))
 cases hz2
 obtain rfl:=ez2 _ rfl
 refine ⟨nofun,H8 ?_⟩
 rw [Sum.elim_inr]at h
 cases h
 exact A7 (.inr rfl) (B7 (B6 rfl) G8) (.refl _)
 refine B0 (L8 (E8 fun u7 hu7=>sv rfl (sv rfl (A1 (K4 ?_)))))
 cases hz2
 exact ⟨rfl,(),(sbr rfl rfl)⟩
 refine D8 rfl ?_
 cases hz2
 obtain rfl:=ez2 _ rfl
 refine ⟨nofun,C7 rfl (l_j ?_)⟩
 exact ⟨_,(),rfl,(sbr rfl rfl)⟩
 rintro _ ⟨y1,g1,rfl,q1⟩
 rw [Sum.elim_inl]at h
 refine B4 q1 (lr (fun u8 hu8=>sv rfl (A1 (B3 ?_))))
 cases h
 exact A7 (.inr rfl) (B7 (B6 rfl) G8) (.refl _)
noncomputable def A70 (p1:Spot)(p2:Spot):Option CurveVector:=
  some (CurveVector.mk (w64 (p2.X - p1.X)) (w64 (p2.Y - p1.Y)))
theorem B3a (p1:Spot)(p2:Spot)(r:CurveVector)(h:A70 p1 p2=some r):PCall Tryz.prog 238 [(.agg [(i64 p1.X),(i64 p1.Y)]),(.agg [(i64 p2.X),(i64 p2.Y)])] (.agg [(i64 r.x),(i64 r.y)]):=by
 refine B8 (fk Tryz.func238 Tryz.ntmps238 m0 (by with_unfolding_all rfl)) (nl rfl) ?_
 unfold A70 at h
 refine B4 (s0:=⟨T [(0,(.d _)),(1,(.d _))],G []⟩) (sbr rfl rfl) ?_
 refine lr (fun u1 hu1=>sn rfl rfl (sn rfl rfl (sn rfl rfl (A1 (lr (fun u2 hu2=>sp rfl rfl (sl rfl (gq rfl) rfl (sp rfl rfl (sl rfl (gq rfl) rfl (sv rfl (sp rfl rfl (sl rfl (gq rfl) rfl (sp rfl rfl (sl rfl (gq rfl) rfl (sv rfl (sv rfl (sst rfl G_hit [(di (w64 (p2.X - p1.X))),(di (w64 (p2.Y - p1.Y)))] rfl (A1 (B3 ?_)))))))))))))))))))
 cases h
 exact A7 (.inr rfl) (B7 (I3 rfl G_hit (nl rfl) rfl) G8) (.refl _)
noncomputable def W7 (p1:CurveVector)(p2:CurveVector):Option Int:=
  some (w64 ((w64 (p1.x*p2.x))+ (w64 (p1.y*p2.y))))
theorem A3x (p1:CurveVector)(p2:CurveVector)(r:Int)(h:W7 p1 p2=some r):PCall Tryz.prog 240 [(.agg [(i64 p1.x),(i64 p1.y)]),(.agg [(i64 p2.x),(i64 p2.y)])] (i64 r):=by
 refine B8 (fk Tryz.func240 Tryz.ntmps240 m0 (by with_unfolding_all rfl)) (nl rfl) ?_
 unfold W7 at h
 refine B4 (s0:=⟨T [(0,(.d _)),(1,(.d _))],G []⟩) (sbr rfl rfl) ?_
 refine lr (fun u1 hu1=>sn rfl rfl (sn rfl rfl (sv rfl (A1 (lr (fun u2 hu2=>sp rfl rfl (sl rfl (gq rfl) rfl (sp rfl rfl (sl rfl G_hit rfl (sv rfl (sp rfl rfl (sl rfl (gq rfl) rfl (sp rfl rfl (sl rfl G_hit rfl (sv rfl (sv rfl (sv rfl (A1 (B3 ?_)))))))))))))))))))
 cases h
 exact A7 (.inr rfl) (B7 (B6 rfl) G8) (.refl _)
noncomputable def A4m (p1:Int)(x1:(Int×Int)):Option (Stp (Int×Int) Int):=
  cond (decide (x1.1<x1.2)) (cond (decide ((w64 ((w64 ((w64 (x1.1+x1.2)).tdiv 2))* (w64 ((w64 (x1.1+x1.2)).tdiv 2))))<p1)) (some (.go ((w64 ((w64 ((w64 (x1.1+x1.2)).tdiv 2))+1)),x1.2))) (some (.go (x1.1,(w64 ((w64 (x1.1+x1.2)).tdiv 2)))))) (some (.out x1.1))
noncomputable def A71 (p1:Int):Option (Int×Bool):=
  (loop (A4m p1) (0,67108864)).bind fun y1=>some (y1,((w64 (y1*y1))==p1))
theorem B3b (p1:Int)(r:(Int×Bool))(h:A71 p1=some r):PCall Tryz.prog 239 [(i64 p1)] (.tup [(i64 r.1),(bo r.2)]):=by
 refine B8 (fk Tryz.func239 Tryz.ntmps239 m0 (by with_unfolding_all rfl)) (nl rfl) ?_
 unfold A71 at h
 refine B4 (s0:=⟨T [(0,(.d _))],G []⟩) (sbr rfl rfl) ?_
 refine lr (fun u1 hu1=>sv rfl (sv rfl (A1 (lr (fun u2 hu2=>sv rfl (sv rfl (A1 (A6 (bs h fun y1 hy1 h=>I6 (fun s=> ∃g1:Unit,Sb ⟨T [(0,(di p1)),(4,(di y1))],G []⟩ s) ?_ ?_)))))))))
 refine A8 (J3 (A4m p1) (fun (x1:(Int×Int)) (g2:Unit)=>⟨T [(0,(di p1)),(4,(di x1.1)),(5,(di x1.2))],G []⟩) (0,67108864) () _ hy1 (sbr rfl rfl) ?_)
 intro x1 g2 z1 hz1 ez1
 unfold A4m at hz1
 refine A6 (lr (fun u3 hu3=>sv rfl (sv rfl (sv rfl (A1 (cc rfl hz1 (fun c1 hz1=> ?_) (fun c1 hz1=> ?_)))))))
 refine B0 (A8 (lr (fun u4 hu4=>sv rfl (sv rfl (sv rfl (sv rfl (sv rfl (A1 (lr (fun u5 hu5=>sv rfl (sv rfl (sv rfl (sv rfl (sv rfl (A1 (cc rfl hz1 (fun c2 hz1=> ?_) (fun c2 hz1=> ?_)))))))))))))))))
 refine E8 fun u6 hu6=>sv rfl (sv rfl (sv rfl (A1 (L8 (K4 ?_)))))
 cases hz1
 exact ⟨rfl,(),(sbr rfl rfl)⟩
 refine E8 fun u7 hu7=>sv rfl (sv rfl (A1 (L8 (K4 ?_))))
 cases hz1
 exact ⟨rfl,(),(sbr rfl rfl)⟩
 refine D8 rfl ?_
 cases hz1
 obtain rfl:=ez1 _ rfl
 refine ⟨nofun,C7 rfl (l_j ?_)⟩
 exact ⟨(),(sbr rfl rfl)⟩
 rintro _ ⟨g1,q1⟩
 refine B4 q1 (lr (fun u8 hu8=>sv rfl (sv rfl (sv rfl (sv rfl (sv rfl (sv rfl (sv rfl (sv rfl (A1 (B3 ?_)))))))))))
 cases h
 exact A7 (.inr rfl) (B33 (B6 rfl) (B6 rfl) G8 G8) (.refl _)
noncomputable def A3f (p1:Curve)(x1:(Int×CurveVector)):Option (Stp (Int×CurveVector) (Sum Unit Int)):=
  cond (decide (x1.1< (w64 ((p1.Pts.length:Int) - 1)))) ((G3 p1.Pts x1.1).bind fun v2=>(G3 p1.Pts (w64 (x1.1+1))).bind fun v3=>(A70 v2 v3).bind fun v4=>(W7 v4 v4).bind fun v5=>(A71 v5).bind fun v6=>cond (!v6.2) (some (.out (.inr 3))) (cond ((decide (v6.1<1000))||(decide (v6.1>1048576))) (some (.out (.inr 2))) (((cond (decide (x1.1>0)) (W7 x1.2 v4) (some default))).bind fun v7=>cond ((decide (x1.1>0))&& (decide (v7≤0))) (some (.out (.inr 12))) (some (.go ((w64 (x1.1+1)),v4)))))) (some (.out (.inl ())))
noncomputable def A5f (p1:Curve):Option Int:=
  cond (decide ((p1.Pts.length:Int)<2)) (some 6) (cond (decide ((p1.Pts.length:Int)>16)) (some 5) ((A9f p1.Pts).bind fun v1=>cond (!v1) (some 2) (thenS (loop (A3f p1) (0,(CurveVector.mk 0 0))) (fun _=>some 0) (fun r=>some r))))
theorem B20 (p1:Curve)(r:Int)(h:A5f p1=some r):PCall Tryz.prog 198 [(.agg [(.list (List.map A6c p1.Pts))])] (i64 r):=by
 refine B8 (fk Tryz.func198 Tryz.ntmps198 m0 (by with_unfolding_all rfl)) (nl rfl) ?_
 unfold A5f at h
 refine B4 (s0:=⟨T [(0,(.d _))],G []⟩) (sbr rfl rfl) ?_
 refine lr (fun u1 hu1=>sn rfl rfl (sv rfl (A1 (A6 (A8 (lr (fun u2 hu2=>sp rfl rfl (sl rfl G_hit rfl (sd rfl (L9 rfl) (sv rfl (sv rfl (A1 (cc rfl h (fun c1 h=> ?_) (fun c1 h=> ?_))))))))))))))
 refine lr (fun u3 hu3=>sv rfl (A1 (B3 ?_)))
 cases h
 exact A7 (.inr rfl) (B7 (B6 rfl) G8) (.refl _)
 refine lr (fun u4 hu4=>sp rfl rfl (sl rfl G_hit rfl (sd rfl (L9 rfl) (sv rfl (sv rfl (A1 (cc rfl h (fun c2 h=> ?_) (fun c2 h=> ?_))))))))
 refine lr (fun u5 hu5=>sv rfl (A1 (B3 ?_)))
 cases h
 exact A7 (.inr rfl) (B7 (B6 rfl) G8) (.refl _)
 refine lr (fun u6 hu6=>sp rfl rfl (sl rfl G_hit rfl (bs h fun v1 hv1 h=>B1 rfl rfl A2 (B7q _ _ hv1) (.inl rfl) (C9 (.d (bo (!v1))) rfl rfl (sv rfl (A1 (cc rfl h (fun c3 h=> ?_) (fun c3 h=> ?_))))))))
 refine lr (fun u7 hu7=>sv rfl (A1 (B3 ?_)))
 cases h
 exact A7 (.inr rfl) (B7 (B6 rfl) G8) (.refl _)
 refine B0 (L8 (lr (fun u8 hu8=>sn rfl rfl (A1 (A6 (lr (fun u9 hu9=>sp rfl rfl (sl rfl (gq rfl) rfl (sd rfl (L9 rfl) (sv rfl (sv rfl (A1 (js h fun z1 hz1 h=>I6 (fun s=> ∃(y1:Unit) (g1:Unit),z1= .inl y1∧Sb ⟨T [],G []⟩ s) ?_ ?_)))))))))))))
 refine A8 (J3 (A3f p1) (fun (x1:(Int×CurveVector)) (g2:Unit)=>⟨T [(1,(.ptr (1,u1) 0)),(3,(.ptr (3,u8) 0)),(26,(di (w64 ((p1.Pts.length:Int) - 1)))),(27,(di x1.1))],G [((1,u1),some (.box 61 [(dl A6c p1.Pts)])),((3,u8),some (.box 253 [(di x1.2.x),(di x1.2.y)]))]⟩) (0,(CurveVector.mk 0 0)) () _ hz1 (sbr rfl rfl) ?_)
 intro x1 g2 z2 hz2 ez2
 unfold A3f at hz2
 refine lr (fun u10 hu10=>sv rfl (A1 (A6 (cc rfl hz2 (fun c4 hz2=> ?_) (fun c4 hz2=> ?_)))))
 refine B0 (A6 (A8 (lr (fun u11 hu11=>sv rfl (sv rfl (A1 (A6 (M8 rfl fun u12 hu12=>sp rfl rfl (sl rfl G_hit rfl (sv rfl (bs hz2 fun v2 hv2 hz2=>sd rfl (K5 rfl rfl hv2 rfl) (sd rfl (E7 rfl hv2 rfl rfl) (sp rfl rfl (sl rfl G_hit rfl (sv rfl (sv rfl (bs hz2 fun v3 hv3 hz2=>sd rfl (K5 rfl rfl hv3 rfl) (sd rfl (E7 rfl hv3 rfl rfl) (bs hz2 fun v4 hv4 hz2=>B1 rfl rfl A2 (B3a _ _ _ hv4) (.inl rfl) (sn rfl rfl (sst rfl G_hit [(di v4.x),(di v4.y)] rfl (A1 (lr (fun u13 hu13=>sd rfl (B2 rfl G_hit rfl rfl) (sd rfl (B2 rfl G_hit rfl rfl) (bs hz2 fun v5 hv5 hz2=>B1 rfl rfl A2 (A3x _ _ _ hv5) (.inl rfl) (bs hz2 fun v6 hv6 hz2=>B1 rfl rfl A2 (B3b _ _ hv6) (.inl rfl) (sv rfl (sv rfl (sv rfl (sv rfl (sv rfl (A1 (A6 (A8 (lr (fun u14 hu14=>sv rfl (C9 (.d (bo (!v6.2))) rfl rfl (sv rfl (A1 (cc rfl hz2 (fun c5 hz2=> ?_) (fun c5 hz2=> ?_))))))))))))))))))))))))))))))))))))))))))
 refine lr (fun u15 hu15=>sv rfl (A1 (B3 ?_)))
 cases hz2
 obtain rfl:=ez2 _ rfl
 refine ⟨nofun,H8 ?_⟩
 rw [Sum.elim_inr]at h
 cases h
 exact A7 (.inr rfl) (B7 (B6 rfl) G8) (.refl _)
 refine lr (fun u16 hu16=>sv rfl (sv rfl (sv rfl (gf rfl (fun _=>rfl) (gf rfl (vb rfl rfl rfl) (sd rfl (A6a rfl rfl (fun hc=>A5 (W6 hc))) (sv rfl (A1 (cc rfl hz2 (fun c6 hz2=> ?_) (fun c6 hz2=> ?_))))))))))
 refine lr (fun u17 hu17=>sv rfl (A1 (B3 ?_)))
 cases hz2
 obtain rfl:=ez2 _ rfl
 refine ⟨nofun,H8 ?_⟩
 rw [Sum.elim_inr]at h
 cases h
 exact A7 (.inr rfl) (B7 (B6 rfl) G8) (.refl _)
 refine lr (fun u18 hu18=>sv rfl (sv rfl (sv rfl (gt rfl (fun w3=>(B2 rfl (gq rfl) rfl rfl)) (gt rfl (fun w4=>(B2 rfl G_hit rfl rfl)) (bs hz2 fun v7 hv7 hz2=> ?_))))))
 refine U4 _ (i64 v7) (Y4 rfl) (fun w5=>⟨_,[(.d (.agg [(i64 x1.2.x),(i64 x1.2.y)])),(.d (.agg [(i64 v4.x),(i64 v4.y)]))],_,_,(by simp only [A5 w5];rfl),rfl,A2,A3x _ _ _ (E2 w5 hv7),(.inl rfl)⟩) ?_
 refine gt rfl (vb rfl rfl rfl) (sa rfl rfl rfl (sv rfl (A1 (cc rfl hz2 (fun c7 hz2=> ?_) (fun c7 hz2=> ?_)))))
 refine lr (fun u19 hu19=>sv rfl (A1 (B3 ?_)))
 cases hz2
 obtain rfl:=ez2 _ rfl
 refine ⟨nofun,H8 ?_⟩
 rw [Sum.elim_inr]at h
 cases h
 exact A7 (.inr rfl) (B7 (B6 rfl) G8) (.refl _)
 refine B0 (L8 (E8 fun u20 hu20=>sd rfl (B2 rfl G_hit rfl rfl) (sst rfl (gq rfl) [(di v4.x),(di v4.y)] rfl (A1 (L8 (E8 fun u21 hu21=>sv rfl (sv rfl (A1 (K4 ?_)))))))))
 cases hz2
 exact ⟨rfl,(),(sbr rfl rfl)⟩
 refine D8 rfl ?_
 cases hz2
 obtain rfl:=ez2 _ rfl
 refine ⟨nofun,C7 rfl (l_j ?_)⟩
 exact ⟨_,(),rfl,(sbr rfl rfl)⟩
 rintro _ ⟨y1,g1,rfl,q1⟩
 rw [Sum.elim_inl]at h
 refine B4 q1 (lr (fun u22 hu22=>sv rfl (A1 (B3 ?_))))
 cases h
 exact A7 (.inr rfl) (B7 (B6 rfl) G8) (.refl _)
noncomputable def A26 (p1:(List Int))(p3:Int)(x1:(Int×Int)):Option (Stp (Int×Int) (Sum Unit Bool)):=
  cond (decide (x1.2< (p1.length:Int))) ((G3 p1 x1.2).bind fun v1=>cond ((decide (v1<x1.1))||(decide (v1≥p3))) (some (.out (.inr false))) (some (.go ((w64 (v1+1)),(w64 (x1.2+1)))))) (some (.out (.inl ())))
noncomputable def A27 (p1:(List Int))(p2:Int)(p3:Int):Option Bool:=
  thenS (loop (A26 p1 p3) (p2,0)) (fun _=>some true) (fun r=>some r)
theorem A7i (p1:(List Int))(p2:Int)(p3:Int)(r:Bool)(h:A27 p1 p2 p3=some r):PCall Tryz.prog 210 [(.list (List.map A4 p1)),(i64 p2),(i64 p3)] (bo r):=by
 refine B8 (fk Tryz.func210 Tryz.ntmps210 m0 (by with_unfolding_all rfl)) (nl rfl) ?_
 unfold A27 at h
 refine B4 (s0:=⟨T [(0,(.d _)),(1,(.d _)),(2,(.d _))],G []⟩) (sbr rfl rfl) ?_
 refine lr (fun u1 hu1=>sv rfl (A1 (A6 (lr (fun u2 hu2=>sv rfl (sd rfl (L9 rfl) (sv rfl (A1 (js h fun z1 hz1 h=>I6 (fun s=> ∃(y1:Unit) (g1:Unit),z1= .inl y1∧Sb ⟨T [],G []⟩ s) ?_ ?_)))))))))
 refine A8 (J3 (A26 p1 p3) (fun (x1:(Int×Int)) (g2:Unit)=>⟨T [(1,(di x1.1)),(2,(di p3)),(9,(dl A4 p1)),(10,(di (p1.length:Int))),(11,(di x1.2))],G []⟩) (p2,0) () _ hz1 (sbr rfl rfl) ?_)
 intro x1 g2 z2 hz2 ez2
 unfold A26 at hz2
 refine lr (fun u3 hu3=>sv rfl (A1 (A6 (cc rfl hz2 (fun c1 hz2=> ?_) (fun c1 hz2=> ?_)))))
 refine B0 (A6 (A8 (lr (fun u4 hu4=>bs hz2 fun v1 hv1 hz2=>sd rfl (K5 rfl rfl hv1 rfl) (sd rfl (M1 rfl hv1 rfl) (sv rfl (A1 (A6 (lr (fun u5 hu5=>sv rfl (sv rfl (sv rfl (sv rfl (gf rfl (fun _=>rfl) (gf rfl (fun _=>rfl) (gf rfl (fun w3=>(A1i (A5 w3) (A5 w3) rfl)) (sd rfl (A6a rfl rfl (fun hc=>A5 (W6 hc))) (A1 (cc rfl hz2 (fun c2 hz2=> ?_) (fun c2 hz2=> ?_))))))))))))))))))))
 refine lr (fun u6 hu6=>sv rfl (A1 (B3 ?_)))
 cases hz2
 obtain rfl:=ez2 _ rfl
 refine ⟨nofun,H8 ?_⟩
 rw [Sum.elim_inr]at h
 cases h
 exact A7 (.inr rfl) (B7 (B6 rfl) G8) (.refl _)
 refine B0 (E8 fun u7 hu7=>sv rfl (sv rfl (sv rfl (A1 (L8 (E8 fun u8 hu8=>sv rfl (sv rfl (A1 (K4 ?_)))))))))
 cases hz2
 exact ⟨rfl,(),(sbr rfl rfl)⟩
 refine D8 rfl ?_
 cases hz2
 obtain rfl:=ez2 _ rfl
 refine ⟨nofun,C7 rfl (l_j ?_)⟩
 exact ⟨_,(),rfl,(sbr rfl rfl)⟩
 rintro _ ⟨y1,g1,rfl,q1⟩
 rw [Sum.elim_inl]at h
 refine B4 q1 (lr (fun u9 hu9=>sv rfl (A1 (B3 ?_))))
 cases h
 exact A7 (.inr rfl) (B7 (B6 rfl) G8) (.refl _)
noncomputable def W8 (p1:RoadsCheck)(x1:Int):Option (Stp Int (Sum Unit Int)):=
  cond (decide (x1< (p1.Map_.Lanes.length:Int))) ((G3 p1.Map_.Lanes x1).bind fun v1=>(A17 v1.Kind).bind fun v2=>cond (v2.1==0) (some (.out (.inr 4))) ((A5f v1.Curve_).bind fun v3=>cond (v3 !=0) (some (.out (.inr v3))) ((X7 v1.Half 200 4000).bind fun v4=>((cond (!(!v4)) (X7 v1.Limit 1 v2.1) (some default))).bind fun v5=>cond ((!v4)||(!v5)) (some (.out (.inr 2))) (cond (decide ((v1.Next.length:Int)>3)) (some (.out (.inr 8))) ((A27 v1.Next (w64 (x1+1)) (p1.Map_.Lanes.length:Int)).bind fun v6=>cond (!v6) (some (.out (.inr 11))) (some (.go (w64 (x1+1))))))))) (some (.out (.inl ())))
noncomputable def A0u (p1:RoadsCheck):Option Int:=
  thenS (loop (W8 p1) 0) (fun _=>some 0) (fun r=>some r)
theorem B1o (p1:RoadsCheck)(r:Int)(h:A0u p1=some r):PCall Tryz.prog 149 [(.agg (A5o p1.Map_))] (i64 r):=by
 refine B8 (fk Tryz.func149 Tryz.ntmps149 m0 (by with_unfolding_all rfl)) (nl rfl) ?_
 unfold A0u at h
 refine B4 (s0:=⟨T [(0,(.d _))],G []⟩) (sbr rfl rfl) ?_
 refine lr (fun u1 hu1=>sn rfl rfl (sv rfl (A1 (A6 (lr (fun u2 hu2=>sp rfl rfl (sp rfl rfl (sl rfl G_hit rfl (sd rfl (L9 rfl) (sv rfl (A1 (js h fun z1 hz1 h=>I6 (fun s=> ∃(y1:Unit) (g1:Unit),z1= .inl y1∧Sb ⟨T [],G []⟩ s) ?_ ?_))))))))))))
 refine A8 (J3 (W8 p1) (fun (x1:Int) (g2:Unit)=>⟨T [(1,(.ptr (1,u1) 0)),(11,(dl B1n p1.Map_.Lanes)),(12,(di (p1.Map_.Lanes.length:Int))),(13,(di x1))],G [((1,u1),some (.box 212 (A14 p1.Map_)))]⟩) 0 () _ hz1 (sbr rfl rfl) ?_)
 intro x1 g2 z2 hz2 ez2
 unfold W8 at hz2
 refine lr (fun u3 hu3=>sv rfl (A1 (A6 (cc rfl hz2 (fun c1 hz2=> ?_) (fun c1 hz2=> ?_)))))
 refine B0 (A6 (A8 (lr (fun u4 hu4=>sv rfl (bs hz2 fun v1 hv1 hz2=>sd rfl (K5 rfl rfl hv1 rfl) (sd rfl (E7 rfl hv1 rfl rfl) (sn rfl rfl (sv rfl (sst rfl G_hit (C5v v1) rfl (A1 (lr (fun u5 hu5=>sp rfl rfl (sl rfl G_hit rfl (bs hz2 fun v2 hv2 hz2=>B1 rfl rfl A2 (A4k _ _ hv2) (.inl rfl) (sv rfl (sv rfl (sv rfl (sv rfl (sv rfl (sv rfl (sv rfl (A1 (A6 (lr (fun u6 hu6=>sv rfl (sv rfl (A1 (cc rfl hz2 (fun c2 hz2=> ?_) (fun c2 hz2=> ?_)))))))))))))))))))))))))))))
 refine lr (fun u7 hu7=>sv rfl (A1 (B3 ?_)))
 cases hz2
 obtain rfl:=ez2 _ rfl
 refine ⟨nofun,H8 ?_⟩
 rw [Sum.elim_inr]at h
 cases h
 exact A7 (.inr rfl) (B7 (B6 rfl) G8) (.refl _)
 refine B0 (A6 (lr (fun u8 hu8=>sp rfl rfl (sd rfl (B2 rfl G_hit rfl rfl) (bs hz2 fun v3 hv3 hz2=>B1 rfl rfl A2 (B20 _ _ hv3) (.inl rfl) (sv rfl (A1 (lr (fun u9 hu9=>sv rfl (sv rfl (A1 (cc rfl hz2 (fun c3 hz2=> ?_) (fun c3 hz2=> ?_)))))))))))))
 refine lr (fun u10 hu10=>sv rfl (sv rfl (A1 (B3 ?_))))
 cases hz2
 obtain rfl:=ez2 _ rfl
 refine ⟨nofun,H8 ?_⟩
 rw [Sum.elim_inr]at h
 cases h
 exact A7 (.inr rfl) (B7 (B6 rfl) G8) (.refl _)
 refine B0 (A8 (lr (fun u11 hu11=>sp rfl rfl (sl rfl G_hit rfl (bs hz2 fun v4 hv4 hz2=>B1 rfl rfl A2 (A0t _ _ _ _ hv4) (.inl rfl) (C9 (.d (bo (!v4))) rfl rfl (sv rfl (gp rfl (A2t rfl) (fun _=>rfl) (gf rfl (vl rfl G_hit rfl) (gf rfl (fun _=>rfl) (bs hz2 fun v5 hv5 hz2=> ?_)))))))))))
 refine U4 _ (bo v5) (A2t rfl) (fun w4=>⟨_,[(di v1.Limit),(di 1),(di v2.1)],_,_,(by simp only [A5 w4];rfl),rfl,A2,A0t _ _ _ _ (E2 w4 hv5),(.inl rfl)⟩) ?_
 refine Z4 _ (.d (bo (!v5))) rfl (A2t rfl) (fun w5=>(by simp only [A5 w5];rfl)) ?_
 refine sd rfl (A6a rfl rfl (fun hc=>A5 (W6 hc))) (sv rfl (A1 (cc rfl hz2 (fun c4 hz2=> ?_) (fun c4 hz2=> ?_))))
 refine lr (fun u12 hu12=>sv rfl (A1 (B3 ?_)))
 cases hz2
 obtain rfl:=ez2 _ rfl
 refine ⟨nofun,H8 ?_⟩
 rw [Sum.elim_inr]at h
 cases h
 exact A7 (.inr rfl) (B7 (B6 rfl) G8) (.refl _)
 refine lr (fun u13 hu13=>sp rfl rfl (sl rfl G_hit rfl (sd rfl (L9 rfl) (sv rfl (sv rfl (A1 (cc rfl hz2 (fun c5 hz2=> ?_) (fun c5 hz2=> ?_))))))))
 refine lr (fun u14 hu14=>sv rfl (A1 (B3 ?_)))
 cases hz2
 obtain rfl:=ez2 _ rfl
 refine ⟨nofun,H8 ?_⟩
 rw [Sum.elim_inr]at h
 cases h
 exact A7 (.inr rfl) (B7 (B6 rfl) G8) (.refl _)
 refine lr (fun u15 hu15=>sp rfl rfl (sl rfl G_hit rfl (sv rfl (sv rfl (sp rfl rfl (sp rfl rfl (sl rfl (gq rfl) rfl (sd rfl (L9 rfl) (bs hz2 fun v6 hv6 hz2=>B1 rfl rfl A2 (A7i _ _ _ _ hv6) (.inl rfl) (C9 (.d (bo (!v6))) rfl rfl (sv rfl (A1 (cc rfl hz2 (fun c6 hz2=> ?_) (fun c6 hz2=> ?_))))))))))))))
 refine lr (fun u16 hu16=>sv rfl (A1 (B3 ?_)))
 cases hz2
 obtain rfl:=ez2 _ rfl
 refine ⟨nofun,H8 ?_⟩
 rw [Sum.elim_inr]at h
 cases h
 exact A7 (.inr rfl) (B7 (B6 rfl) G8) (.refl _)
 refine B0 (L8 (L8 (E8 fun u17 hu17=>sv rfl (sv rfl (A1 (K4 ?_))))))
 cases hz2
 exact ⟨rfl,(),(sbr rfl rfl)⟩
 refine D8 rfl ?_
 cases hz2
 obtain rfl:=ez2 _ rfl
 refine ⟨nofun,C7 rfl (l_j ?_)⟩
 exact ⟨_,(),rfl,(sbr rfl rfl)⟩
 rintro _ ⟨y1,g1,rfl,q1⟩
 rw [Sum.elim_inl]at h
 refine B4 q1 (lr (fun u18 hu18=>sv rfl (A1 (B3 ?_))))
 cases h
 exact A7 (.inr rfl) (B7 (B6 rfl) G8) (.refl _)
noncomputable def V2 (p1:RoadsCheck)(v1:Lane)(v2:Spot)(x2:Int):Option (Stp Int (Sum Unit Int)):=
  cond (decide (x2< (v1.Next.length:Int))) ((G3 v1.Next x2).bind fun v3=>(G3 p1.Map_.Lanes v3).bind fun v4=>cond (v4.Kind !=v1.Kind) (some (.out (.inr 4))) ((G3 p1.Map_.Lanes v3).bind fun v5=>(G3 v5.Curve_.Pts 0).bind fun v6=>cond (!(v6.X==v2.X&& (v6.Y==v2.Y&&true))) (some (.out (.inr 3))) (some (.go (w64 (x2+1)))))) (some (.out (.inl ())))
noncomputable def V3 (p1:RoadsCheck)(x1:Int):Option (Stp Int (Sum Unit Int)):=
  cond (decide (x1< (p1.Map_.Lanes.length:Int))) ((G3 p1.Map_.Lanes x1).bind fun v1=>(G3 v1.Curve_.Pts (w64 ((v1.Curve_.Pts.length:Int) - 1))).bind fun v2=>thenS (loop (V2 p1 v1 v2) 0) (fun _=>some (.go (w64 (x1+1)))) (fun r=>some (.out (.inr r)))) (some (.out (.inl ())))
noncomputable def A0b (p1:RoadsCheck):Option Int:=
  thenS (loop (V3 p1) 0) (fun _=>some 0) (fun r=>some r)
theorem B10 (p1:RoadsCheck)(r:Int)(h:A0b p1=some r):PCall Tryz.prog 150 [(.agg (A5o p1.Map_))] (i64 r):=by
 refine B8 (fk Tryz.func150 Tryz.ntmps150 m0 (by with_unfolding_all rfl)) (nl rfl) ?_
 unfold A0b at h
 refine B4 (s0:=⟨T [(0,(.d _))],G []⟩) (sbr rfl rfl) ?_
 refine lr (fun u1 hu1=>sn rfl rfl (sv rfl (A1 (A6 (lr (fun u2 hu2=>sp rfl rfl (sp rfl rfl (sl rfl G_hit rfl (sd rfl (L9 rfl) (sv rfl (A1 (js h fun z1 hz1 h=>I6 (fun s=> ∃(y1:Unit) (g1:Unit),z1= .inl y1∧Sb ⟨T [],G []⟩ s) ?_ ?_))))))))))))
 refine A8 (J3 (V3 p1) (fun (x1:Int) (g2:Unit)=>⟨T [(1,(.ptr (1,u1) 0)),(10,(dl B1n p1.Map_.Lanes)),(11,(di (p1.Map_.Lanes.length:Int))),(12,(di x1))],G [((1,u1),some (.box 212 (A14 p1.Map_)))]⟩) 0 () _ hz1 (sbr rfl rfl) ?_)
 intro x1 g2 z2 hz2 ez2
 unfold V3 at hz2
 refine lr (fun u3 hu3=>sv rfl (A1 (A6 (cc rfl hz2 (fun c1 hz2=> ?_) (fun c1 hz2=> ?_)))))
 refine B0 (A6 (A8 (lr (fun u4 hu4=>bs hz2 fun v1 hv1 hz2=>sd rfl (K5 rfl rfl hv1 rfl) (sd rfl (E7 rfl hv1 rfl rfl) (sn rfl rfl (sst rfl G_hit (C5v v1) rfl (A1 (lr (fun u5 hu5=>sp rfl rfl (sp rfl rfl (sl rfl G_hit rfl (sp rfl rfl (sp rfl rfl (sl rfl G_hit rfl (sd rfl (L9 rfl) (sv rfl (bs hz2 fun v2 hv2 hz2=>sd rfl (K5 rfl rfl hv2 rfl) (sd rfl (E7 rfl hv2 rfl rfl) (sn rfl rfl (sst rfl G_hit [(di v2.X),(di v2.Y)] rfl (A1 (lr (fun u6 hu6=>sp rfl rfl (sl rfl (gq rfl) rfl (sd rfl (L9 rfl) (sv rfl (A1 (js hz2 fun z3 hz3 hz2=>I6 (fun s=> ∃(y2:Unit) (g3:Unit),z3= .inl y2∧Sb ⟨T [(1,(.ptr (1,u1) 0)),(10,(dl B1n p1.Map_.Lanes)),(11,(di (p1.Map_.Lanes.length:Int))),(12,(di x1))],G [((1,u1),some (.box 212 (A14 p1.Map_)))]⟩ s) ?_ ?_)))))))))))))))))))))))))))))
 refine A8 (J3 (V2 p1 v1 v2) (fun (x2:Int) (g4:Unit)=>⟨T [(1,(.ptr (1,u1) 0)),(4,(.ptr (4,u4) 0)),(5,(.ptr (5,u5) 0)),(10,(dl B1n p1.Map_.Lanes)),(11,(di (p1.Map_.Lanes.length:Int))),(12,(di x1)),(27,(dl A4 v1.Next)),(28,(di (v1.Next.length:Int))),(29,(di x2))],G [((1,u1),some (.box 212 (A14 p1.Map_))),((4,u4),some (.box 63 (C5v v1))),((5,u5),some (.box 104 [(di v2.X),(di v2.Y)]))]⟩) 0 () _ hz3 (sbr rfl rfl) ?_)
 intro x2 g4 z4 hz4 ez4
 unfold V2 at hz4
 refine lr (fun u7 hu7=>sv rfl (A1 (A6 (cc rfl hz4 (fun c2 hz4=> ?_) (fun c2 hz4=> ?_)))))
 refine B0 (A6 (A8 (lr (fun u8 hu8=>bs hz4 fun v3 hv3 hz4=>sd rfl (K5 rfl rfl hv3 rfl) (sd rfl (M1 rfl hv3 rfl) (sv rfl (A1 (A6 (A6 (M8 rfl fun u9 hu9=>sp rfl rfl (sp rfl rfl (sl rfl G_hit rfl (sv rfl (bs hz4 fun v4 hv4 hz4=>sd rfl (K5 rfl rfl hv4 rfl) (sv rfl (sd rfl (M1 rfl hv4 rfl) (sp rfl rfl (sl rfl (gq rfl) rfl (sv rfl (A1 (cc rfl hz4 (fun c3 hz4=> ?_) (fun c3 hz4=> ?_))))))))))))))))))))))
 refine lr (fun u10 hu10=>sv rfl (A1 (B3 ?_)))
 cases hz4
 obtain rfl:=ez4 _ rfl
 refine ⟨nofun,H8 ?_⟩
 rw [Sum.elim_inr]at hz2
 cases hz2
 obtain rfl:=ez2 _ rfl
 refine ⟨nofun,H8 ?_⟩
 rw [Sum.elim_inr]at h
 cases h
 exact A7 (.inr rfl) (B7 (B6 rfl) G8) (.refl _)
 refine B0 (A6 (M8 rfl fun u11 hu11=>sp rfl rfl (sp rfl rfl (sl rfl G_hit rfl (sv rfl (bs hz4 fun v5 hv5 hz4=>sd rfl (K5 rfl rfl hv5 rfl) (sv rfl (sv rfl (sd rfl (M1 rfl hv5 rfl) (bs hz4 fun v6 hv6 hz4=>sd rfl (K5 rfl rfl hv6 rfl) (sd rfl (E7 rfl hv6 rfl rfl) (sd rfl (B2 rfl (gq rfl) rfl rfl) (C9 (.d (bo (!(v6.X==v2.X&& (v6.Y==v2.Y&&true))))) rfl rfl (A1 (cc rfl hz4 (fun c4 hz4=> ?_) (fun c4 hz4=> ?_))))))))))))))))
 refine lr (fun u12 hu12=>sv rfl (A1 (B3 ?_)))
 cases hz4
 obtain rfl:=ez4 _ rfl
 refine ⟨nofun,H8 ?_⟩
 rw [Sum.elim_inr]at hz2
 cases hz2
 obtain rfl:=ez2 _ rfl
 refine ⟨nofun,H8 ?_⟩
 rw [Sum.elim_inr]at h
 cases h
 exact A7 (.inr rfl) (B7 (B6 rfl) G8) (.refl _)
 refine B0 (L8 (E8 fun u13 hu13=>sv rfl (sv rfl (A1 (K4 ?_)))))
 cases hz4
 exact ⟨rfl,(),(sbr rfl rfl)⟩
 refine D8 rfl ?_
 cases hz4
 obtain rfl:=ez4 _ rfl
 refine ⟨nofun,C7 rfl (l_j ?_)⟩
 exact ⟨_,(),rfl,(sbr rfl rfl)⟩
 rintro _ ⟨y2,g3,rfl,q1⟩
 rw [Sum.elim_inl]at hz2
 refine L8 (B4 q1 (E8 fun u14 hu14=>sv rfl (sv rfl (A1 (K4 ?_)))))
 cases hz2
 exact ⟨rfl,(),(sbr rfl rfl)⟩
 refine D8 rfl ?_
 cases hz2
 obtain rfl:=ez2 _ rfl
 refine ⟨nofun,C7 rfl (l_j ?_)⟩
 exact ⟨_,(),rfl,(sbr rfl rfl)⟩
 rintro _ ⟨y1,g1,rfl,q2⟩
 rw [Sum.elim_inl]at h
 refine B4 q2 (lr (fun u15 hu15=>sv rfl (A1 (B3 ?_))))
 cases h
 exact A7 (.inr rfl) (B7 (B6 rfl) G8) (.refl _)
noncomputable def V4 (p1:Phase):Option Bool:=
  (X7 p1.Ticks 1 10000).bind fun v1=>some (!v1)
theorem A9g (p1:Phase)(r:Bool)(h:V4 p1=some r):PCall Tryz.prog 212 [(.agg [(i64 p1.Ticks),(.list (List.map A4 p1.Green))])] (bo r):=by
 refine B8 (fk Tryz.func212 Tryz.ntmps212 m0 (by with_unfolding_all rfl)) (nl rfl) ?_
 unfold V4 at h
 refine B4 (s0:=⟨T [(0,(.d _))],G []⟩) (sbr rfl rfl) ?_
 refine lr (fun u1 hu1=>sn rfl rfl (sv rfl (A1 (lr (fun u2 hu2=>sp rfl rfl (sl rfl G_hit rfl (bs h fun v1 hv1 h=>B1 rfl rfl A2 (A0t _ _ _ _ hv1) (.inl rfl) (C9 (.d (bo (!v1))) rfl rfl (sv rfl (A1 (B3 ?_)))))))))))
 cases h
 exact A7 (.inr rfl) (B7 (B6 rfl) G8) (.refl _)
noncomputable def D0 (p1:(List Phase))(x1:Int):Option (Stp Int (Sum Unit Int)):=
  cond (decide (x1< (p1.length:Int))) ((G3 p1 x1).bind fun v1=>(V4 v1).bind fun v2=>cond v2 (some (.out (.inr x1))) (some (.go (w64 (x1+1))))) (some (.out (.inl ())))
noncomputable def E1 (p1:(List Phase)):Option Int:=
  thenS (loop (D0 p1) 0) (fun _=>some (-1)) (fun r=>some r)
theorem X5 (p1:(List Phase))(r:Int)(h:E1 p1=some r):PCall Tryz.prog 243 [(.list (List.map A7d p1)),(.fn (.func 212) [] [])] (i64 r):=by
 refine B8 (fk Tryz.func243 Tryz.ntmps243 m0 (by with_unfolding_all rfl)) (nl rfl) ?_
 unfold E1 at h
 refine B4 (s0:=⟨T [(0,(.d _)),(1,(.d _))],G []⟩) (sbr rfl rfl) ?_
 refine lr (fun u1 hu1=>sv rfl (A1 (A6 (lr (fun u2 hu2=>sv rfl (sd rfl (L9 rfl) (sv rfl (A1 (js h fun z1 hz1 h=>I6 (fun s=> ∃(y1:Unit) (g1:Unit),z1= .inl y1∧Sb ⟨T [],G []⟩ s) ?_ ?_)))))))))
 refine A8 (J3 (D0 p1) (fun (x1:Int) (g2:Unit)=>⟨T [(0,(dl A7d p1)),(1,(.d (.fn (.func 212) [] []))),(7,(di (p1.length:Int))),(8,(di x1))],G []⟩) 0 () _ hz1 (sbr rfl rfl) ?_)
 intro x1 g2 z2 hz2 ez2
 unfold D0 at hz2
 refine lr (fun u3 hu3=>sv rfl (A1 (A6 (cc rfl hz2 (fun c1 hz2=> ?_) (fun c1 hz2=> ?_)))))
 refine B0 (A6 (A8 (lr (fun u4 hu4=>sv rfl (sv rfl (A1 (lr (fun u5 hu5=>sv rfl (sv rfl (sv rfl (bs hz2 fun v1 hv1 hz2=>sd rfl (K5 rfl rfl hv1 rfl) (sd rfl (E7 rfl hv1 rfl rfl) (bs hz2 fun v2 hv2 hz2=>B1 rfl rfl A2 (A9g _ _ hv2) (.inl rfl) (A1 (cc rfl hz2 (fun c2 hz2=> ?_) (fun c2 hz2=> ?_))))))))))))))))
 refine lr (fun u6 hu6=>sv rfl (sv rfl (A1 (B3 ?_))))
 cases hz2
 obtain rfl:=ez2 _ rfl
 refine ⟨nofun,H8 ?_⟩
 rw [Sum.elim_inr]at h
 cases h
 exact A7 (.inr rfl) (B7 (B6 rfl) G8) (.refl _)
 refine B0 (L8 (E8 fun u7 hu7=>sv rfl (sv rfl (A1 (K4 ?_)))))
 cases hz2
 exact ⟨rfl,(),(sbr rfl rfl)⟩
 refine D8 rfl ?_
 cases hz2
 obtain rfl:=ez2 _ rfl
 refine ⟨nofun,C7 rfl (l_j ?_)⟩
 exact ⟨_,(),rfl,(sbr rfl rfl)⟩
 rintro _ ⟨y1,g1,rfl,q1⟩
 rw [Sum.elim_inl]at h
 refine B4 q1 (lr (fun u8 hu8=>sv rfl (A1 (B3 ?_))))
 cases h
 exact A7 (.inr rfl) (B7 (B6 rfl) G8) (.refl _)
noncomputable def D1 (p1:(List Phase)):Option Bool:=
  (E1 p1).bind fun v1=>some (decide (v1≥0))
theorem W2 (p1:(List Phase))(r:Bool)(h:D1 p1=some r):PCall Tryz.prog 211 [(.list (List.map A7d p1)),(.fn (.func 212) [] [])] (bo r):=by
 refine B8 (fk Tryz.func211 Tryz.ntmps211 m0 (by with_unfolding_all rfl)) (nl rfl) ?_
 unfold D1 at h
 refine B4 (s0:=⟨T [(0,(.d _)),(1,(.d _))],G []⟩) (sbr rfl rfl) ?_
 refine lr (fun u1 hu1=>sv rfl (A1 (lr (fun u2 hu2=>sv rfl (sv rfl (bs h fun v1 hv1 h=>B1 rfl rfl A2 (X5 _ _ hv1) (.inl rfl) (sv rfl (sv rfl (A1 (B3 ?_))))))))))
 cases h
 exact A7 (.inr rfl) (B7 (B6 rfl) G8) (.refl _)
noncomputable def T8 (p1:Phase)(p2:RoadsCheck):Option Bool:=
  (A27 p1.Green 0 (p2.Map_.Lanes.length:Int)).bind fun v1=>some (!v1)
theorem A8c (p1:Phase)(p2:RoadsCheck)(r:Bool)(h:T8 p1 p2=some r):PCall Tryz.prog 213 [(.agg [(i64 p1.Ticks),(.list (List.map A4 p1.Green))]),(.bp (A5o p2.Map_) 0)] (bo r):=by
 refine B8 (fk Tryz.func213 Tryz.ntmps213 m0 (by with_unfolding_all rfl)) (nl rfl) ?_
 unfold T8 at h
 refine B4 (s0:=⟨T [(0,(.d _)),(1,(.d _))],G []⟩) (sbr rfl rfl) ?_
 refine lr (fun u1 hu1=>sn rfl rfl (sv rfl (A1 (lr (fun u2 hu2=>sp rfl rfl (sl rfl G_hit rfl (sv rfl (sv rfl (sv rfl (sd rfl (L9 rfl) (bs h fun v1 hv1 h=>B1 rfl rfl A2 (A7i _ _ _ _ hv1) (.inl rfl) (C9 (.d (bo (!v1))) rfl rfl (sv rfl (A1 (B3 ?_)))))))))))))))
 cases h
 exact A7 (.inr rfl) (B7 (B6 rfl) G8) (.refl _)
noncomputable def C5 (p1:(List Phase))(p2:RoadsCheck)(x1:Int):Option (Stp Int (Sum Unit Int)):=
  cond (decide (x1< (p1.length:Int))) ((G3 p1 x1).bind fun v1=>(T8 v1 p2).bind fun v2=>cond v2 (some (.out (.inr x1))) (some (.go (w64 (x1+1))))) (some (.out (.inl ())))
noncomputable def D9 (p1:(List Phase))(p2:RoadsCheck):Option Int:=
  thenS (loop (C5 p1 p2) 0) (fun _=>some (-1)) (fun r=>some r)
theorem W9 (p1:(List Phase))(p2:RoadsCheck)(r:Int)(h:D9 p1 p2=some r):PCall Tryz.prog 243 [(.list (List.map A7d p1)),(.fn (.func 213) [] [(.bp (A5o p2.Map_) 0)])] (i64 r):=by
 refine B8 (fk Tryz.func243 Tryz.ntmps243 m0 (by with_unfolding_all rfl)) (nl rfl) ?_
 unfold D9 at h
 refine B4 (s0:=⟨T [(0,(.d _)),(1,(.d _))],G []⟩) (sbr rfl rfl) ?_
 refine lr (fun u1 hu1=>sv rfl (A1 (A6 (lr (fun u2 hu2=>sv rfl (sd rfl (L9 rfl) (sv rfl (A1 (js h fun z1 hz1 h=>I6 (fun s=> ∃(y1:Unit) (g1:Unit),z1= .inl y1∧Sb ⟨T [],G []⟩ s) ?_ ?_)))))))))
 refine A8 (J3 (C5 p1 p2) (fun (x1:Int) (g2:Unit)=>⟨T [(0,(dl A7d p1)),(1,(.d (.fn (.func 213) [] [(.bp (A5o p2.Map_) 0)]))),(7,(di (p1.length:Int))),(8,(di x1))],G []⟩) 0 () _ hz1 (sbr rfl rfl) ?_)
 intro x1 g2 z2 hz2 ez2
 unfold C5 at hz2
 refine lr (fun u3 hu3=>sv rfl (A1 (A6 (cc rfl hz2 (fun c1 hz2=> ?_) (fun c1 hz2=> ?_)))))
 refine B0 (A6 (A8 (lr (fun u4 hu4=>sv rfl (sv rfl (A1 (lr (fun u5 hu5=>sv rfl (sv rfl (sv rfl (bs hz2 fun v1 hv1 hz2=>sd rfl (K5 rfl rfl hv1 rfl) (sd rfl (E7 rfl hv1 rfl rfl) (bs hz2 fun v2 hv2 hz2=>B1 rfl rfl A2 (A8c _ _ _ hv2) (.inl rfl) (A1 (cc rfl hz2 (fun c2 hz2=> ?_) (fun c2 hz2=> ?_))))))))))))))))
 refine lr (fun u6 hu6=>sv rfl (sv rfl (A1 (B3 ?_))))
 cases hz2
 obtain rfl:=ez2 _ rfl
 refine ⟨nofun,H8 ?_⟩
 rw [Sum.elim_inr]at h
 cases h
 exact A7 (.inr rfl) (B7 (B6 rfl) G8) (.refl _)
 refine B0 (L8 (E8 fun u7 hu7=>sv rfl (sv rfl (A1 (K4 ?_)))))
 cases hz2
 exact ⟨rfl,(),(sbr rfl rfl)⟩
 refine D8 rfl ?_
 cases hz2
 obtain rfl:=ez2 _ rfl
 refine ⟨nofun,C7 rfl (l_j ?_)⟩
 exact ⟨_,(),rfl,(sbr rfl rfl)⟩
 rintro _ ⟨y1,g1,rfl,q1⟩
 rw [Sum.elim_inl]at h
 refine B4 q1 (lr (fun u8 hu8=>sv rfl (A1 (B3 ?_))))
 cases h
 exact A7 (.inr rfl) (B7 (B6 rfl) G8) (.refl _)
noncomputable def C6 (p1:(List Phase))(p2:RoadsCheck):Option Bool:=
  (D9 p1 p2).bind fun v1=>some (decide (v1≥0))
theorem V5 (p1:(List Phase))(p2:RoadsCheck)(r:Bool)(h:C6 p1 p2=some r):PCall Tryz.prog 211 [(.list (List.map A7d p1)),(.fn (.func 213) [] [(.bp (A5o p2.Map_) 0)])] (bo r):=by
 refine B8 (fk Tryz.func211 Tryz.ntmps211 m0 (by with_unfolding_all rfl)) (nl rfl) ?_
 unfold C6 at h
 refine B4 (s0:=⟨T [(0,(.d _)),(1,(.d _))],G []⟩) (sbr rfl rfl) ?_
 refine lr (fun u1 hu1=>sv rfl (A1 (lr (fun u2 hu2=>sv rfl (sv rfl (bs h fun v1 hv1 h=>B1 rfl rfl A2 (W9 _ _ _ hv1) (.inl rfl) (sv rfl (sv rfl (A1 (B3 ?_))))))))))
 cases h
 exact A7 (.inr rfl) (B7 (B6 rfl) G8) (.refl _)
noncomputable def U5 (p1:RoadsCheck)(x1:Int):Option (Stp Int (Sum Unit Int)):=
  cond (decide (x1< (p1.Map_.Signals.length:Int))) ((G3 p1.Map_.Signals x1).bind fun v1=>cond ((v1.Phases.length:Int)==0) (some (.out (.inr 6))) (cond (decide ((v1.Phases.length:Int)>6)) (some (.out (.inr 8))) ((X7 v1.Offset 0 1099511627776).bind fun v2=>cond (!v2) (some (.out (.inr 2))) ((D1 v1.Phases).bind fun v3=>cond v3 (some (.out (.inr 2))) ((C6 v1.Phases p1).bind fun v4=>cond v4 (some (.out (.inr 11))) (some (.go (w64 (x1+1))))))))) (some (.out (.inl ())))
noncomputable def Y7 (p1:RoadsCheck):Option Int:=
  thenS (loop (U5 p1) 0) (fun _=>some 0) (fun r=>some r)
theorem B0p (p1:RoadsCheck)(r:Int)(h:Y7 p1=some r):PCall Tryz.prog 151 [(.agg (A5o p1.Map_))] (i64 r):=by
 refine B8 (fk Tryz.func151 Tryz.ntmps151 m0 (by with_unfolding_all rfl)) (nl rfl) ?_
 unfold Y7 at h
 refine B4 (s0:=⟨T [(0,(.d _))],G []⟩) (sbr rfl rfl) ?_
 refine lr (fun u1 hu1=>sn rfl rfl (sv rfl (A1 (A6 (lr (fun u2 hu2=>sp rfl rfl (sp rfl rfl (sl rfl G_hit rfl (sd rfl (L9 rfl) (sv rfl (A1 (js h fun z1 hz1 h=>I6 (fun s=> ∃(y1:Unit) (g1:Unit),z1= .inl y1∧Sb ⟨T [],G []⟩ s) ?_ ?_))))))))))))
 refine A8 (J3 (U5 p1) (fun (x1:Int) (g2:Unit)=>⟨T [(1,(.ptr (1,u1) 0)),(8,(dl B0y p1.Map_.Signals)),(9,(di (p1.Map_.Signals.length:Int))),(10,(di x1))],G [((1,u1),some (.box 212 (A14 p1.Map_)))]⟩) 0 () _ hz1 (sbr rfl rfl) ?_)
 intro x1 g2 z2 hz2 ez2
 unfold U5 at hz2
 refine lr (fun u3 hu3=>sv rfl (A1 (A6 (cc rfl hz2 (fun c1 hz2=> ?_) (fun c1 hz2=> ?_)))))
 refine B0 (A6 (A8 (lr (fun u4 hu4=>bs hz2 fun v1 hv1 hz2=>sd rfl (K5 rfl rfl hv1 rfl) (sd rfl (E7 rfl hv1 rfl rfl) (sn rfl rfl (sst rfl G_hit [(di v1.Offset),(dl A7d v1.Phases)] rfl (A1 (lr (fun u5 hu5=>sp rfl rfl (sl rfl G_hit rfl (sd rfl (L9 rfl) (sv rfl (A1 (A8 (lr (fun u6 hu6=>sv rfl (sv rfl (sv rfl (A1 (cc rfl hz2 (fun c2 hz2=> ?_) (fun c2 hz2=> ?_))))))))))))))))))))))
 refine lr (fun u7 hu7=>sv rfl (A1 (B3 ?_)))
 cases hz2
 obtain rfl:=ez2 _ rfl
 refine ⟨nofun,H8 ?_⟩
 rw [Sum.elim_inr]at h
 cases h
 exact A7 (.inr rfl) (B7 (B6 rfl) G8) (.refl _)
 refine lr (fun u8 hu8=>sv rfl (sv rfl (sv rfl (A1 (cc rfl hz2 (fun c3 hz2=> ?_) (fun c3 hz2=> ?_))))))
 refine lr (fun u9 hu9=>sv rfl (A1 (B3 ?_)))
 cases hz2
 obtain rfl:=ez2 _ rfl
 refine ⟨nofun,H8 ?_⟩
 rw [Sum.elim_inr]at h
 cases h
 exact A7 (.inr rfl) (B7 (B6 rfl) G8) (.refl _)
 refine lr (fun u10 hu10=>sp rfl rfl (sl rfl G_hit rfl (bs hz2 fun v2 hv2 hz2=>B1 rfl rfl A2 (A0t _ _ _ _ hv2) (.inl rfl) (C9 (.d (bo (!v2))) rfl rfl (sv rfl (A1 (cc rfl hz2 (fun c4 hz2=> ?_) (fun c4 hz2=> ?_))))))))
 refine lr (fun u11 hu11=>sv rfl (A1 (B3 ?_)))
 cases hz2
 obtain rfl:=ez2 _ rfl
 refine ⟨nofun,H8 ?_⟩
 rw [Sum.elim_inr]at h
 cases h
 exact A7 (.inr rfl) (B7 (B6 rfl) G8) (.refl _)
 refine lr (fun u12 hu12=>sp rfl rfl (sl rfl G_hit rfl (bs hz2 fun v3 hv3 hz2=>B1 rfl rfl A2 (W2 _ _ hv3) (.inl rfl) (sv rfl (A1 (cc rfl hz2 (fun c5 hz2=> ?_) (fun c5 hz2=> ?_)))))))
 refine lr (fun u13 hu13=>sv rfl (A1 (B3 ?_)))
 cases hz2
 obtain rfl:=ez2 _ rfl
 refine ⟨nofun,H8 ?_⟩
 rw [Sum.elim_inr]at h
 cases h
 exact A7 (.inr rfl) (B7 (B6 rfl) G8) (.refl _)
 refine lr (fun u14 hu14=>sp rfl rfl (sl rfl G_hit rfl (C9 (.fn _ _ _) rfl rfl (bs hz2 fun v4 hv4 hz2=>B1 rfl (rD (C0 (B67 D3 (C0 (A0q (gq rfl) (rD (rD (rD (rD (rD D3)))))) D3)) D3)) A2 (V5 _ _ _ hv4) (.inr rfl) (sv rfl (A1 (cc rfl hz2 (fun c6 hz2=> ?_) (fun c6 hz2=> ?_))))))))
 refine lr (fun u15 hu15=>sv rfl (A1 (B3 ?_)))
 cases hz2
 obtain rfl:=ez2 _ rfl
 refine ⟨nofun,H8 ?_⟩
 rw [Sum.elim_inr]at h
 cases h
 exact A7 (.inr rfl) (B7 (B6 rfl) G8) (.refl _)
 refine B0 (L8 (L8 (E8 fun u16 hu16=>sv rfl (sv rfl (A1 (K4 ?_))))))
 cases hz2
 exact ⟨rfl,(),(sbr rfl rfl)⟩
 refine D8 rfl ?_
 cases hz2
 obtain rfl:=ez2 _ rfl
 refine ⟨nofun,C7 rfl (l_j ?_)⟩
 exact ⟨_,(),rfl,(sbr rfl rfl)⟩
 rintro _ ⟨y1,g1,rfl,q1⟩
 rw [Sum.elim_inl]at h
 refine B4 q1 (lr (fun u17 hu17=>sv rfl (A1 (B3 ?_))))
 cases h
 exact A7 (.inr rfl) (B7 (B6 rfl) G8) (.refl _)
/-- kerbstone/curve.pieces$1 -/
def A9h:AC:=(.seq (.reg [oo 3 (.mv (ci 0))]) (.seq (.reg [oo 8 (.fieldA 0 (.t 1)),oo 9 (.load 1 false (.t 8)),oo 10 (.len (.t 9)),oo 11 (.bin .sub (.t 10) (ci 1)),oo 12 (.mv (ci 0))]) (.block 0 (.loop (.seq (.reg [oo 13 (.bin .lss (.t 12) (.t 11))]) (.seq (.cond (.t 13) .skip (.exit 0)) (.seq (.block 1 (.seq (.reg [oo 14 (.mv (.t 12)),oo 4 (.mv (.t 14))]) (.seq (.draw [oo 15 (.fieldA 0 (.t 1)),oo 16 (.load 1 false (.t 15)),oo 17 (.mv (.t 4)),oo 18 (.idxS 2 (.t 16) (.t 17)),oo 19 (.load 2 true (.t 18)),oo 20 (.fieldA 0 (.t 1)),oo 21 (.load 1 false (.t 20)),oo 22 (.mv (.t 4)),oo 23 (.bin .add (.t 22) (ci 1)),oo 24 (.idxS 2 (.t 21) (.t 23)),oo 25 (.load 2 true (.t 24)),oo 26 (.call (cf 238) [(.t 19),(.t 25)]),oo 5 (.alloc 253 [z0,z0]),oe (.store 2 (.t 5) (.t 26))] []) (.seq (.reg [oo 28 (.load 2 true (.t 5)),oo 29 (.load 2 true (.t 5)),oo 30 (.call (cf 240) [(.t 28),(.t 29)]),oo 31 (.call (cf 239) [(.t 30)]),oo 27 (.mv (.t 31)),oo 32 (.ext (.t 27) 0),oo 33 (.ext (.t 27) 1),oo 6 (.mv (.t 32)),oo 7 (.mv (.t 33))]) (.seq (.seq (.drawB [oo 34 (.mv (.t 0)),oo 35 (.mv (.t 4)),oo 36 (.fieldA 0 (.t 1)),oo 37 (.load 1 false (.t 36)),oo 38 (.mv (.t 4)),oo 39 (.idxS 2 (.t 37) (.t 38)),oo 40 (.load 2 true (.t 39)),oo 41 (.load 2 true (.t 5)),oo 42 (.mv (.t 6)),oo 43 (.mv (.t 3)),oo 44 (.build [z0,z0,z0,z0,z0,z0] [(0,2,(.t 40)),(2,2,(.t 41)),(4,1,(.t 42)),(5,1,(.t 43))]),oo 45 (.icall (.t 34) [(.t 35),(.t 44)]),oo 46 (.un .not (.t 45))] 11 []) (.cond (.t 46) .ret .skip)) (.reg [oo 47 (.mv (.t 3)),oo 48 (.mv (.t 6)),oo 49 (.bin .add (.t 47) (.t 48)),oo 3 (.mv (.t 49))])))))) (.reg [oo 50 (.bin .add (.t 12) (ci 1)),oo 12 (.mv (.t 50))]))))))))
theorem B3s:FnOK Tryz.prog 260 51 [] A9h:=⟨_,_,Tryz.func260,rfl,Tryz.ntmps260,by kernel_rfl,⟨fun r=>if r==6 then [11]else [],by kernel_rfl⟩,by kernel_rfl⟩
/-- The pieces of a chain of points, from a number on. -/
noncomputable def A6q (pts:List Spot):Nat→Nat→Int→Option (List (Int×CurvePiece))
  |0,_,_=>some []
  |n+1,i,start=>(pts[i]?).bind fun p=>(pts[i+1]?).bind fun q=>(A70 p q).bind fun v=>(W7 v v).bind fun d=>(A71 d).bind fun r=>
   (A6q pts n (i+1) (w64 (start+r.1))).bind fun l=>some (((i:Int),CurvePiece.mk p v r.1 start)::l)
noncomputable def B5t (pts:List Spot):Option (List (Int×CurvePiece)):=if pts.length≤1000000 then A6q pts (pts.length - 1) 0 0 else none
/-- kerbstone/curve.pieces -/
def B11:AC:=(.seq (.reg [oo 1 (.box 61 true (.t 0)),oo 2 (.mv (.c (.v .nilFunc)))]) (.seq (.reg [oo 3 (.mkfn (.func 260) [] [(.t 1)]),oo 2 (.mv (.t 3))]) .ret))
theorem B5u:FnOK Tryz.prog 241 4 [.t 2] B11:=⟨_,_,Tryz.func241,rfl,Tryz.ntmps241,by kernel_rfl,⟨fun _=> [],by kernel_rfl⟩,by kernel_rfl⟩
abbrev C1d (a:Int×CurvePiece):List D:= [i64 a.1, .agg [i64 a.2.p.X,i64 a.2.p.Y,i64 a.2.v.x,i64 a.2.v.y,i64 a.2.l,i64 a.2.start]]
theorem C07 (c:Curve):PCall Tryz.prog 241 [.agg [.list (List.map A6c c.Pts)]] (.fn (.func 260) [] [.bp [.list (List.map A6c c.Pts)] 0]):=by
  refine C5c B5u (by simp) ?_
  unfold B11
  refine A9b (B0v fun u hu=> ?_)
  refine C39 (.ptr _ _) _ rfl rfl ?_
  refine C8 (.d _) rfl rfl ?_
  refine A0p ?_
  refine A9b (B0v fun u' hu'=> ?_)
  refine C8 (.fn _ _ _) rfl rfl ?_
  refine C8 (.fn _ _ _) rfl rfl ?_
  refine A0p ?_
  refine C32 ⟨.inr rfl,?_⟩
  refine B7 (B6 (v:= .fn _ _ _) rfl) ?_
  exact B67 D3 (C0 (A0q (by simp only [upd,if_true];rfl) (C0 G8 D3)) D3)
theorem C5w (ps:List Spot)(n:Int)(i:Nat)(p:Spot)(hn:n=i)(h:ps[i]? =some p):(List.map A6c ps)[n.toNat]? =some (A6c p):=by
  subst hn
  rw [Int.toNat_natCast,List.getElem?_map,h];rfl
theorem C42 {n:Int}(h: -9223372036854775808≤n∧n≤9223372036854775807):w64 n=n:=Go.IntWalk.i64_in n h
theorem B5v (pts:List Spot): ∀n i s L,A6q pts n i s=some L→L.length=n:=by
  intro n
  induction n with
  |zero=>intro i s L h;cases h;rfl
  |succ n ih=>
   intro i s L h
   rw [A6q]at h
   obtain ⟨p,hp,h⟩:=bind_some h
   obtain ⟨q,hq,h⟩:=bind_some h
   obtain ⟨v,hv,h⟩:=bind_some h
   obtain ⟨d,hd,h⟩:=bind_some h
   obtain ⟨r,hr,h⟩:=bind_some h
   obtain ⟨l,hl,h⟩:=bind_some h
   cases h
   rw [List.length_cons,ih _ _ _ hl]
theorem C08 {pts:List Spot}{L:List (Int×CurvePiece)}(h:B5t pts=some L):C6d Tryz.prog (.fn (.func 260) [] [.bp [.list (List.map A6c pts)] 0]) (L.map C1d):=by
  unfold B5t at h
  split at h
  case isFalse=>cases h
  rename_i hlen
  refine ⟨260,[],_,rfl,?_⟩
  intro k h0 Inv Stop hi0 hy
  refine B7c B3s (by simp) ?_
  unfold A9h
  refine A9b (B0v fun u hu=> ?_)
  refine C8 (.d _) rfl rfl ?_
  refine A0p ?_
  refine A9b (B0v fun u hu=> ?_)
  refine C8 (.d _) rfl rfl ?_
  refine C8 (.d _) rfl rfl ?_
  refine C8 (.d (i64 pts.length)) rfl (L9 (f:=A6c) rfl) ?_
  refine C8 (.d _) rfl rfl ?_
  refine C8 (.d _) rfl rfl ?_
  refine A0p ?_
  refine B7a ?_
  refine C0t (α:=Nat×Int×I8) (fun x=>⟨T [(0, .yld k),(1, .d (.bp [.list (List.map A6c pts)] 0)),(3, .d (i64 x.2.1)),(11, .d (i64 (w64 (pts.length - 1)))),(12, .d (i64 x.1))],x.2.2⟩) (fun x=>pts.length - x.1)
    (fun x=>Inv x.1 x.2.2∧x.1≤pts.length - 1∧A6q pts (pts.length - 1 - x.1) x.1 x.2.1=some (L.drop x.1)) (0,0,h0) ⟨hi0,by omega,h⟩ (B45 ⟨rfl,rfl,rfl,rfl,rfl,trivial⟩ fun _ _ h=>h) ?_
  rintro ⟨i,start,hh⟩ ⟨hinv,hi,hgo⟩
  dsimp only at hinv hi hgo ⊢
  refine A9b (B0v fun u hu=> ?_)
  refine C8 (.d _) rfl rfl ?_
  refine A0p ?_
  refine A9b ?_
  refine C5d rfl (fun hlt=> ?_) (fun hlt=> ?_)
  ·refine B9s ?_
   have hlen1:w64 ((pts.length:Int) - 1)=pts.length - 1:=C42 (by omega)
   rw [hlen1]at hlt
   have hi1:i+1<pts.length:=by omega
   have hw1:IntKind.i64.wrap ((i:Int)+1)=(i:Int)+1:=C42 (by omega)
   obtain ⟨m,hm⟩: ∃m,pts.length - 1 - i=m+1:=⟨pts.length - 1 - i - 1,by omega⟩
   rw [hm,A6q]at hgo
   obtain ⟨p,hp,hgo⟩:=bind_some hgo
   obtain ⟨q,hq,hgo⟩:=bind_some hgo
   obtain ⟨v,hv,hgo⟩:=bind_some hgo
   obtain ⟨d,hd,hgo⟩:=bind_some hgo
   obtain ⟨r,hr,hgo⟩:=bind_some hgo
   obtain ⟨l,hl,hgo⟩:=bind_some hgo
   have hgo:((i:Int),CurvePiece.mk p v r.1 start)::l=L.drop i:=Option.some.inj hgo
   have hLi:L[i]? =some ((i:Int),CurvePiece.mk p v r.1 start):=by
     have:=congrArg (fun z=>z[0]?) hgo
     simpa using this.symm
   have hLd:L.drop (i+1)=l:=by
     have:=congrArg (fun z=>z.drop 1) hgo
     simpa using this.symm
   have hin: ∀(p:Spot) (n:Int) (j:Nat),n=j→pts[j]? =some p→(List.map A6c pts)[n.toNat]? =some (A6c p):=fun p n j=>C5w pts n j p
   refine A9b ?_
   refine B7a ?_
   refine A9b (B0v fun u hu=> ?_)
   refine C8 (.d _) rfl rfl ?_
   refine C8 (.d _) rfl rfl ?_
   refine A0p ?_
   refine A9b (C35 rfl fun u hu=> ?_)
   refine C8 (.d _) rfl rfl ?_
   refine C8 (.d _) rfl rfl ?_
   refine C8 (.d _) rfl rfl ?_
   refine C3b _ _ _ _ rfl rfl (Int.natCast_nonneg i) (hin p _ i rfl hp) rfl ?_
   refine B5g _ _ _ _ _ rfl (hin p _ i rfl hp) (by simp) rfl ?_
   refine C8 (.d _) rfl rfl ?_
   refine C8 (.d _) rfl rfl ?_
   refine C8 (.d _) rfl rfl ?_
   refine C8 (.d _) rfl rfl ?_
   refine C3b _ _ _ _ rfl rfl (by rw [hw1];omega) (hin q _ (i+1) (by rw [hw1];rfl) hq) rfl ?_
   refine B5g _ _ _ _ _ rfl (hin q _ (i+1) (by rw [hw1];rfl) hq) (by simp) rfl ?_
   refine B3p rfl rfl (B3a p q _ hv) (.inl rfl) ?_
   refine C39 (.ptr _ _) _ rfl rfl ?_
   refine C0w _ _ _ _ _ rfl rfl rfl (by simp only [upd,if_true];rfl) (by simp) ?_
   refine A0p ?_
   refine A9b (B0v fun u' hu'=> ?_)
   refine B7e _ _ _ _ (.d (.agg [i64 v.x,i64 v.y])) rfl (by simp only [upd,if_true];rfl) (by simp [B1l]) rfl ?_
   refine B7e _ _ _ _ (.d (.agg [i64 v.x,i64 v.y])) rfl (by simp only [upd,if_true];rfl) (by simp [B1l]) rfl ?_
   refine B3p rfl rfl (A3x v v _ hd) (.inl rfl) ?_
   refine B3p rfl rfl (B3b d _ hr) (.inl rfl) ?_
   refine C8 (.d _) rfl rfl ?_
   refine C8 (.d _) rfl rfl ?_
   refine C8 (.d _) rfl rfl ?_
   refine C8 (.d _) rfl rfl ?_
   refine C8 (.d _) rfl rfl ?_
   refine A0p ?_
   refine A9b (A9b ?_)
   refine C5a rfl fun u2 hu2=> ?_
   simp only [List.take,List.drop]
   refine C8 (.yld _) rfl rfl ?_
   refine C8 (.d _) rfl rfl ?_
   refine C8 (.d _) rfl rfl ?_
   refine C8 (.d _) rfl rfl ?_
   refine C8 (.d _) rfl rfl ?_
   refine C3b _ _ _ _ rfl rfl (Int.natCast_nonneg i) (hin p _ i rfl hp) rfl ?_
   refine B5g _ _ _ _ _ rfl (hin p _ i rfl hp) (by simp) rfl ?_
   refine B7e _ _ _ _ (.d (.agg [i64 v.x,i64 v.y])) rfl (by simp only [upd,if_true];rfl) (by simp [B1l]) rfl ?_
   refine C8 (.d _) rfl rfl ?_
   refine C8 (.d _) rfl rfl ?_
   refine C8 (.d _) rfl rfl ?_
   refine A0p ?_
   intro u3 hu3
   refine C5g k ((C1d ((i:Int),CurvePiece.mk p v r.1 start)).map .d) rfl rfl ?_
   refine YCall.weak (C3d hu (C3d hu fun _ _ h=>h)) ((hy i hh _ (by rw [List.getElem?_map,hLi];rfl) hinv).mono ?_)
   rintro v' h' (⟨rfl,hin⟩|⟨rfl,hst⟩)
   ·intro u4 hu4
    refine C8 (.d _) rfl rfl ?_
    refine A0p ?_
    refine B4t (t:=false) rfl (fun h=>by cases h) (fun _=> ?_)
    refine B9s ?_
    refine B0v fun u hu=> ?_
    refine C8 (.d _) rfl rfl ?_
    refine C8 (.d _) rfl rfl ?_
    refine C8 (.d _) rfl rfl ?_
    refine C8 (.d _) rfl rfl ?_
    refine A0p ?_
    refine B0v fun u hu=> ?_
    refine C8 (.d _) rfl rfl ?_
    refine C8 (.d _) rfl rfl ?_
    refine A0p ?_
    refine ⟨(i+1,w64 (start+r.1),h'),⟨hin,by dsimp only;omega,?_⟩,by dsimp only;omega,B45 ⟨rfl,rfl,rfl,rfl,?_,trivial⟩ fun _ _ h=>h⟩
    ·dsimp only
     rw [hLd,show pts.length - 1 - (i+1)=m by omega];exact hl
    ·show AV.d (i64 (IntKind.i64.wrap ((i:Int)+1)))=_
     rw [hw1];rfl
   ·intro u4 hu4
    refine C8 (.d _) rfl rfl ?_
    refine A0p ?_
    refine B4t (t:=true) rfl (fun _=> ?_) (fun h=>by cases h)
    refine C32 ?_
    dsimp only
    exact ⟨Or.inr trivial,AV.tup [],rfl,Or.inr hst⟩
  ·refine B9t ?_
   have hlen1:1≤pts.length→w64 ((pts.length:Int) - 1)=pts.length - 1:=fun _=>C42 (by omega)
   have:i=pts.length - 1:=by
     by_cases h:1≤pts.length
     ·rw [hlen1 h]at hlt;omega
     ·omega
   subst this
   rw [Nat.sub_self,A6q]at hgo
   have hL:(L.map C1d).length=pts.length - 1:=by
     have h1:L.drop (pts.length - 1)= []:=(Option.some.inj hgo).symm
     have h2:=List.drop_eq_nil_iff.1 h1
     rw [List.length_map]
     refine Nat.le_antisymm h2 ?_
     exact Nat.le_of_eq (B5v _ _ _ _ _ h).symm
   exact ⟨.inl rfl,_,rfl, .inl (by rw [hL];exact hinv)⟩
noncomputable def A28 (x1:(List Int))(a1:(Int×CurvePiece)):Option (Stp (List Int) (List Int)):=
  (A9r x1 [a1.2.l]).bind fun v3=>some (.go v3)
noncomputable def A5x (p1:Curve):Option (List Int):=
  (A5f p1).bind fun v1=>cond (v1 !=0) (some []) (((B5t p1.Pts).bind fun v2=>loopL (A28) (fun (x1:(List Int))=>x1) v2 []).bind fun y1=>some y1)
theorem B5w (p1:Curve)(r:(List Int))(h:A5x p1=some r):PCall Tryz.prog 261 [(.agg [(.list (List.map A6c p1.Pts))])] (.list (List.map A4 r)):=by
 refine B8 (fk Tryz.func261 Tryz.ntmps261 (fun r=>if r==6 then [1003]else []) (by with_unfolding_all rfl)) (nl rfl) ?_
 unfold A5x at h
 refine B4 (s0:=⟨T [(0,(.d _))],G []⟩) (sbr rfl rfl) ?_
 refine lr (fun u1 hu1=>sn rfl rfl (sv rfl (A1 (A6 (lr (fun u2 hu2=>sd rfl (B2 rfl G_hit rfl rfl) (bs h fun v1 hv1 h=>B1 rfl rfl A2 (B20 _ _ hv1) (.inl rfl) (sv rfl (A1 (cc rfl h (fun c1 h=> ?_) (fun c1 h=> ?_)))))))))))
 refine lr (fun u3 hu3=>sv rfl (A1 (B3 ?_)))
 cases h
 exact A7 (.inr rfl) (B7 (B6 rfl) G8) DLe.nil
 refine B0 (lr (fun u4 hu4=>sn rfl rfl (A1 (A6 (lr (fun u5 hu5=>sd rfl (B2 rfl (gq rfl) rfl rfl) (B1 rfl rfl A2 (C07 p1) (.inl rfl) (A1 (bs h fun y1 hy1 h=>I6 (fun s=> ∃g1:Nat,Sb ⟨T [(3,(.ptr (3,u4) 0))],G [((3,u4),some (.box 48 [(oS y1 (17,g1))])),((17,g1),oB 2 1 A4 y1)]⟩ s) ?_ ?_)))))))))
 refine A8 (bs hy1 fun v2 hv2 hy1=>B4 (s0:=⟨T [(3,(.ptr _ _)),(10,(.d _))],G [((3,u4),some (.box 48 _))]⟩) (sbr rfl rfl) ?_)
 refine C5j (.fn (.func 260) [] [(.bp [(.list (List.map A6c p1.Pts))] 0)]) C1d v2 (A28) (fun (x1:(List Int))=>x1) (fun (x1:(List Int)) (g2:Nat)=> [((3,u4),some (.box 48 [(oS x1 (17,g2))])),((17,g2),oB 2 1 A4 x1)]) [] 0 _ rfl (C08 hv2) (fun _=>rfl) hy1 (J4 trivial (A9 G_hit (.of rfl) (A5c trivial))) nofun ?_ ?_
 intro u7 hu7 hku7
 refine ⟨fun x1 g2=>(A3 rfl (A3 rfl rfl)),?_⟩
 intro r1 x1 g2 a1 z1 hrr1 hz1 ez1
 unfold A28 at hz1
 show AWL _ _ _ _ _ _ ⟨T [(12,(.d (.agg (C05 a1.2)))),(11,(di a1.1)),(3,(.ptr (3,u4) 0)),(10,(.d (.fn (.func 260) [] [(.bp [(.list (List.map A6c p1.Pts))] 0)])))],G [((1000000,u7),some (.obj (T [(3,(.ptr (3,u4) 0)),(10,(.d (.fn (.func 260) [] [(.bp [(.list (List.map A6c p1.Pts))] 0)])))]) r1)),((3,u4),some (.box 48 [(oS x1 (17,g2))])),((17,g2),oB 2 1 A4 x1)]⟩
 refine E8 fun u8 hu8=>sn rfl rfl (sst rfl G_hit (C06 a1.2) rfl (A1 (l_j (C3m (gq rfl) ?_))))
 refine A8 (E8 fun u9 hu9=>C9 (oS x1 (17,g2)) rfl (V1 rfl (gq rfl) rfl) (sp rfl rfl (sl rfl (gq rfl) rfl (C9 (dl A4 [a1.2.l]) rfl rfl (bs hz1 fun v3 hv3 hz1=>A08 A4 (17,g2) x1 a1.2.l [] _ (T1 (fun _=>rfl)) rfl (gq rfl) hv3 (sst rfl (gq rfl) [(.sl (17,u9))] rfl (A1 (L8 (K4 ?_)))))))))
 cases hz1
 exact C6e (gq rfl) u9 (A9 G_hit (.box (.cons (.of (A9w (A36 hv3)).symm) .nil)) (A3v (gq rfl) trivial))
 rintro x1 g2 _ rfl qx1
 refine L8 (l_j ?_)
 exact ⟨g2,(Sb.after qx1 (J4 ⟨.of rfl,trivial⟩ (A9 G_hit (.of rfl) (B5 (gq rfl) trivial))))⟩
 rintro _ ⟨g1,q1⟩
 refine B4 q1 (lr (fun u10 hu10=>C9 (oS y1 (17,g1)) rfl (V1 rfl G_hit rfl) (C9 (oS y1 (17,g1)) rfl rfl (A1 (B3 ?_)))))
 cases h
 exact A7 (.inr rfl) (B7 (B6 rfl) (A4b (gq rfl))) A4a
noncomputable def A29 (v1:(List Int))(x1:(Int×Int)):Option (Stp (Int×Int) Int):=
  cond (decide (x1.2< (v1.length:Int))) ((G3 v1 x1.2).bind fun v2=>some (.go ((w64 (x1.1+v2)),(w64 (x1.2+1))))) (some (.out x1.1))
noncomputable def A5y (p1:Curve):Option Int:=
  (A5x p1).bind fun v1=>(loop (A29 v1) (0,0)).bind fun y1=>some y1
theorem B5x (p1:Curve)(r:Int)(h:A5y p1=some r):PCall Tryz.prog 242 [(.agg [(.list (List.map A6c p1.Pts))])] (i64 r):=by
 refine B8 (fk Tryz.func242 Tryz.ntmps242 m0 (by with_unfolding_all rfl)) (nl rfl) ?_
 unfold A5y at h
 refine B4 (s0:=⟨T [(0,(.d _))],G []⟩) (sbr rfl rfl) ?_
 refine lr (fun u1 hu1=>sn rfl rfl (sv rfl (A1 (lr (fun u2 hu2=>sv rfl (A1 (A6 (lr (fun u3 hu3=>sd rfl (B2 rfl G_hit rfl rfl) (bs h fun v1 hv1 h=>B1 rfl rfl A2 (B5w _ _ hv1) (.inl rfl) (sd rfl (L9 rfl) (sv rfl (A1 (bs h fun y1 hy1 h=>I6 (fun s=> ∃g1:Unit,Sb ⟨T [(3,(di y1))],G []⟩ s) ?_ ?_))))))))))))))
 refine A8 (J3 (A29 v1) (fun (x1:(Int×Int)) (g2:Unit)=>⟨T [(3,(di x1.1)),(7,(dl A4 v1)),(8,(di (v1.length:Int))),(9,(di x1.2))],G []⟩) (0,0) () _ hy1 (sbr rfl rfl) ?_)
 intro x1 g2 z1 hz1 ez1
 unfold A29 at hz1
 refine lr (fun u4 hu4=>sv rfl (A1 (A6 (cc rfl hz1 (fun c1 hz1=> ?_) (fun c1 hz1=> ?_)))))
 refine B0 (A6 (A8 (lr (fun u5 hu5=>bs hz1 fun v2 hv2 hz1=>sd rfl (K5 rfl rfl hv2 rfl) (sd rfl (M1 rfl hv2 rfl) (sv rfl (A1 (E8 fun u6 hu6=>sv rfl (sv rfl (sv rfl (sv rfl (A1 (L8 (E8 fun u7 hu7=>sv rfl (sv rfl (A1 (K4 ?_)))))))))))))))))
 cases hz1
 exact ⟨rfl,(),(sbr rfl rfl)⟩
 refine D8 rfl ?_
 cases hz1
 obtain rfl:=ez1 _ rfl
 refine ⟨nofun,C7 rfl (l_j ?_)⟩
 exact ⟨(),(sbr rfl rfl)⟩
 rintro _ ⟨g1,q1⟩
 refine B4 q1 (lr (fun u8 hu8=>sv rfl (sv rfl (A1 (B3 ?_)))))
 cases h
 exact A7 (.inr rfl) (B7 (B6 rfl) G8) (.refl _)
noncomputable def A48 (p1:Map)(p2:Int):Option Int:=
  (G3 p1.Lanes p2).bind fun v1=>(A5y v1.Curve_).bind fun v2=>some v2
theorem A6r (p1:Map)(p2:Int)(r:Int)(h:A48 p1 p2=some r):PCall Tryz.prog 207 [(.agg (A5o p1)),(i64 p2)] (i64 r):=by
 refine B8 (fk Tryz.func207 Tryz.ntmps207 m0 (by with_unfolding_all rfl)) (nl rfl) ?_
 unfold A48 at h
 refine B4 (s0:=⟨T [(0,(.d _)),(1,(.d _))],G []⟩) (sbr rfl rfl) ?_
 refine lr (fun u1 hu1=>sn rfl rfl (sv rfl (A1 (lr (fun u2 hu2=>sp rfl rfl (sl rfl G_hit rfl (sv rfl (bs h fun v1 hv1 h=>sd rfl (K5 rfl rfl hv1 rfl) (sv rfl (sd rfl (E7 rfl hv1 rfl rfl) (bs h fun v2 hv2 h=>B1 rfl rfl A2 (B5x _ _ hv2) (.inl rfl) (sv rfl (A1 (B3 ?_))))))))))))))
 cases h
 exact A7 (.inr rfl) (B7 (B6 rfl) G8) (.refl _)
noncomputable def X0 (p1:RoadsCheck)(v1:Zone)(x3:Int):Option (Stp Int (Sum Unit Int)):=
  cond (decide (x3< (v1.Parts.length:Int))) ((G3 v1.Parts x3).bind fun v5=>((cond (!((decide (v5.From<0))||(decide (v5.From≥v5.To)))) (A48 p1.Map_ v5.Lane_) (some default))).bind fun v6=>cond (((((decide (v5.From<0))||(decide (v5.From≥v5.To)))||(decide (v5.To>v6)))||(decide (v5.Rank<0)))||(decide (v5.Rank>100))) (some (.out (.inr 2))) (some (.go (w64 (x3+1))))) (some (.out (.inl ())))
noncomputable def X1 (v1:Zone)(x2:((List Int)×Int)):Option (Stp ((List Int)×Int) (List Int)):=
  cond (decide (x2.2< (v1.Parts.length:Int))) ((G3 v1.Parts x2.2).bind fun v2=>(A9r x2.1 [v2.Lane_]).bind fun v3=>some (.go (v3,(w64 (x2.2+1))))) (some (.out x2.1))
noncomputable def X2 (p1:RoadsCheck)(x1:Int):Option (Stp Int (Sum Unit Int)):=
  cond (decide (x1< (p1.Map_.Zones.length:Int))) ((G3 p1.Map_.Zones x1).bind fun v1=>cond (decide ((v1.Parts.length:Int)<2)) (some (.out (.inr 6))) (cond (decide ((v1.Parts.length:Int)>6)) (some (.out (.inr 8))) (cond ((decide (v1.Signal_<0))||(decide (v1.Signal_>(p1.Map_.Signals.length:Int)))) (some (.out (.inr 2))) ((loop (X1 v1) ([],0)).bind fun y2=>(A27 y2 0 (p1.Map_.Lanes.length:Int)).bind fun v4=>cond (!v4) (some (.out (.inr 11))) (thenS (loop (X0 p1 v1) 0) (fun _=>some (.go (w64 (x1+1)))) (fun r=>some (.out (.inr r)))))))) (some (.out (.inl ())))
noncomputable def A0v (p1:RoadsCheck):Option Int:=
  thenS (loop (X2 p1) 0) (fun _=>some 0) (fun r=>some r)
theorem B1p (p1:RoadsCheck)(r:Int)(h:A0v p1=some r):PCall Tryz.prog 152 [(.agg (A5o p1.Map_))] (i64 r):=by
 refine B8 (fk Tryz.func152 Tryz.ntmps152 (fun r=>if r==15 then [1003]else []) (by with_unfolding_all rfl)) (nl rfl) ?_
 unfold A0v at h
 refine B4 (s0:=⟨T [(0,(.d _))],G []⟩) (sbr rfl rfl) ?_
 refine lr (fun u1 hu1=>sn rfl rfl (sv rfl (A1 (A6 (lr (fun u2 hu2=>sp rfl rfl (sp rfl rfl (sl rfl G_hit rfl (sd rfl (L9 rfl) (sv rfl (A1 (js h fun z1 hz1 h=>I6 (fun s=> ∃(y1:Unit) (g1:Unit),z1= .inl y1∧Sb ⟨T [],G []⟩ s) ?_ ?_))))))))))))
 refine A8 (J3 (X2 p1) (fun (x1:Int) (g2:Unit)=>⟨T [(1,(.ptr (1,u1) 0)),(13,(dl A9e p1.Map_.Zones)),(14,(di (p1.Map_.Zones.length:Int))),(15,(di x1))],G [((1,u1),some (.box 212 (A14 p1.Map_)))]⟩) 0 () _ hz1 (sbr rfl rfl) ?_)
 intro x1 g2 z2 hz2 ez2
 unfold X2 at hz2
 refine lr (fun u3 hu3=>sv rfl (A1 (A6 (cc rfl hz2 (fun c1 hz2=> ?_) (fun c1 hz2=> ?_)))))
 refine B0 (A6 (A8 (lr (fun u4 hu4=>bs hz2 fun v1 hv1 hz2=>sd rfl (K5 rfl rfl hv1 rfl) (sd rfl (E7 rfl hv1 rfl rfl) (sn rfl rfl (sst rfl G_hit [(dl A8k v1.Parts),(di v1.Signal_)] rfl (A1 (A6 (lr (fun u5 hu5=>sp rfl rfl (sl rfl G_hit rfl (sd rfl (L9 rfl) (sv rfl (A1 (A8 (lr (fun u6 hu6=>sv rfl (sv rfl (sv rfl (A1 (cc rfl hz2 (fun c2 hz2=> ?_) (fun c2 hz2=> ?_)))))))))))))))))))))))
 refine lr (fun u7 hu7=>sv rfl (A1 (B3 ?_)))
 cases hz2
 obtain rfl:=ez2 _ rfl
 refine ⟨nofun,H8 ?_⟩
 rw [Sum.elim_inr]at h
 cases h
 exact A7 (.inr rfl) (B7 (B6 rfl) G8) (.refl _)
 refine lr (fun u8 hu8=>sv rfl (sv rfl (sv rfl (A1 (cc rfl hz2 (fun c3 hz2=> ?_) (fun c3 hz2=> ?_))))))
 refine lr (fun u9 hu9=>sv rfl (A1 (B3 ?_)))
 cases hz2
 obtain rfl:=ez2 _ rfl
 refine ⟨nofun,H8 ?_⟩
 rw [Sum.elim_inr]at h
 cases h
 exact A7 (.inr rfl) (B7 (B6 rfl) G8) (.refl _)
 refine lr (fun u10 hu10=>sp rfl rfl (sl rfl G_hit rfl (sv rfl (sv rfl (gp rfl (A2t rfl) (fun _=>rfl) (gf rfl (vl rfl G_hit rfl) (gp rfl (A2t rfl) (fun _=>rfl) ?_)))))))
 refine Z4 _ (.ptr _ _) rfl (A2t rfl) (fun w4=>(by simp only [A5 w4];rfl)) ?_
 refine gf rfl (vl rfl (gq rfl) rfl) (gf rfl (fun w6=>(L9 (A5 w6))) (gf rfl (fun w7=>(A1i (A5 w7) (A5 w7) rfl)) (sd rfl (A6a rfl rfl (fun hc=>A5 (W6 hc))) (sv rfl (A1 (cc rfl hz2 (fun c4 hz2=> ?_) (fun c4 hz2=> ?_)))))))
 refine lr (fun u11 hu11=>sv rfl (A1 (B3 ?_)))
 cases hz2
 obtain rfl:=ez2 _ rfl
 refine ⟨nofun,H8 ?_⟩
 rw [Sum.elim_inr]at h
 cases h
 exact A7 (.inr rfl) (B7 (B6 rfl) G8) (.refl _)
 refine B0 (L8 (lr (fun u12 hu12=>sv rfl (A1 (A6 (lr (fun u13 hu13=>sp rfl rfl (sl rfl G_hit rfl (sd rfl (L9 rfl) (sv rfl (A1 (bs hz2 fun y2 hy2 hz2=>I6 (fun s=> ∃g3:Nat,Sb ⟨T [(1,(.ptr (1,u1) 0)),(4,(.ptr (4,u4) 0)),(6,(oS y2 (52,g3))),(13,(dl A9e p1.Map_.Zones)),(14,(di (p1.Map_.Zones.length:Int))),(15,(di x1))],G [((1,u1),some (.box 212 (A14 p1.Map_))),((4,u4),some (.box 117 [(dl A8k v1.Parts),(di v1.Signal_)])),((52,g3),oB 3 1 A4 y2)]⟩ s) ?_ ?_))))))))))))
 refine A8 (J3 (X1 v1) (fun (x2:((List Int)×Int)) (g4:Nat)=>⟨T [(1,(.ptr (1,u1) 0)),(4,(.ptr (4,u4) 0)),(6,(oS x2.1 (52,g4))),(13,(dl A9e p1.Map_.Zones)),(14,(di (p1.Map_.Zones.length:Int))),(15,(di x1)),(42,(dl A8k v1.Parts)),(43,(di (v1.Parts.length:Int))),(44,(di x2.2))],G [((1,u1),some (.box 212 (A14 p1.Map_))),((4,u4),some (.box 117 [(dl A8k v1.Parts),(di v1.Signal_)])),((52,g4),oB 3 1 A4 x2.1)]⟩) ([],0) 0 _ hy2 (J4 ⟨.of rfl, .of rfl, .of rfl, .of rfl, .of rfl, .of rfl, .of rfl, .of rfl, .of rfl,trivial⟩ (sg rfl (A9 G_hit (.of rfl) (A5c trivial)))) ?_)
 intro x2 g4 z3 hz3 ez3
 unfold X1 at hz3
 refine lr (fun u14 hu14=>sv rfl (A1 (A6 (cc rfl hz3 (fun c5 hz3=> ?_) (fun c5 hz3=> ?_)))))
 refine B0 (A6 (A8 (lr (fun u15 hu15=>bs hz3 fun v2 hv2 hz3=>sd rfl (K5 rfl rfl hv2 rfl) (sd rfl (E7 rfl hv2 rfl rfl) (sn rfl rfl (sst rfl G_hit (C2f v2) rfl (A1 (E8 fun u16 hu16=>C9 (oS x2.1 (52,g4)) rfl rfl (sp rfl rfl (sl rfl G_hit rfl (C9 (dl A4 [v2.Lane_]) rfl rfl (bs hz3 fun v3 hv3 hz3=>A08 A4 (52,g4) x2.1 v2.Lane_ [] _ (T1 (fun _=>rfl)) rfl (gq rfl) hv3 (ss rfl (A1 (L8 (E8 fun u17 hu17=>sv rfl (sv rfl (A1 (K4 ?_))))))))))))))))))))
 cases hz3
 exact ⟨rfl,u16,(J4 ⟨.of rfl, .of rfl,(.of (A9w (A36 hv3)).symm), .of rfl, .of rfl, .of rfl, .of rfl, .of rfl, .of rfl,trivial⟩ (sg rfl (sg rfl (A3v G_hit trivial))))⟩
 refine D8 rfl ?_
 cases hz3
 obtain rfl:=ez3 _ rfl
 refine ⟨nofun,C7 rfl (l_j ?_)⟩
 exact ⟨g4,(J4 ⟨.of rfl, .of rfl, .of rfl, .of rfl, .of rfl, .of rfl,trivial⟩ (A9 G_hit (.of rfl) (sg rfl (B5 (gq rfl) trivial))))⟩
 rintro _ ⟨g3,q1⟩
 refine B4 q1 (A6 (lr (fun u18 hu18=>C9 (oS y2 (52,g3)) rfl rfl (sp rfl rfl (sp rfl rfl (sl rfl G_hit rfl (sd rfl (L9 rfl) (bs hz2 fun v4 hv4 hz2=>B1 rfl (C0 (A4b (gq rfl)) (rD (rD D3))) (.cons A4a (.cons (.refl _) A2)) (A7i _ _ _ _ hv4) (.inr rfl) (C9 (.d (bo (!v4))) rfl rfl (A1 (cc rfl hz2 (fun c6 hz2=> ?_) (fun c6 hz2=> ?_))))))))))))
 refine lr (fun u19 hu19=>sv rfl (A1 (B3 ?_)))
 cases hz2
 obtain rfl:=ez2 _ rfl
 refine ⟨nofun,H8 ?_⟩
 rw [Sum.elim_inr]at h
 cases h
 exact A7 (.inr rfl) (B7 (B6 rfl) G8) (.refl _)
 refine B0 (lr (fun u20 hu20=>sp rfl rfl (sl rfl (gq rfl) rfl (sd rfl (L9 rfl) (sv rfl (A1 (js hz2 fun z4 hz4 hz2=>I6 (fun s=> ∃(y3:Unit) (g5:Unit),z4= .inl y3∧Sb ⟨T [(1,(.ptr (1,u1) 0)),(13,(dl A9e p1.Map_.Zones)),(14,(di (p1.Map_.Zones.length:Int))),(15,(di x1))],G [((1,u1),some (.box 212 (A14 p1.Map_)))]⟩ s) ?_ ?_)))))))
 refine A8 (J3 (X0 p1 v1) (fun (x3:Int) (g6:Unit)=>⟨T [(1,(.ptr (1,u1) 0)),(13,(dl A9e p1.Map_.Zones)),(14,(di (p1.Map_.Zones.length:Int))),(15,(di x1)),(62,(dl A8k v1.Parts)),(63,(di (v1.Parts.length:Int))),(64,(di x3))],G [((1,u1),some (.box 212 (A14 p1.Map_)))]⟩) 0 () _ hz4 (sbr rfl rfl) ?_)
 intro x3 g6 z5 hz5 ez5
 unfold X0 at hz5
 refine lr (fun u21 hu21=>sv rfl (A1 (A6 (cc rfl hz5 (fun c7 hz5=> ?_) (fun c7 hz5=> ?_)))))
 refine B0 (A6 (A8 (lr (fun u22 hu22=>bs hz5 fun v5 hv5 hz5=>sd rfl (K5 rfl rfl hv5 rfl) (sd rfl (E7 rfl hv5 rfl rfl) (sn rfl rfl (sst rfl G_hit (C2f v5) rfl (A1 (A6 (M8 rfl fun u23 hu23=>sp rfl rfl (sl rfl G_hit rfl (sv rfl (sv rfl (gp rfl (A2t rfl) (fun _=>rfl) (gf rfl (vl rfl G_hit rfl) (gp rfl (A2t rfl) (fun _=>rfl) (gf rfl (vl rfl G_hit rfl) (gf rfl (fun w12=>(A1i (A5 w12) (A5 w12) rfl)) (sd rfl (A6a rfl rfl (fun hc=>A5 (W6 hc))) (sv rfl (gp rfl (A2t rfl) (fun _=>rfl) (gf rfl (vl rfl G_hit rfl) (gp rfl (A2t rfl) (fun _=>rfl) (gf rfl (fun w16=>(B2 (A5 w16) (gq rfl) rfl rfl)) (gp rfl (A2t rfl) (fun _=>rfl) (gf rfl (vl rfl G_hit rfl) (bs hz5 fun v6 hv6 hz5=> ?_)))))))))))))))))))))))))))
 refine U4 _ (i64 v6) (A2t rfl) (fun w19=>⟨_,[(.d (.agg (A5o p1.Map_))),(di v5.Lane_)],_,_,(by simp only [A5 w19];rfl),rfl,A2,A6r _ _ _ (E2 w19 hv6),(.inl rfl)⟩) ?_
 refine gf rfl (fun w20=>(A1i (A5 w20) (A5 w20) rfl)) (sd rfl (A6a rfl rfl (fun hc=>A5 (W6 hc))) (sv rfl (gp rfl (A2t rfl) (fun _=>rfl) (gf rfl (vl rfl G_hit rfl) (gf rfl (vb rfl rfl rfl) (sd rfl (A6a rfl rfl (fun hc=>A5 (W6 hc))) (sv rfl (gp rfl (A2t rfl) (fun _=>rfl) (gf rfl (vl rfl G_hit rfl) (gf rfl (vb rfl rfl rfl) (sd rfl (A6a rfl rfl (fun hc=>A5 (W6 hc))) (A1 (cc rfl hz5 (fun c8 hz5=> ?_) (fun c8 hz5=> ?_))))))))))))))
 refine lr (fun u24 hu24=>sv rfl (A1 (B3 ?_)))
 cases hz5
 obtain rfl:=ez5 _ rfl
 refine ⟨nofun,H8 ?_⟩
 rw [Sum.elim_inr]at hz2
 cases hz2
 obtain rfl:=ez2 _ rfl
 refine ⟨nofun,H8 ?_⟩
 rw [Sum.elim_inr]at h
 cases h
 exact A7 (.inr rfl) (B7 (B6 rfl) G8) (.refl _)
 refine B0 (L8 (E8 fun u25 hu25=>sv rfl (sv rfl (A1 (K4 ?_)))))
 cases hz5
 exact ⟨rfl,(),(sbr rfl rfl)⟩
 refine D8 rfl ?_
 cases hz5
 obtain rfl:=ez5 _ rfl
 refine ⟨nofun,C7 rfl (l_j ?_)⟩
 exact ⟨_,(),rfl,(sbr rfl rfl)⟩
 rintro _ ⟨y3,g5,rfl,q2⟩
 rw [Sum.elim_inl]at hz2
 refine L8 (B4 q2 (E8 fun u26 hu26=>sv rfl (sv rfl (A1 (K4 ?_)))))
 cases hz2
 exact ⟨rfl,(),(sbr rfl rfl)⟩
 refine D8 rfl ?_
 cases hz2
 obtain rfl:=ez2 _ rfl
 refine ⟨nofun,C7 rfl (l_j ?_)⟩
 exact ⟨_,(),rfl,(sbr rfl rfl)⟩
 rintro _ ⟨y1,g1,rfl,q3⟩
 rw [Sum.elim_inl]at h
 refine B4 q3 (lr (fun u27 hu27=>sv rfl (A1 (B3 ?_))))
 cases h
 exact A7 (.inr rfl) (B7 (B6 rfl) G8) (.refl _)
noncomputable def X3 (p1:RoadsCheck)(x1:Int):Option (Stp Int (Sum Unit Int)):=
  cond (decide (x1< (p1.Map_.Works.length:Int))) ((G3 p1.Map_.Works x1).bind fun v1=>cond ((decide (v1.Lane_<0))||(decide (v1.Lane_≥(p1.Map_.Lanes.length:Int)))) (some (.out (.inr 7))) ((G3 p1.Map_.Lanes v1.Lane_).bind fun v2=>(A17 v2.Kind).bind fun v3=>((cond (!((decide (v1.From<0))||(decide (v1.From>v1.To)))) (A48 p1.Map_ v1.Lane_) (some default))).bind fun v4=>((cond (!((((((decide (v1.From<0))||(decide (v1.From>v1.To)))||(decide (v1.To>v4)))||(decide (v1.Begin<0)))||(decide (v1.Begin≥v1.End)))||(decide (v1.End>1099511627776)))) (X7 v1.Limit 0 v3.1) (some default))).bind fun v5=>cond (((((((decide (v1.From<0))||(decide (v1.From>v1.To)))||(decide (v1.To>v4)))||(decide (v1.Begin<0)))||(decide (v1.Begin≥v1.End)))||(decide (v1.End>1099511627776)))||(!v5)) (some (.out (.inr 2))) (some (.go (w64 (x1+1)))))) (some (.out (.inl ())))
noncomputable def A0w (p1:RoadsCheck):Option Int:=
  thenS (loop (X3 p1) 0) (fun _=>some 0) (fun r=>some r)
theorem B1q (p1:RoadsCheck)(r:Int)(h:A0w p1=some r):PCall Tryz.prog 153 [(.agg (A5o p1.Map_))] (i64 r):=by
 refine B8 (fk Tryz.func153 Tryz.ntmps153 m0 (by with_unfolding_all rfl)) (nl rfl) ?_
 unfold A0w at h
 refine B4 (s0:=⟨T [(0,(.d _))],G []⟩) (sbr rfl rfl) ?_
 refine lr (fun u1 hu1=>sn rfl rfl (sv rfl (A1 (A6 (lr (fun u2 hu2=>sp rfl rfl (sp rfl rfl (sl rfl G_hit rfl (sd rfl (L9 rfl) (sv rfl (A1 (js h fun z1 hz1 h=>I6 (fun s=> ∃(y1:Unit) (g1:Unit),z1= .inl y1∧Sb ⟨T [],G []⟩ s) ?_ ?_))))))))))))
 refine A8 (J3 (X3 p1) (fun (x1:Int) (g2:Unit)=>⟨T [(1,(.ptr (1,u1) 0)),(10,(dl B93 p1.Map_.Works)),(11,(di (p1.Map_.Works.length:Int))),(12,(di x1))],G [((1,u1),some (.box 212 (A14 p1.Map_)))]⟩) 0 () _ hz1 (sbr rfl rfl) ?_)
 intro x1 g2 z2 hz2 ez2
 unfold X3 at hz2
 refine lr (fun u3 hu3=>sv rfl (A1 (A6 (cc rfl hz2 (fun c1 hz2=> ?_) (fun c1 hz2=> ?_)))))
 refine B0 (A6 (A8 (lr (fun u4 hu4=>bs hz2 fun v1 hv1 hz2=>sd rfl (K5 rfl rfl hv1 rfl) (sd rfl (E7 rfl hv1 rfl rfl) (sn rfl rfl (sst rfl G_hit (D01 v1) rfl (A1 (A6 (lr (fun u5 hu5=>sp rfl rfl (sl rfl G_hit rfl (sv rfl (sv rfl (gp rfl (A2t rfl) (fun _=>rfl) (gf rfl (vl rfl G_hit rfl) (gp rfl (A2t rfl) (fun _=>rfl) ?_)))))))))))))))))
 refine Z4 _ (.ptr _ _) rfl (A2t rfl) (fun w4=>(by simp only [A5 w4];rfl)) ?_
 refine gf rfl (vl rfl (gq rfl) rfl) (gf rfl (fun w6=>(L9 (A5 w6))) (gf rfl (fun w7=>(A1i (A5 w7) (A5 w7) rfl)) (sd rfl (A6a rfl rfl (fun hc=>A5 (W6 hc))) (A1 (cc rfl hz2 (fun c2 hz2=> ?_) (fun c2 hz2=> ?_))))))
 refine lr (fun u6 hu6=>sv rfl (A1 (B3 ?_)))
 cases hz2
 obtain rfl:=ez2 _ rfl
 refine ⟨nofun,H8 ?_⟩
 rw [Sum.elim_inr]at h
 cases h
 exact A7 (.inr rfl) (B7 (B6 rfl) G8) (.refl _)
 refine B0 (lr (fun u7 hu7=>sp rfl rfl (sp rfl rfl (sl rfl (gq rfl) rfl (sp rfl rfl (sl rfl G_hit rfl (bs hz2 fun v2 hv2 hz2=>sd rfl (K5 rfl rfl hv2 rfl) (sv rfl (sd rfl (M1 rfl hv2 rfl) (bs hz2 fun v3 hv3 hz2=>B1 rfl rfl A2 (A4k _ _ hv3) (.inl rfl) (sv rfl (sv rfl (sv rfl (sv rfl (sv rfl (sv rfl (sv rfl (A1 (A6 (M8 rfl fun u8 hu8=>sp rfl rfl (sl rfl G_hit rfl (sv rfl (sv rfl (gp rfl (A2t rfl) (fun _=>rfl) (gf rfl (vl rfl G_hit rfl) (gp rfl (A2t rfl) (fun _=>rfl) (gf rfl (vl rfl G_hit rfl) (gf rfl (fun w12=>(A1i (A5 w12) (A5 w12) rfl)) (sd rfl (A6a rfl rfl (fun hc=>A5 (W6 hc))) (sv rfl (gp rfl (A2t rfl) (fun _=>rfl) (gf rfl (vl rfl G_hit rfl) (gp rfl (A2t rfl) (fun _=>rfl) (gf rfl (fun w16=>(B2 (A5 w16) (gq rfl) rfl rfl)) (gp rfl (A2t rfl) (fun _=>rfl) (gf rfl (vl rfl G_hit rfl) (bs hz2 fun v4 hv4 hz2=> ?_)))))))))))))))))))))))))))))))))))))
 refine U4 _ (i64 v4) (A2t rfl) (fun w19=>⟨_,[(.d (.agg (A5o p1.Map_))),(di v1.Lane_)],_,_,(by simp only [A5 w19];rfl),rfl,A2,A6r _ _ _ (E2 w19 hv4),(.inl rfl)⟩) ?_
 refine gf rfl (fun w20=>(A1i (A5 w20) (A5 w20) rfl)) (sd rfl (A6a rfl rfl (fun hc=>A5 (W6 hc))) (sv rfl (gp rfl (A2t rfl) (fun _=>rfl) (gf rfl (vl rfl G_hit rfl) (gf rfl (vb rfl rfl rfl) (sd rfl (A6a rfl rfl (fun hc=>A5 (W6 hc))) (sv rfl (gp rfl (A2t rfl) (fun _=>rfl) (gf rfl (vl rfl G_hit rfl) (gp rfl (A2t rfl) (fun _=>rfl) (gf rfl (vl rfl G_hit rfl) (gf rfl (fun w28=>(A1i (A5 w28) (A5 w28) rfl)) (sd rfl (A6a rfl rfl (fun hc=>A5 (W6 hc))) (sv rfl (gp rfl (A2t rfl) (fun _=>rfl) (gf rfl (vl rfl G_hit rfl) (gf rfl (vb rfl rfl rfl) (sd rfl (A6a rfl rfl (fun hc=>A5 (W6 hc))) (sv rfl (gp rfl (A2t rfl) (fun _=>rfl) (gf rfl (vl rfl G_hit rfl) (gf rfl (fun _=>rfl) (bs hz2 fun v5 hv5 hz2=> ?_)))))))))))))))))))))))
 refine U4 _ (bo v5) (A2t rfl) (fun w35=>⟨_,[(di v1.Limit),(di 0),(di v3.1)],_,_,(by simp only [A5 w35];rfl),rfl,A2,A0t _ _ _ _ (E2 w35 hv5),(.inl rfl)⟩) ?_
 refine Z4 _ (.d (bo (!v5))) rfl (A2t rfl) (fun w36=>(by simp only [A5 w36];rfl)) ?_
 refine sd rfl (A6a rfl rfl (fun hc=>A5 (W6 hc))) (A1 (cc rfl hz2 (fun c3 hz2=> ?_) (fun c3 hz2=> ?_)))
 refine A6 (B4 (s0:=⟨T [],G []⟩) (sbr rfl rfl) ?_)
 refine E8 fun u9 hu9=>sv rfl (A1 (B3 ?_))
 cases hz2
 obtain rfl:=ez2 _ rfl
 refine ⟨nofun,H8 ?_⟩
 rw [Sum.elim_inr]at h
 cases h
 exact A7 (.inr rfl) (B7 (B6 rfl) G8) (.refl _)
 refine B0 (L8 (B4 (s0:=⟨T [(1,(.ptr _ _)),(10,(.d _)),(11,(.d _)),(12,(.d _))],G [((1,u1),some (.box 212 _))]⟩) (sbr rfl rfl) ?_))
 refine E8 fun u10 hu10=>sv rfl (sv rfl (A1 (K4 ?_)))
 cases hz2
 exact ⟨rfl,(),(sbr rfl rfl)⟩
 refine D8 rfl ?_
 cases hz2
 obtain rfl:=ez2 _ rfl
 refine ⟨nofun,C7 rfl (l_j ?_)⟩
 exact ⟨_,(),rfl,(sbr rfl rfl)⟩
 rintro _ ⟨y1,g1,rfl,q1⟩
 rw [Sum.elim_inl]at h
 refine B4 q1 (lr (fun u11 hu11=>sv rfl (A1 (B3 ?_))))
 cases h
 exact A7 (.inr rfl) (B7 (B6 rfl) G8) (.refl _)
noncomputable def R5 (v:Nat)(p1:RoadsCheck):Option Int:=
  cond (Nat.beq v 148) (Y6 p1) (cond (Nat.beq v 149) (A0u p1) (cond (Nat.beq v 150) (A0b p1) (cond (Nat.beq v 151) (Y7 p1) (cond (Nat.beq v 152) (A0v p1) (cond (Nat.beq v 153) (A0w p1) (none))))))
theorem A6d (v:Nat)(p1:RoadsCheck)(r:Int)(h:R5 v p1=some r):PCall Tryz.prog v [(.agg [(i64 p1.Map_.Version),(.list (List.map B1n p1.Map_.Lanes)),(.list (List.map A9e p1.Map_.Zones)),(.list (List.map B0y p1.Map_.Signals)),(.list (List.map B93 p1.Map_.Works))])] (i64 r):=by
  unfold R5 at h
  rcases B6v h with ⟨rfl,h⟩|⟨_,h⟩
  ·exact B0o _ r h
  rcases B6v h with ⟨rfl,h⟩|⟨_,h⟩
  ·exact B1o _ r h
  rcases B6v h with ⟨rfl,h⟩|⟨_,h⟩
  ·exact B10 _ r h
  rcases B6v h with ⟨rfl,h⟩|⟨_,h⟩
  ·exact B0p _ r h
  rcases B6v h with ⟨rfl,h⟩|⟨_,h⟩
  ·exact B1p _ r h
  rcases B6v h with ⟨rfl,h⟩|⟨_,h⟩
  ·exact B1q _ r h
  cases h
noncomputable def A3g (p1:Map)(x1:Int):Option (Stp Int (Sum Unit Int)):=
  cond (decide (x1< ([148,149,150,151,152,153].length:Int))) ((G3 [148,149,150,151,152,153] x1).bind fun v1=>(R5 v1 (RoadsCheck.mk p1)).bind fun v2=>cond (v2 !=0) (some (.out (.inr v2))) (some (.go (w64 (x1+1))))) (some (.out (.inl ())))
noncomputable def A3y (p1:Map):Option Int:=
  thenS (loop (A3g p1) 0) (fun _=>some 0) (fun r=>some r)
theorem A8l (p1:Map)(r:Int)(h:A3y p1=some r):PCall Tryz.prog 71 [(.agg (A5o p1))] (i64 r):=by
 refine B8 (fk Tryz.func71 Tryz.ntmps71 (fun r=>if r==1 then [1000]else []) (by with_unfolding_all rfl)) (nl rfl) ?_
 unfold A3y at h
 refine B4 (s0:=⟨T [(0,(.d _))],G []⟩) (sbr rfl rfl) ?_
 refine lr (fun u1 hu1=>sn rfl rfl (sv rfl (A1 (A6 (lr (fun u2 hu2=>C9 (dl eFn [148,149,150,151,152,153]) rfl rfl (sd rfl (L9 rfl) (sv rfl (A1 (js h fun z1 hz1 h=>I6 (fun s=> ∃(y1:Unit) (g1:Unit),z1= .inl y1∧Sb ⟨T [],G []⟩ s) ?_ ?_))))))))))
 refine A8 (J3 (A3g p1) (fun (x1:Int) (g2:Unit)=>⟨T [(1,(.ptr (1,u1) 0)),(6,(dl eFn [148,149,150,151,152,153])),(7,(di ([148,149,150,151,152,153].length:Int))),(8,(di x1))],G [((1,u1),some (.box 33 (A14 p1)))]⟩) 0 () _ hz1 (sbr rfl rfl) ?_)
 intro x1 g2 z2 hz2 ez2
 unfold A3g at hz2
 refine lr (fun u3 hu3=>sv rfl (A1 (A6 (cc rfl hz2 (fun c1 hz2=> ?_) (fun c1 hz2=> ?_)))))
 refine B0 (A6 (A8 (lr (fun u4 hu4=>bs hz2 fun v1 hv1 hz2=>sd rfl (K5 rfl rfl hv1 rfl) (sd rfl (M1 rfl hv1 rfl) (sv rfl (A1 (lr (fun u5 hu5=>sv rfl (sd rfl (B2 rfl G_hit rfl rfl) (sv rfl (bs hz2 fun v2 hv2 hz2=>B1 rfl rfl A2 (A6d _ _ _ hv2) (.inl rfl) (sv rfl (A1 (lr (fun u6 hu6=>sv rfl (sv rfl (A1 (cc rfl hz2 (fun c2 hz2=> ?_) (fun c2 hz2=> ?_))))))))))))))))))))
 refine lr (fun u7 hu7=>sv rfl (sv rfl (A1 (B3 ?_))))
 cases hz2
 obtain rfl:=ez2 _ rfl
 refine ⟨nofun,H8 ?_⟩
 rw [Sum.elim_inr]at h
 cases h
 exact A7 (.inr rfl) (B7 (B6 rfl) G8) (.refl _)
 refine B0 (L8 (E8 fun u8 hu8=>sv rfl (sv rfl (A1 (K4 ?_)))))
 cases hz2
 exact ⟨rfl,(),(sbr rfl rfl)⟩
 refine D8 rfl ?_
 cases hz2
 obtain rfl:=ez2 _ rfl
 refine ⟨nofun,C7 rfl (l_j ?_)⟩
 exact ⟨_,(),rfl,(sbr rfl rfl)⟩
 rintro _ ⟨y1,g1,rfl,q1⟩
 rw [Sum.elim_inl]at h
 refine B4 q1 (lr (fun u9 hu9=>sv rfl (A1 (B3 ?_))))
 cases h
 exact A7 (.inr rfl) (B7 (B6 rfl) G8) (.refl _)
noncomputable def T9 (p1:(List Int))(p2:Int)(x1:Int):Option (Stp Int (Sum Unit Int)):=
  cond (decide (x1< (p1.length:Int))) ((G3 p1 x1).bind fun v1=>cond (p2==v1) (some (.out (.inr x1))) (some (.go (w64 (x1+1))))) (some (.out (.inl ())))
noncomputable def U2 (p1:(List Int))(p2:Int):Option Int:=
  thenS (loop (T9 p1 p2) 0) (fun _=>some (-1)) (fun r=>some r)
theorem A4n (p1:(List Int))(p2:Int)(r:Int)(h:U2 p1 p2=some r):PCall Tryz.prog 244 [(.list (List.map A4 p1)),(i64 p2)] (i64 r):=by
 refine B8 (fk Tryz.func244 Tryz.ntmps244 m0 (by with_unfolding_all rfl)) (nl rfl) ?_
 unfold U2 at h
 refine B4 (s0:=⟨T [(0,(.d _)),(1,(.d _))],G []⟩) (sbr rfl rfl) ?_
 refine lr (fun u1 hu1=>sv rfl (A1 (A6 (lr (fun u2 hu2=>sv rfl (sd rfl (L9 rfl) (sv rfl (A1 (js h fun z1 hz1 h=>I6 (fun s=> ∃(y1:Unit) (g1:Unit),z1= .inl y1∧Sb ⟨T [],G []⟩ s) ?_ ?_)))))))))
 refine A8 (J3 (T9 p1 p2) (fun (x1:Int) (g2:Unit)=>⟨T [(0,(dl A4 p1)),(1,(di p2)),(7,(di (p1.length:Int))),(8,(di x1))],G []⟩) 0 () _ hz1 (sbr rfl rfl) ?_)
 intro x1 g2 z2 hz2 ez2
 unfold T9 at hz2
 refine lr (fun u3 hu3=>sv rfl (A1 (A6 (cc rfl hz2 (fun c1 hz2=> ?_) (fun c1 hz2=> ?_)))))
 refine B0 (A6 (A8 (lr (fun u4 hu4=>sv rfl (sv rfl (A1 (lr (fun u5 hu5=>sv rfl (sv rfl (sv rfl (bs hz2 fun v1 hv1 hz2=>sd rfl (K5 rfl rfl hv1 rfl) (sd rfl (M1 rfl hv1 rfl) (sv rfl (A1 (cc rfl hz2 (fun c2 hz2=> ?_) (fun c2 hz2=> ?_))))))))))))))))
 refine lr (fun u6 hu6=>sv rfl (sv rfl (A1 (B3 ?_))))
 cases hz2
 obtain rfl:=ez2 _ rfl
 refine ⟨nofun,H8 ?_⟩
 rw [Sum.elim_inr]at h
 cases h
 exact A7 (.inr rfl) (B7 (B6 rfl) G8) (.refl _)
 refine B0 (L8 (E8 fun u7 hu7=>sv rfl (sv rfl (A1 (K4 ?_)))))
 cases hz2
 exact ⟨rfl,(),(sbr rfl rfl)⟩
 refine D8 rfl ?_
 cases hz2
 obtain rfl:=ez2 _ rfl
 refine ⟨nofun,C7 rfl (l_j ?_)⟩
 exact ⟨_,(),rfl,(sbr rfl rfl)⟩
 rintro _ ⟨y1,g1,rfl,q1⟩
 rw [Sum.elim_inl]at h
 refine B4 q1 (lr (fun u8 hu8=>sv rfl (A1 (B3 ?_))))
 cases h
 exact A7 (.inr rfl) (B7 (B6 rfl) G8) (.refl _)
noncomputable def P4 (p1:(List Int))(p2:Int):Option Bool:=
  (U2 p1 p2).bind fun v1=>some (decide (v1≥0))
theorem Z7 (p1:(List Int))(p2:Int)(r:Bool)(h:P4 p1 p2=some r):PCall Tryz.prog 215 [(.list (List.map A4 p1)),(i64 p2)] (bo r):=by
 refine B8 (fk Tryz.func215 Tryz.ntmps215 m0 (by with_unfolding_all rfl)) (nl rfl) ?_
 unfold P4 at h
 refine B4 (s0:=⟨T [(0,(.d _)),(1,(.d _))],G []⟩) (sbr rfl rfl) ?_
 refine lr (fun u1 hu1=>sv rfl (A1 (lr (fun u2 hu2=>sv rfl (sv rfl (bs h fun v1 hv1 h=>B1 rfl rfl A2 (A4n _ _ _ hv1) (.inl rfl) (sv rfl (sv rfl (A1 (B3 ?_))))))))))
 cases h
 exact A7 (.inr rfl) (B7 (B6 rfl) G8) (.refl _)
noncomputable def A2a (p1:Map)(p2:Int)(x1:((List Int)×Int)):Option (Stp ((List Int)×Int) (List Int)):=
  cond (decide (x1.2< (p1.Lanes.length:Int))) ((G3 p1.Lanes x1.2).bind fun v1=>(P4 v1.Next p2).bind fun v2=>cond v2 ((A9r x1.1 [x1.2]).bind fun v3=>some (.go (v3,(w64 (x1.2+1))))) (some (.go (x1.1,(w64 (x1.2+1)))))) (some (.out x1.1))
noncomputable def A5z (p1:Map)(p2:Int):Option (List Int):=
  (loop (A2a p1 p2) ([],0)).bind fun y1=>some y1
theorem B5y (p1:Map)(p2:Int)(r:(List Int))(h:A5z p1 p2=some r):PCall Tryz.prog 214 [(.agg (A5o p1)),(i64 p2)] (.list (List.map A4 r)):=by
 refine B8 (fk Tryz.func214 Tryz.ntmps214 (fun r=>if r==6 then [1002]else []) (by with_unfolding_all rfl)) (nl rfl) ?_
 unfold A5z at h
 refine B4 (s0:=⟨T [(0,(.d _)),(1,(.d _))],G []⟩) (sbr rfl rfl) ?_
 refine lr (fun u1 hu1=>sn rfl rfl (sv rfl (A1 (lr (fun u2 hu2=>sv rfl (A1 (A6 (lr (fun u3 hu3=>sp rfl rfl (sl rfl G_hit rfl (sd rfl (L9 rfl) (sv rfl (A1 (bs h fun y1 hy1 h=>I6 (fun s=> ∃g1:Nat,Sb ⟨T [(5,(oS y1 (23,g1)))],G [((23,g1),oB 3 1 A4 y1)]⟩ s) ?_ ?_))))))))))))))
 refine A8 (J3 (A2a p1 p2) (fun (x1:((List Int)×Int)) (g2:Nat)=>⟨T [(1,(di p2)),(5,(oS x1.1 (23,g2))),(9,(dl B1n p1.Lanes)),(10,(di (p1.Lanes.length:Int))),(11,(di x1.2))],G [((23,g2),oB 3 1 A4 x1.1)]⟩) ([],0) 0 _ hy1 (J4 ⟨.of rfl, .of rfl, .of rfl, .of rfl, .of rfl,trivial⟩ (A5c trivial)) ?_)
 intro x1 g2 z1 hz1 ez1
 unfold A2a at hz1
 refine lr (fun u4 hu4=>sv rfl (A1 (A6 (cc rfl hz1 (fun c1 hz1=> ?_) (fun c1 hz1=> ?_)))))
 refine B0 (A6 (A8 (lr (fun u5 hu5=>sv rfl (bs hz1 fun v1 hv1 hz1=>sd rfl (K5 rfl rfl hv1 rfl) (sd rfl (E7 rfl hv1 rfl rfl) (sn rfl rfl (sv rfl (sst rfl G_hit (C5v v1) rfl (A1 (lr (fun u6 hu6=>sp rfl rfl (sl rfl G_hit rfl (sv rfl (bs hz1 fun v2 hv2 hz1=>B1 rfl rfl A2 (Z7 _ _ _ hv2) (.inl rfl) (A1 (cc rfl hz1 (fun c2 hz1=> ?_) (fun c2 hz1=> ?_))))))))))))))))))
 refine E8 fun u7 hu7=>C9 (oS x1.1 (23,g2)) rfl rfl (sv rfl (C9 (dl A4 [x1.2]) rfl rfl (bs hz1 fun v3 hv3 hz1=>A08 A4 (23,g2) x1.1 x1.2 [] _ (T1 (fun _=>rfl)) rfl (gq rfl) hv3 (ss rfl (A1 (L8 (E8 fun u8 hu8=>sv rfl (sv rfl (A1 (K4 ?_))))))))))
 cases hz1
 exact ⟨rfl,u7,(J4 ⟨.of rfl,(.of (A9w (A36 hv3)).symm), .of rfl, .of rfl, .of rfl,trivial⟩ (A3v G_hit trivial))⟩
 refine B0 (L8 (E8 fun u9 hu9=>sv rfl (sv rfl (A1 (K4 ?_)))))
 cases hz1
 exact ⟨rfl,g2,(J4 ⟨.of rfl, .of rfl, .of rfl, .of rfl, .of rfl,trivial⟩ (B5 (gq rfl) trivial))⟩
 refine D8 rfl ?_
 cases hz1
 obtain rfl:=ez1 _ rfl
 refine ⟨nofun,C7 rfl (l_j ?_)⟩
 exact ⟨g2,(J4 ⟨.of rfl,trivial⟩ (B5 G_hit trivial))⟩
 rintro _ ⟨g1,q1⟩
 refine B4 q1 (lr (fun u10 hu10=>C9 (oS y1 (23,g1)) rfl rfl (C9 (oS y1 (23,g1)) rfl rfl (A1 (B3 ?_)))))
 cases h
 exact A7 (.inr rfl) (B7 (B6 rfl) (A4b G_hit)) A4a
noncomputable def Y8 (p1:Map)(v7:List Int)(x1:(Int×Int)):Option (Stp (Int×Int) (Sum Unit Int)):=
  cond (decide (x1.2< (v7.length:Int))) ((G3 v7 x1.2).bind fun v8=>(G3 p1.Lanes x1.1).bind fun v9=>(P4 v9.Next v8).bind fun v10=>cond (!v10) (some (.out (.inr 13))) (some (.go (v8,(w64 (x1.2+1)))))) (some (.out (.inl ())))
noncomputable def A02 (p1:Map)(p2:(List Int)):Option Int:=
  (A3y p1).bind fun v1=>cond (v1 !=0) (some v1) (((cond (!(((p2.length:Int)==0)||(decide ((p2.length:Int)>8)))) (G3 p2 0) (some default))).bind fun v2=>((cond (!((((p2.length:Int)==0)||(decide ((p2.length:Int)>8)))||(decide (v2<0)))) (G3 p2 0) (some default))).bind fun v3=>((cond (!(((((p2.length:Int)==0)||(decide ((p2.length:Int)>8)))||(decide (v2<0)))||(decide (v3≥(p1.Lanes.length:Int))))) (G3 p2 0) (some default))).bind fun v4=>((cond (!(((((p2.length:Int)==0)||(decide ((p2.length:Int)>8)))||(decide (v2<0)))||(decide (v3≥(p1.Lanes.length:Int))))) (A5z p1 v4) (some default))).bind fun v5=>cond ((((((p2.length:Int)==0)||(decide ((p2.length:Int)>8)))||(decide (v2<0)))||(decide (v3≥(p1.Lanes.length:Int))))||(decide ((v5.length:Int)>0))) (some 13) ((G3 p2 0).bind fun v6=>(C8t p2 1 (p2.length:Int)).bind fun v7=>thenS (loop (Y8 p1 v7) (v6,0)) (fun _=>some 0) (fun r=>some r)))
theorem A7j (p1:Map)(p2:(List Int))(r:Int)(h:A02 p1 p2=some r):PCall Tryz.prog 154 [(.agg (A5o p1)),(.list (List.map A4 p2))] (i64 r):=by
 refine B8 (fk Tryz.func154 Tryz.ntmps154 m0 (by with_unfolding_all rfl)) (nl rfl) ?_
 unfold A02 at h
 refine B4 (s0:=⟨T [(0,(.d _)),(1,(.d _))],G []⟩) (sbr rfl rfl) ?_
 refine lr (fun u1 hu1=>sn rfl rfl (sv rfl (A1 (A6 (lr (fun u2 hu2=>sd rfl (B2 rfl G_hit rfl rfl) (bs h fun v1 hv1 h=>B1 rfl rfl A2 (A8l _ _ hv1) (.inl rfl) (sv rfl (A1 (lr (fun u3 hu3=>sv rfl (sv rfl (A1 (cc rfl h (fun c1 h=> ?_) (fun c1 h=> ?_)))))))))))))))
 refine lr (fun u4 hu4=>sv rfl (sv rfl (A1 (B3 ?_))))
 cases h
 exact A7 (.inr rfl) (B7 (B6 rfl) G8) (.refl _)
 refine B0 (A6 (A6 (M8 rfl fun u5 hu5=>sv rfl (sd rfl (L9 rfl) (sv rfl (sv rfl (gf rfl (fun _=>rfl) (gf rfl (fun w2=>(L9 (A5 w2))) (gf rfl (vb rfl rfl rfl) (sd rfl (A6a rfl rfl (fun hc=>A5 (W6 hc))) (sv rfl (gf rfl (fun _=>rfl) (bs h fun v2 hv2 h=>gf rfl (fun w5=>(K5 (A5 w5) rfl (E2 w5 hv2) rfl)) (gf rfl (fun w6=>(M1 (A5 w6) (E2 w6 hv2) rfl)) (gf rfl (vb rfl rfl rfl) (sd rfl (A6a rfl rfl (fun hc=>A5 (W6 hc))) (sv rfl (gf rfl (fun _=>rfl) (bs h fun v3 hv3 h=>gf rfl (fun w9=>(K5 (A5 w9) rfl (E2 w9 hv3) rfl)) (gf rfl (fun w10=>(M1 (A5 w10) (E2 w10 hv3) rfl)) (gp rfl (A2t rfl) (fun _=>rfl) (gf rfl (vl rfl G_hit rfl) (gf rfl (fun w13=>(L9 (A5 w13))) (gf rfl (fun w14=>(A1i (A5 w14) (A5 w14) rfl)) (sd rfl (A6a rfl rfl (fun hc=>A5 (W6 hc))) (sv rfl (gf rfl (fun w15=>(B2 rfl G_hit rfl rfl)) (gf rfl (fun _=>rfl) (bs h fun v4 hv4 h=>gf rfl (fun w17=>(K5 (A5 w17) rfl (E2 w17 hv4) rfl)) (gf rfl (fun w18=>(M1 (A5 w18) (E2 w18 hv4) rfl)) (bs h fun v5 hv5 h=> ?_)))))))))))))))))))))))))))))))
 refine U4 _ (.list (List.map A4 v5)) (A2t rfl) (fun w19=>⟨_,[(.d (.agg (A5o p1))),(di v4)],_,_,(by simp only [A5 w19];rfl),rfl,A2,B5y _ _ _ (E2 w19 hv5),(.inl rfl)⟩) ?_
 refine gf rfl (fun w20=>(L9 (A5 w20))) (gf rfl (vb rfl rfl rfl) (sd rfl (A6a rfl rfl (fun hc=>A5 (W6 hc))) (A1 (cc rfl h (fun c2 h=> ?_) (fun c2 h=> ?_)))))
 refine lr (fun u6 hu6=>sv rfl (A1 (B3 ?_)))
 cases h
 exact A7 (.inr rfl) (B7 (B6 rfl) G8) (.refl _)
 refine B0 (lr (fun u7 hu7=>sv rfl (bs h fun v6 hv6 h=>sd rfl (K5 rfl rfl hv6 rfl) (sd rfl (M1 rfl hv6 rfl) (sv rfl (A1 (A6 (lr (fun u8 hu8=>sv rfl (bs h fun v7 hv7 h=>sd rfl (C9q rfl (fun _=>rfl) (bd_x rfl) C8y hv7) (sd rfl (L9 rfl) (sv rfl (A1 (js h fun z1 hz1 h=>I6 (fun s=> ∃(y1:Unit) (g1:Unit),z1= .inl y1∧Sb ⟨T [],G []⟩ s) ?_ ?_))))))))))))))
 refine A8 (J3 (Y8 p1 v7) (fun (x1:(Int×Int)) (g2:Unit)=>⟨T [(2,(.ptr (2,u1) 0)),(6,(di x1.1)),(50,(dl A4 v7)),(51,(di (v7.length:Int))),(52,(di x1.2))],G [((2,u1),some (.box 33 (A14 p1)))]⟩) (v6,0) () _ hz1 (sbr rfl rfl) ?_)
 intro x1 g2 z2 hz2 ez2
 unfold Y8 at hz2
 refine lr (fun u9 hu9=>sv rfl (A1 (A6 (cc rfl hz2 (fun c3 hz2=> ?_) (fun c3 hz2=> ?_)))))
 refine B0 (A6 (A8 (lr (fun u10 hu10=>bs hz2 fun v8 hv8 hz2=>sd rfl (K5 rfl rfl hv8 rfl) (sd rfl (M1 rfl hv8 rfl) (sv rfl (A1 (A6 (lr (fun u11 hu11=>sp rfl rfl (sl rfl G_hit rfl (sv rfl (bs hz2 fun v9 hv9 hz2=>sd rfl (K5 rfl rfl hv9 rfl) (sv rfl (sd rfl (M1 rfl hv9 rfl) (sv rfl (bs hz2 fun v10 hv10 hz2=>B1 rfl rfl A2 (Z7 _ _ _ hv10) (.inl rfl) (C9 (.d (bo (!v10))) rfl rfl (A1 (cc rfl hz2 (fun c4 hz2=> ?_) (fun c4 hz2=> ?_)))))))))))))))))))))
 refine lr (fun u12 hu12=>sv rfl (A1 (B3 ?_)))
 cases hz2
 obtain rfl:=ez2 _ rfl
 refine ⟨nofun,H8 ?_⟩
 rw [Sum.elim_inr]at h
 cases h
 exact A7 (.inr rfl) (B7 (B6 rfl) G8) (.refl _)
 refine B0 (E8 fun u13 hu13=>sv rfl (sv rfl (A1 (L8 (E8 fun u14 hu14=>sv rfl (sv rfl (A1 (K4 ?_))))))))
 cases hz2
 exact ⟨rfl,(),(sbr rfl rfl)⟩
 refine D8 rfl ?_
 cases hz2
 obtain rfl:=ez2 _ rfl
 refine ⟨nofun,C7 rfl (l_j ?_)⟩
 exact ⟨_,(),rfl,(sbr rfl rfl)⟩
 rintro _ ⟨y1,g1,rfl,q1⟩
 rw [Sum.elim_inl]at h
 refine B4 q1 (lr (fun u15 hu15=>sv rfl (A1 (B3 ?_))))
 cases h
 exact A7 (.inr rfl) (B7 (B6 rfl) G8) (.refl _)
noncomputable def A2b (p1:Map)(p2:(List Int))(x1:(Int× ((List Int)×Int))):Option (Stp (Int× ((List Int)×Int)) ((List Int)×Int)):=
  cond (decide (x1.1< (p2.length:Int))) ((G3 p2 x1.1).bind fun v2=>(A9r x1.2.1 [x1.2.2]).bind fun v3=>(A48 p1 v2).bind fun v4=>some (.go ((w64 (x1.1+1)),(v3,(w64 (x1.2.2+v4)))))) (some (.out x1.2))
noncomputable def A18 (p1:Map)(p2:(List Int)):Option RoadsWay:=
  (A02 p1 p2).bind fun v1=>cond (v1 !=0) (some (RoadsWay.mk (Map.mk 0 [] [] [] []) [] [] 0)) ((loop (A2b p1 p2) (0,([],0))).bind fun y1=>some (RoadsWay.mk p1 p2 y1.1 y1.2))
theorem A4o (p1:Map)(p2:(List Int))(r:RoadsWay)(h:A18 p1 p2=some r):PCall Tryz.prog 205 [(.agg (A5o p1)),(.list (List.map A4 p2))] (.agg (C41 r)):=by
 refine B8 (fk Tryz.func205 Tryz.ntmps205 (fun r=>if r==7 then [1004]else []) (by with_unfolding_all rfl)) (nl rfl) ?_
 unfold A18 at h
 refine B4 (s0:=⟨T [(0,(.d _)),(1,(.d _))],G []⟩) (sbr rfl rfl) ?_
 refine lr (fun u1 hu1=>sn rfl rfl (sn rfl rfl (A1 (A6 (lr (fun u2 hu2=>sd rfl (B2 rfl (gq rfl) rfl rfl) (sv rfl (bs h fun v1 hv1 h=>B1 rfl rfl A2 (A7j _ _ _ hv1) (.inl rfl) (sv rfl (A1 (cc rfl h (fun c1 h=> ?_) (fun c1 h=> ?_))))))))))))
 refine lr (fun u3 hu3=>sv rfl (sst rfl G_hit [(di 0),(.d .nilS),(.d .nilS),(.d .nilS),(.d .nilS),(.d .nilS),(.d .nilS),(di 0)] rfl (A1 (B3 ?_))))
 cases h
 exact A7 (.inr rfl) (B7 (I3 rfl G_hit (nl rfl) rfl) G8) (.agg (ca rfl (.cons ⟨DLe.nil,rfl⟩ (.cons ⟨DLe.nil,rfl⟩ (.cons ⟨DLe.nil,rfl⟩ (.cons ⟨DLe.nil,rfl⟩ (.cons ⟨DLe.nil,rfl⟩ (.cons ⟨DLe.nil,rfl⟩ (cz rfl)))))))))
 refine B0 (lr (fun u4 hu4=>sd rfl (B2 rfl (gq rfl) rfl rfl) (sv rfl (sv rfl (sn rfl rfl (sst rfl G_hit ((A14 p1)++ [(dl A4 p2),(.d .nilS),(di 0)]) rfl (A1 (A6 (lr (fun u5 hu5=>sv rfl (sd rfl (L9 rfl) (sv rfl (A1 (bs h fun y1 hy1 h=>I6 (fun s=> ∃g1:Nat,Sb ⟨T [(4,(.ptr (4,u1) 0)),(5,(.ptr (5,u4) 0))],G [((4,u1),some (.box 260 [(di 0),(.d .nilS),(.d .nilS),(.d .nilS),(.d .nilS),(.d .nilS),(.d .nilS),(di 0)])),((5,u4),some (.box 260 ((A14 p1)++ [(dl A4 p2),(oS y1.1 (27,g1)),(di y1.2)]))),((27,g1),oB 2 1 A4 y1.1)]⟩ s) ?_ ?_))))))))))))))
 refine A8 (J3 (A2b p1 p2) (fun (x1:(Int× ((List Int)×Int))) (g2:Nat)=>⟨T [(2,(.ptr (2,u1) 0)),(4,(.ptr (4,u1) 0)),(5,(.ptr (5,u4) 0)),(16,(dl A4 p2)),(17,(di (p2.length:Int))),(18,(di x1.1))],G [((2,u1),some (.box 33 (A14 p1))),((4,u1),some (.box 260 [(di 0),(.d .nilS),(.d .nilS),(.d .nilS),(.d .nilS),(.d .nilS),(.d .nilS),(di 0)])),((5,u4),some (.box 260 ((A14 p1)++ [(dl A4 p2),(oS x1.2.1 (27,g2)),(di x1.2.2)]))),((27,g2),oB 2 1 A4 x1.2.1)]⟩) (0,([],0)) 0 _ hy1 (J4 ⟨.of rfl, .of rfl, .of rfl, .of rfl, .of rfl, .of rfl,trivial⟩ (sg rfl (sg rfl (A9 G_hit (.of rfl) (A5c trivial))))) ?_)
 intro x1 g2 z1 hz1 ez1
 unfold A2b at hz1
 refine lr (fun u6 hu6=>sv rfl (A1 (A6 (cc rfl hz1 (fun c2 hz1=> ?_) (fun c2 hz1=> ?_)))))
 refine B0 (A6 (A8 (lr (fun u7 hu7=>bs hz1 fun v2 hv2 hz1=>sd rfl (K5 rfl rfl hv2 rfl) (sd rfl (M1 rfl hv2 rfl) (sv rfl (A1 (lr (fun u8 hu8=>sp rfl rfl (C9 (oS x1.2.1 (27,g2)) rfl (V1 rfl (gq rfl) rfl) (sp rfl rfl (sl rfl (gq rfl) rfl (C9 (dl A4 [x1.2.2]) rfl rfl (bs hz1 fun v3 hv3 hz1=>A08 A4 (27,g2) x1.2.1 x1.2.2 [] _ (T1 (fun _=>rfl)) rfl (gq rfl) hv3 (sp rfl rfl (sst rfl (gq rfl) ((A14 p1)++ [(dl A4 p2),(.sl (27,u8)),(di x1.2.2)]) rfl (A1 (M8 rfl fun u9 hu9=>sp rfl rfl (sl rfl G_hit rfl (sd rfl (B2 rfl (gq rfl) rfl rfl) (sv rfl (bs hz1 fun v4 hv4 hz1=>B1 rfl rfl A2 (A6r _ _ _ hv4) (.inl rfl) (sv rfl (sp rfl rfl (sst rfl G_hit ((A14 p1)++ [(dl A4 p2),(.sl (27,u8)),(di (w64 (x1.2.2+v4)))]) rfl (A1 (L8 (E8 fun u10 hu10=>sv rfl (sv rfl (A1 (K4 ?_)))))))))))))))))))))))))))))))
 cases hz1
 exact ⟨rfl,u8,(J4 ⟨.of rfl, .of rfl, .of rfl, .of rfl, .of rfl, .of rfl,trivial⟩ (sg rfl (sg rfl (A9 G_hit (.box (cv (cv (cv (cv (cv (cv (.cons (.of (A9w (A36 hv3)).symm) cw)))))))) (A3v (gq rfl) trivial)))))⟩
 refine D8 rfl ?_
 cases hz1
 obtain rfl:=ez1 _ rfl
 refine ⟨nofun,C7 rfl (l_j ?_)⟩
 exact ⟨g2,(J4 ⟨.of rfl, .of rfl,trivial⟩ (sg rfl (sg rfl (B5 (gq rfl) trivial))))⟩
 rintro _ ⟨g1,q1⟩
 refine B4 q1 (lr (fun u11 hu11=>C9 (A23 ((A14 p1)++ [(dl A4 p2),(oS y1.1 (27,g1)),(di y1.2)])) rfl (B2 rfl (gq rfl) rfl rfl) (B0x _ _ _ _ _ (A16 _) rfl rfl G_hit (nl rfl) ((A14 p1)++ [(dl A4 p2),(oS y1.1 (27,g1)),(di y1.2)]) rfl (A1 (B3 ?_)))))
 cases h
 exact A7 (.inr rfl) (B7 (I3 rfl G_hit (nl rfl) rfl) (B35 (rD (rD (rD (rD (rD (rD (C0 (A4b (gq rfl)) (rD D3)))))))))) (.agg (ca rfl (ca rfl (ca rfl (ca rfl (ca rfl (ca rfl (.cons ⟨A4a,rfl⟩ (cz rfl)))))))))
noncomputable def X8 (p1:Map)(p2:(List Int)):Option Int:=
  (A18 p1 p2).bind fun v1=>some v1.length
theorem A6o (p1:Map)(p2:(List Int))(r:Int)(h:X8 p1 p2=some r):PCall Tryz.prog 155 [(.agg (A5o p1)),(.list (List.map A4 p2))] (i64 r):=by
 refine B8 (fk Tryz.func155 Tryz.ntmps155 m0 (by with_unfolding_all rfl)) (nl rfl) ?_
 unfold X8 at h
 refine B4 (s0:=⟨T [(0,(.d _)),(1,(.d _))],G []⟩) (sbr rfl rfl) ?_
 refine lr (fun u1 hu1=>sn rfl rfl (sv rfl (A1 (lr (fun u2 hu2=>sd rfl (B2 rfl G_hit rfl rfl) (sv rfl (bs h fun v1 hv1 h=>B1 rfl rfl A2 (A4o _ _ _ hv1) (.inl rfl) (sv rfl (sv rfl (A1 (B3 ?_)))))))))))
 cases h
 exact A7 (.inr rfl) (B7 (B6 rfl) G8) (.refl _)
noncomputable def A2c (p1:Map)(p2:(List Int)):Option (List Int):=
  (A18 p1 p2).bind fun v1=>some v1.starts
theorem A7k (p1:Map)(p2:(List Int))(r:(List Int))(h:A2c p1 p2=some r):PCall Tryz.prog 139 [(.agg (A5o p1)),(.list (List.map A4 p2))] (.list (List.map A4 r)):=by
 refine B8 (fk Tryz.func139 Tryz.ntmps139 m0 (by with_unfolding_all rfl)) (nl rfl) ?_
 unfold A2c at h
 refine B4 (s0:=⟨T [(0,(.d _)),(1,(.d _))],G []⟩) (sbr rfl rfl) ?_
 refine lr (fun u1 hu1=>sn rfl rfl (sv rfl (A1 (lr (fun u2 hu2=>sd rfl (B2 rfl G_hit rfl rfl) (sv rfl (bs h fun v1 hv1 h=>B1 rfl rfl A2 (A4o _ _ _ hv1) (.inl rfl) (sv rfl (sv rfl (A1 (B3 ?_)))))))))))
 cases h
 exact A7 (.inr rfl) (B7 (B6 rfl) G8) (.refl _)
noncomputable def A4p (p2:Agent)(v1:(List Int))(x1:Int):Option (Stp Int Int):=
  (G3 v1 x1).bind fun v2=>cond (decide (v2>p2.S)) (some (.go (w64 (x1 - 1)))) (some (.out x1))
noncomputable def A72 (p1:Map)(p2:Agent):Option (Int×Int):=
  (A2c p1 p2.Route).bind fun v1=>(loop (A4p p2 v1) (w64 ((v1.length:Int) - 1))).bind fun y1=>(G3 p2.Route y1).bind fun v3=>(G3 v1 y1).bind fun v4=>some (v3,(w64 (p2.S - v4)))
theorem B3c (p1:Map)(p2:Agent)(r:(Int×Int))(h:A72 p1 p2=some r):PCall Tryz.prog 156 [(.agg (A5o p1)),(.agg (C3 p2))] (.tup [(i64 r.1),(i64 r.2)]):=by
 refine B8 (fk Tryz.func156 Tryz.ntmps156 m0 (by with_unfolding_all rfl)) (nl rfl) ?_
 unfold A72 at h
 refine B4 (s0:=⟨T [(0,(.d _)),(1,(.d _))],G []⟩) (sbr rfl rfl) ?_
 refine lr (fun u1 hu1=>sn rfl rfl (sn rfl rfl (sv rfl (sv rfl (A1 (lr (fun u2 hu2=>sd rfl (B2 rfl (gq rfl) rfl rfl) (sp rfl rfl (sl rfl G_hit rfl (bs h fun v1 hv1 h=>B1 rfl rfl A2 (A7k _ _ _ hv1) (.inl rfl) (sv rfl (A1 (lr (fun u3 hu3=>sv rfl (sd rfl (L9 rfl) (sv rfl (sv rfl (A1 (A6 (bs h fun y1 hy1 h=>I6 (fun s=> ∃g1:Unit,Sb ⟨T [(3,(.ptr (3,u1) 0)),(6,(dl A4 v1)),(7,(di y1))],G [((3,u1),some (.box 45 (A0a p2)))]⟩ s) ?_ ?_))))))))))))))))))))
 refine A8 (J3 (A4p p2 v1) (fun (x1:Int) (g2:Unit)=>⟨T [(3,(.ptr (3,u1) 0)),(6,(dl A4 v1)),(7,(di x1))],G [((3,u1),some (.box 45 (A0a p2)))]⟩) (w64 ((v1.length:Int) - 1)) () _ hy1 (sbr rfl rfl) ?_)
 intro x1 g2 z1 hz1 ez1
 unfold A4p at hz1
 refine A6 (A6 (M8 rfl fun u4 hu4=>sv rfl (sv rfl (bs hz1 fun v2 hv2 hz1=>sd rfl (K5 rfl rfl hv2 rfl) (sd rfl (M1 rfl hv2 rfl) (sp rfl rfl (sl rfl G_hit rfl (sv rfl (A1 (cc rfl hz1 (fun c1 hz1=> ?_) (fun c1 hz1=> ?_)))))))))))
 refine B0 (A8 (E8 fun u5 hu5=>sv rfl (sv rfl (sv rfl (A1 (L8 (K4 ?_)))))))
 cases hz1
 exact ⟨rfl,(),(sbr rfl rfl)⟩
 refine D8 rfl ?_
 cases hz1
 obtain rfl:=ez1 _ rfl
 refine ⟨nofun,C7 rfl (l_j ?_)⟩
 exact ⟨(),(sbr rfl rfl)⟩
 rintro _ ⟨g1,q1⟩
 refine B4 q1 (A6 (M8 rfl fun u6 hu6=>sp rfl rfl (sl rfl G_hit rfl (sv rfl (bs h fun v3 hv3 h=>sd rfl (K5 rfl rfl hv3 rfl) (sd rfl (M1 rfl hv3 rfl) (sp rfl rfl (sl rfl G_hit rfl (sv rfl (sv rfl (bs h fun v4 hv4 h=>sd rfl (K5 rfl rfl hv4 rfl) (sd rfl (M1 rfl hv4 rfl) (sv rfl (sv rfl (sv rfl (A1 (B3 ?_)))))))))))))))))
 cases h
 exact A7 (.inr rfl) (B33 (B6 rfl) (B6 rfl) G8 G8) (.refl _)
noncomputable def A1n (p1:Agent):Option WorldSpan:=
  some (WorldSpan.mk (w64 (p1.S - p1.Len)) p1.S)
theorem A2u (p1:Agent)(r:WorldSpan)(h:A1n p1=some r):PCall Tryz.prog 140 [(.agg (C3 p1))] (.agg [(i64 r.from_),(i64 r.to)]):=by
 refine B8 (fk Tryz.func140 Tryz.ntmps140 m0 (by with_unfolding_all rfl)) (nl rfl) ?_
 unfold A1n at h
 refine B4 (s0:=⟨T [(0,(.d _))],G []⟩) (sbr rfl rfl) ?_
 refine lr (fun u1 hu1=>sn rfl rfl (sn rfl rfl (A1 (lr (fun u2 hu2=>sp rfl rfl (sl rfl (gq rfl) rfl (sp rfl rfl (sl rfl (gq rfl) rfl (sv rfl (sp rfl rfl (sl rfl (gq rfl) rfl (sv rfl (sst rfl G_hit [(di (w64 (p1.S - p1.Len))),(di p1.S)] rfl (A1 (B3 ?_)))))))))))))))
 cases h
 exact A7 (.inr rfl) (B7 (I3 rfl G_hit (nl rfl) rfl) G8) (.refl _)
noncomputable def A73 (p1:Map)(p2:Agent):Option Bool:=
  (A1n p2).bind fun v1=>(X8 p1 p2.Route).bind fun v2=>some (decide (v1.from_>v2))
theorem B3d (p1:Map)(p2:Agent)(r:Bool)(h:A73 p1 p2=some r):PCall Tryz.prog 158 [(.agg (A5o p1)),(.agg (C3 p2))] (bo r):=by
 refine B8 (fk Tryz.func158 Tryz.ntmps158 m0 (by with_unfolding_all rfl)) (nl rfl) ?_
 unfold A73 at h
 refine B4 (s0:=⟨T [(0,(.d _)),(1,(.d _))],G []⟩) (sbr rfl rfl) ?_
 refine lr (fun u1 hu1=>sn rfl rfl (sn rfl rfl (sv rfl (A1 (A6 (M8 rfl fun u2 hu2=>sd rfl (B2 rfl G_hit rfl rfl) (bs h fun v1 hv1 h=>B1 rfl rfl A2 (A2u _ _ hv1) (.inl rfl) (sv rfl (sd rfl (B2 rfl (gq rfl) rfl rfl) (sp rfl rfl (sl rfl G_hit rfl (bs h fun v2 hv2 h=>B1 rfl rfl A2 (A6o _ _ _ hv2) (.inl rfl) (sv rfl (sv rfl (A1 (B3 ?_))))))))))))))))
 cases h
 exact A7 (.inr rfl) (B7 (B6 rfl) G8) (.refl _)
noncomputable def A1j (p1:Map)(p2:State)(p3:Int):Option Int:=
  (G3 p2.Agents p3).bind fun v1=>(A02 p1 v1.Route).bind fun v2=>cond (v2 !=0) (some 13) (((cond (!(((((decide (v1.Len<300))||(decide (v1.Len>20000)))||(decide (v1.Begin<0)))||(decide (v1.Begin>1099511627776)))||(decide (v1.S<0)))) (X8 p1 v1.Route) (some default))).bind fun v3=>cond ((((((decide (v1.Len<300))||(decide (v1.Len>20000)))||(decide (v1.Begin<0)))||(decide (v1.Begin>1099511627776)))||(decide (v1.S<0)))||(decide (v1.S>(w64 ((w64 (v3+v1.Len))+2000))))) (some 2) ((A72 p1 v1).bind fun v4=>(G3 p1.Lanes v4.1).bind fun v5=>(A17 v5.Kind).bind fun v6=>cond ((decide (v1.V<0))||(decide (v1.V>v6.1))) (some 2) ((A73 p1 v1).bind fun v7=>cond ((!(v1.Gone==v7))||(((decide (v1.Begin>p2.Tick))&& (v1.S !=0))||((p3==0)&& (v1.Begin !=0)))) (some 10) (some 0))))
theorem B2f (p1:Map)(p2:State)(p3:Int)(r:Int)(h:A1j p1 p2 p3=some r):PCall Tryz.prog 72 [(.agg (A5o p1)),(.agg (A0r p2)),(i64 p3)] (i64 r):=by
 refine B8 (fk Tryz.func72 Tryz.ntmps72 m0 (by with_unfolding_all rfl)) (nl rfl) ?_
 unfold A1j at h
 refine B4 (s0:=⟨T [(0,(.d _)),(1,(.d _)),(2,(.d _))],G []⟩) (sbr rfl rfl) ?_
 refine lr (fun u1 hu1=>sn rfl rfl (sn rfl rfl (sv rfl (A1 (lr (fun u2 hu2=>sp rfl rfl (sl rfl G_hit rfl (sv rfl (bs h fun v1 hv1 h=>sd rfl (K5 rfl rfl hv1 rfl) (sd rfl (E7 rfl hv1 rfl rfl) (sn rfl rfl (sst rfl G_hit (A0a v1) rfl (A1 (A6 (lr (fun u3 hu3=>sd rfl (B2 rfl (gq rfl) rfl rfl) (sp rfl rfl (sl rfl G_hit rfl (bs h fun v2 hv2 h=>B1 rfl rfl A2 (A7j _ _ _ hv2) (.inl rfl) (sv rfl (A1 (cc rfl h (fun c1 h=> ?_) (fun c1 h=> ?_)))))))))))))))))))))))
 refine lr (fun u4 hu4=>sv rfl (A1 (B3 ?_)))
 cases h
 exact A7 (.inr rfl) (B7 (B6 rfl) G8) (.refl _)
 refine B0 (A6 (A6 (M8 rfl fun u5 hu5=>sp rfl rfl (sl rfl G_hit rfl (sv rfl (sv rfl (gp rfl (A2t rfl) (fun _=>rfl) (gf rfl (vl rfl G_hit rfl) (gf rfl (vb rfl rfl rfl) (sd rfl (A6a rfl rfl (fun hc=>A5 (W6 hc))) (sv rfl (gp rfl (A2t rfl) (fun _=>rfl) (gf rfl (vl rfl G_hit rfl) (gf rfl (vb rfl rfl rfl) (sd rfl (A6a rfl rfl (fun hc=>A5 (W6 hc))) (sv rfl (gp rfl (A2t rfl) (fun _=>rfl) (gf rfl (vl rfl G_hit rfl) (gf rfl (vb rfl rfl rfl) (sd rfl (A6a rfl rfl (fun hc=>A5 (W6 hc))) (sv rfl (gp rfl (A2t rfl) (fun _=>rfl) (gf rfl (vl rfl G_hit rfl) (gf rfl (vb rfl rfl rfl) (sd rfl (A6a rfl rfl (fun hc=>A5 (W6 hc))) (sv rfl (gp rfl (A2t rfl) (fun _=>rfl) (gf rfl (vl rfl G_hit rfl) (gf rfl (fun w15=>(B2 rfl (gq rfl) rfl rfl)) (gp rfl (A2t rfl) (fun _=>rfl) (gf rfl (vl rfl G_hit rfl) (bs h fun v3 hv3 h=> ?_))))))))))))))))))))))))))))))))
 refine U4 _ (i64 v3) (A2t rfl) (fun w18=>⟨_,[(.d (.agg (A5o p1))),(dl A4 v1.Route)],_,_,(by simp only [A5 w18];rfl),rfl,A2,A6o _ _ _ (E2 w18 hv3),(.inl rfl)⟩) ?_
 refine gp rfl (A2t rfl) (fun _=>rfl) (gf rfl (vl rfl G_hit rfl) (gf rfl (fun w21=>(A1i (A5 w21) (A5 w21) rfl)) (gf rfl (vb rfl rfl rfl) (gf rfl (fun w23=>(A1i (A5 w23) (A5 w23) rfl)) (sd rfl (A6a rfl rfl (fun hc=>A5 (W6 hc))) (A1 (cc rfl h (fun c2 h=> ?_) (fun c2 h=> ?_))))))))
 refine lr (fun u6 hu6=>sv rfl (A1 (B3 ?_)))
 cases h
 exact A7 (.inr rfl) (B7 (B6 rfl) G8) (.refl _)
 refine B0 (lr (fun u7 hu7=>sd rfl (B2 rfl (gq rfl) rfl rfl) (sd rfl (B2 rfl G_hit rfl rfl) (bs h fun v4 hv4 h=>B1 rfl rfl A2 (B3c _ _ _ hv4) (.inl rfl) (sv rfl (sv rfl (sv rfl (sv rfl (sv rfl (A1 (A6 (lr (fun u8 hu8=>sp rfl rfl (sl rfl (gq rfl) rfl (sv rfl (bs h fun v5 hv5 h=>sd rfl (K5 rfl rfl hv5 rfl) (sv rfl (sd rfl (M1 rfl hv5 rfl) (bs h fun v6 hv6 h=>B1 rfl rfl A2 (A4k _ _ hv6) (.inl rfl) (sv rfl (sv rfl (sv rfl (sv rfl (sv rfl (sv rfl (sv rfl (A1 (lr (fun u9 hu9=>sp rfl rfl (sl rfl G_hit rfl (sv rfl (sv rfl (gp rfl (A2t rfl) (fun _=>rfl) (gf rfl (vl rfl G_hit rfl) (gf rfl (fun _=>rfl) (gf rfl (fun w27=>(A1i (A5 w27) (A5 w27) rfl)) (sd rfl (A6a rfl rfl (fun hc=>A5 (W6 hc))) (A1 (cc rfl h (fun c3 h=> ?_) (fun c3 h=> ?_))))))))))))))))))))))))))))))))))))))))
 refine A6 (B4 (s0:=⟨T [],G []⟩) (sbr rfl rfl) ?_)
 refine E8 fun u10 hu10=>sv rfl (A1 (B3 ?_))
 cases h
 exact A7 (.inr rfl) (B7 (B6 rfl) G8) (.refl _)
 refine B0 (A6 (B4 (s0:=⟨T [(2,(.d _)),(3,(.ptr _ _)),(4,(.ptr _ _)),(7,(.ptr _ _))],G [((3,u1),some (.box 33 _)),((4,u1),some (.box 25 _)),((7,u2),some (.box 45 _))]⟩) (sbr rfl rfl) ?_))
 refine E8 fun u11 hu11=>sp rfl rfl (sl rfl (gq rfl) rfl (sp rfl rfl (sl rfl (gq rfl) rfl (sv rfl (sv rfl (gp rfl (Y4 rfl) (fun _=>rfl) (gt rfl (vl rfl (gq rfl) rfl) (gt rfl (vb rfl rfl rfl) (sa rfl rfl rfl (sv rfl (gf rfl (fun _=>rfl) (gf rfl (vb rfl rfl rfl) (gf rfl (fun w33=>(v_mv (A5 w33))) (Z4 _ (.ptr _ _) rfl (B4e rfl) (fun _=>rfl) (gv rfl (B4e rfl) (vl rfl (gq rfl) rfl) (gv rfl (B4e rfl) (vb rfl rfl rfl) (gf rfl (fun w37=>(C5k (A5 w37) (fun hc=>A5 (C8z w37 hc)) rfl)) (sd rfl (A6a rfl rfl (fun hc=>A5 (W6 hc))) (sv rfl (A1 (A6 (A6 (M8 rfl fun u12 hu12=>sp rfl rfl (sl rfl (gq rfl) rfl (sd rfl (B2 rfl G_hit rfl rfl) (sd rfl (B2 rfl (gq rfl) rfl rfl) (bs h fun v7 hv7 h=>B1 rfl rfl A2 (B3d _ _ _ hv7) (.inl rfl) (C9 (.d (bo (!(v1.Gone==v7)))) rfl rfl (sv rfl (gf rfl (fun _=>rfl) (sd rfl (A6a rfl rfl (fun hc=>A5 (W6 hc))) (A1 (cc rfl h (fun c4 h=> ?_) (fun c4 h=> ?_))))))))))))))))))))))))))))))))))
 refine lr (fun u13 hu13=>sv rfl (A1 (B3 ?_)))
 cases h
 exact A7 (.inr rfl) (B7 (B6 rfl) G8) (.refl _)
 refine B0 (lr (fun u14 hu14=>sv rfl (A1 (B3 ?_))))
 cases h
 exact A7 (.inr rfl) (B7 (B6 rfl) G8) (.refl _)
noncomputable def A2v (p1:Int):Option Bool:=
  some (p1 !=p1)
theorem B0l (p1:Int)(r:Bool)(h:A2v p1=some r):PCall Tryz.prog 216 [(i64 p1)] (bo r):=by
 refine B8 (fk Tryz.func216 Tryz.ntmps216 m0 (by with_unfolding_all rfl)) (nl rfl) ?_
 unfold A2v at h
 refine B4 (s0:=⟨T [(0,(.d _))],G []⟩) (sbr rfl rfl) ?_
 refine lr (fun u1 hu1=>sv rfl (A1 (lr (fun u2 hu2=>sv rfl (sv rfl (sv rfl (sv rfl (A1 (B3 ?_)))))))))
 cases h
 exact A7 (.inr rfl) (B7 (B6 rfl) G8) (.refl _)
noncomputable def V6 (p1:Int)(p2:Int):Option Int:=
  (A2v p1).bind fun v1=>(A2v p2).bind fun v2=>cond v1 (cond v2 (some 0) (some (-1))) (cond v2 (some 1) (cond (decide (p1<p2)) (some (-1)) (cond (decide (p1>p2)) (some 1) (some 0))))
theorem A1y (p1:Int)(p2:Int)(r:Int)(h:V6 p1 p2=some r):PCall Tryz.prog 160 [(i64 p1),(i64 p2)] (i64 r):=by
 refine B8 (fk Tryz.func160 Tryz.ntmps160 m0 (by with_unfolding_all rfl)) (nl rfl) ?_
 unfold V6 at h
 refine B4 (s0:=⟨T [(0,(.d _)),(1,(.d _))],G []⟩) (sbr rfl rfl) ?_
 refine lr (fun u1 hu1=>sv rfl (A1 (lr (fun u2 hu2=>sv rfl (bs h fun v1 hv1 h=>B1 rfl rfl A2 (B0l _ _ hv1) (.inl rfl) (sv rfl (A1 (lr (fun u3 hu3=>sv rfl (bs h fun v2 hv2 h=>B1 rfl rfl A2 (B0l _ _ hv2) (.inl rfl) (sv rfl (A1 (A6 (lr (fun u4 hu4=>sv rfl (A1 (cc rfl h (fun c1 h=> ?_) (fun c1 h=> ?_))))))))))))))))))
 refine A6 (lr (fun u5 hu5=>sv rfl (A1 (cc rfl h (fun c2 h=> ?_) (fun c2 h=> ?_)))))
 refine lr (fun u6 hu6=>sv rfl (A1 (B3 ?_)))
 cases h
 exact A7 (.inr rfl) (B7 (B6 rfl) G8) (.refl _)
 refine B0 (lr (fun u7 hu7=>sv rfl (A1 (B3 ?_))))
 cases h
 exact A7 (.inr rfl) (B7 (B6 rfl) G8) (.refl _)
 refine B0 (A6 (lr (fun u8 hu8=>sv rfl (A1 (cc rfl h (fun c3 h=> ?_) (fun c3 h=> ?_))))))
 refine lr (fun u9 hu9=>sv rfl (A1 (B3 ?_)))
 cases h
 exact A7 (.inr rfl) (B7 (B6 rfl) G8) (.refl _)
 refine B0 (A6 (lr (fun u10 hu10=>sv rfl (sv rfl (sv rfl (A1 (cc rfl h (fun c4 h=> ?_) (fun c4 h=> ?_))))))))
 refine lr (fun u11 hu11=>sv rfl (A1 (B3 ?_)))
 cases h
 exact A7 (.inr rfl) (B7 (B6 rfl) G8) (.refl _)
 refine B0 (A6 (lr (fun u12 hu12=>sv rfl (sv rfl (sv rfl (A1 (cc rfl h (fun c5 h=> ?_) (fun c5 h=> ?_))))))))
 refine lr (fun u13 hu13=>sv rfl (A1 (B3 ?_)))
 cases h
 exact A7 (.inr rfl) (B7 (B6 rfl) G8) (.refl _)
 refine B0 (lr (fun u14 hu14=>sv rfl (A1 (B3 ?_))))
 cases h
 exact A7 (.inr rfl) (B7 (B6 rfl) G8) (.refl _)
noncomputable def A4q (p1:(List Int))(x1:Int):Option (Stp Int (Sum Unit Int)):=
  cond (decide (x1< (p1.length:Int))) ((G3 p1 x1).bind fun v1=>cond (v1 !=0) (some (.out (.inr v1))) (some (.go (w64 (x1+1))))) (some (.out (.inl ())))
noncomputable def A5g (p1:(List Int)):Option Int:=
  thenS (loop (A4q p1) 0) (fun _=>some 0) (fun r=>some r)
theorem A9z (p1:(List Int))(r:Int)(h:A5g p1=some r):PCall Tryz.prog 159 [(.list (List.map A4 p1))] (i64 r):=by
 refine B8 (fk Tryz.func159 Tryz.ntmps159 m0 (by with_unfolding_all rfl)) (nl rfl) ?_
 unfold A5g at h
 refine B4 (s0:=⟨T [(0,(.d _))],G []⟩) (sbr rfl rfl) ?_
 refine lr (fun u1 hu1=>sv rfl (A1 (lr (fun u2 hu2=>sv rfl (A1 (A6 (lr (fun u3 hu3=>sv rfl (sd rfl (L9 rfl) (sv rfl (A1 (js h fun z1 hz1 h=>I6 (fun s=> ∃(y1:Unit) (g1:Unit),z1= .inl y1∧Sb ⟨T [(3,(di 0))],G []⟩ s) ?_ ?_))))))))))))
 refine A8 (J3 (A4q p1) (fun (x1:Int) (g2:Unit)=>⟨T [(3,(di 0)),(6,(dl A4 p1)),(7,(di (p1.length:Int))),(8,(di x1))],G []⟩) 0 () _ hz1 (sbr rfl rfl) ?_)
 intro x1 g2 z2 hz2 ez2
 unfold A4q at hz2
 refine lr (fun u4 hu4=>sv rfl (A1 (A6 (cc rfl hz2 (fun c1 hz2=> ?_) (fun c1 hz2=> ?_)))))
 refine B0 (A6 (A8 (lr (fun u5 hu5=>bs hz2 fun v1 hv1 hz2=>sd rfl (K5 rfl rfl hv1 rfl) (sd rfl (M1 rfl hv1 rfl) (sv rfl (A1 (lr (fun u6 hu6=>sv rfl (sv rfl (sv rfl (A1 (cc rfl hz2 (fun c2 hz2=> ?_) (fun c2 hz2=> ?_))))))))))))))
 refine lr (fun u7 hu7=>sv rfl (sv rfl (A1 (B3 ?_))))
 cases hz2
 obtain rfl:=ez2 _ rfl
 refine ⟨nofun,H8 ?_⟩
 rw [Sum.elim_inr]at h
 cases h
 exact A7 (.inr rfl) (B7 (B6 rfl) G8) (.refl _)
 refine B0 (L8 (E8 fun u8 hu8=>sv rfl (sv rfl (A1 (K4 ?_)))))
 cases hz2
 exact ⟨rfl,(),(sbr rfl rfl)⟩
 refine D8 rfl ?_
 cases hz2
 obtain rfl:=ez2 _ rfl
 refine ⟨nofun,C7 rfl (l_j ?_)⟩
 exact ⟨_,(),rfl,(sbr rfl rfl)⟩
 rintro _ ⟨y1,g1,rfl,q1⟩
 rw [Sum.elim_inl]at h
 refine B4 q1 (lr (fun u9 hu9=>sv rfl (sv rfl (A1 (B3 ?_)))))
 cases h
 exact A7 (.inr rfl) (B7 (B6 rfl) G8) (.refl _)
noncomputable def A3z (p1:Stay)(p2:Stay):Option Int:=
  (V6 p1.Agent_ p2.Agent_).bind fun v1=>(V6 p1.Zone_ p2.Zone_).bind fun v2=>(A5g [v1,v2]).bind fun v3=>some v3
theorem A8m (p1:Stay)(p2:Stay)(r:Int)(h:A3z p1 p2=some r):PCall Tryz.prog 73 [(.agg (L4 p1)),(.agg (L4 p2))] (i64 r):=by
 refine B8 (fk Tryz.func73 Tryz.ntmps73 (fun r=>if r==1 then [1010]else []) (by with_unfolding_all rfl)) (nl rfl) ?_
 unfold A3z at h
 refine B4 (s0:=⟨T [(0,(.d _)),(1,(.d _))],G []⟩) (sbr rfl rfl) ?_
 refine lr (fun u1 hu1=>sn rfl rfl (sn rfl rfl (sv rfl (A1 (A6 (M8 rfl fun u2 hu2=>sp rfl rfl (sl rfl (gq rfl) rfl (sp rfl rfl (sl rfl G_hit rfl (bs h fun v1 hv1 h=>B1 rfl rfl A2 (A1y _ _ _ hv1) (.inl rfl) (sp rfl rfl (sl rfl (gq rfl) rfl (sp rfl rfl (sl rfl G_hit rfl (bs h fun v2 hv2 h=>B1 rfl rfl A2 (A1y _ _ _ hv2) (.inl rfl) (C9 (dl A4 [v1,v2]) rfl rfl (bs h fun v3 hv3 h=>B1 rfl rfl A2 (A9z _ _ hv3) (.inl rfl) (sv rfl (A1 (B3 ?_))))))))))))))))))))
 cases h
 exact A7 (.inr rfl) (B7 (B6 rfl) G8) (.refl _)
noncomputable def A2d (p1:Stay)(p2:State):Option Bool:=
  some ((((decide (p1.Since<0))||(decide (p1.Since>p2.Tick)))||(decide (p1.Rank<0)))||(decide (p1.Rank>100)))
theorem B3e (p1:Stay)(p2:State)(r:Bool)(h:A2d p1 p2=some r):PCall Tryz.prog 75 [(.agg (L4 p1)),(.bp (A0r p2) 0)] (bo r):=by
 refine B8 (fk Tryz.func75 Tryz.ntmps75 m0 (by with_unfolding_all rfl)) (nl rfl) ?_
 unfold A2d at h
 refine B4 (s0:=⟨T [(0,(.d _)),(1,(.d _))],G []⟩) (sbr rfl rfl) ?_
 refine lr (fun u1 hu1=>sn rfl rfl (sv rfl (A1 (lr (fun u2 hu2=>sp rfl rfl (sl rfl G_hit rfl (sv rfl (sv rfl (gp rfl (A2t rfl) (fun _=>rfl) (gf rfl (vl rfl G_hit rfl) (gf rfl (fun _=>rfl) ?_)))))))))))
 refine gf rfl (fun w4=>(by simp only [A5 w4];rfl)) ?_
 refine gf rfl (fun w5=>(A1i (A5 w5) (A5 w5) rfl)) (sd rfl (A6a rfl rfl (fun hc=>A5 (W6 hc))) (sv rfl (gp rfl (A2t rfl) (fun _=>rfl) (gf rfl (vl rfl G_hit rfl) (gf rfl (vb rfl rfl rfl) (sd rfl (A6a rfl rfl (fun hc=>A5 (W6 hc))) (sv rfl (gp rfl (A2t rfl) (fun _=>rfl) (gf rfl (vl rfl G_hit rfl) (gf rfl (vb rfl rfl rfl) (sd rfl (A6a rfl rfl (fun hc=>A5 (W6 hc))) (sv rfl (A1 (B3 ?_))))))))))))))
 cases h
 exact A7 (.inr rfl) (B7 (B6 rfl) G8) (.refl _)
noncomputable def G4 (p1:(List Stay))(p2:State)(x1:Int):Option (Stp Int (Sum Unit Int)):=
  cond (decide (x1< (p1.length:Int))) ((G3 p1 x1).bind fun v1=>(A2d v1 p2).bind fun v2=>cond v2 (some (.out (.inr x1))) (some (.go (w64 (x1+1))))) (some (.out (.inl ())))
noncomputable def I7 (p1:(List Stay))(p2:State):Option Int:=
  thenS (loop (G4 p1 p2) 0) (fun _=>some (-1)) (fun r=>some r)
theorem A15 (p1:(List Stay))(p2:State)(r:Int)(h:I7 p1 p2=some r):PCall Tryz.prog 161 [(.list (List.map L4 p1)),(.fn (.func 75) [] [(.bp (A0r p2) 0)])] (i64 r):=by
 refine B8 (fk Tryz.func161 Tryz.ntmps161 m0 (by with_unfolding_all rfl)) (nl rfl) ?_
 unfold I7 at h
 refine B4 (s0:=⟨T [(0,(.d _)),(1,(.d _))],G []⟩) (sbr rfl rfl) ?_
 refine lr (fun u1 hu1=>sv rfl (A1 (A6 (lr (fun u2 hu2=>sv rfl (sd rfl (L9 rfl) (sv rfl (A1 (js h fun z1 hz1 h=>I6 (fun s=> ∃(y1:Unit) (g1:Unit),z1= .inl y1∧Sb ⟨T [],G []⟩ s) ?_ ?_)))))))))
 refine A8 (J3 (G4 p1 p2) (fun (x1:Int) (g2:Unit)=>⟨T [(0,(dl L4 p1)),(1,(.d (.fn (.func 75) [] [(.bp (A0r p2) 0)]))),(7,(di (p1.length:Int))),(8,(di x1))],G []⟩) 0 () _ hz1 (sbr rfl rfl) ?_)
 intro x1 g2 z2 hz2 ez2
 unfold G4 at hz2
 refine lr (fun u3 hu3=>sv rfl (A1 (A6 (cc rfl hz2 (fun c1 hz2=> ?_) (fun c1 hz2=> ?_)))))
 refine B0 (A6 (A8 (lr (fun u4 hu4=>sv rfl (sv rfl (A1 (lr (fun u5 hu5=>sv rfl (sv rfl (sv rfl (bs hz2 fun v1 hv1 hz2=>sd rfl (K5 rfl rfl hv1 rfl) (sd rfl (E7 rfl hv1 rfl rfl) (bs hz2 fun v2 hv2 hz2=>B1 rfl rfl A2 (B3e _ _ _ hv2) (.inl rfl) (A1 (cc rfl hz2 (fun c2 hz2=> ?_) (fun c2 hz2=> ?_))))))))))))))))
 refine lr (fun u6 hu6=>sv rfl (sv rfl (A1 (B3 ?_))))
 cases hz2
 obtain rfl:=ez2 _ rfl
 refine ⟨nofun,H8 ?_⟩
 rw [Sum.elim_inr]at h
 cases h
 exact A7 (.inr rfl) (B7 (B6 rfl) G8) (.refl _)
 refine B0 (L8 (E8 fun u7 hu7=>sv rfl (sv rfl (A1 (K4 ?_)))))
 cases hz2
 exact ⟨rfl,(),(sbr rfl rfl)⟩
 refine D8 rfl ?_
 cases hz2
 obtain rfl:=ez2 _ rfl
 refine ⟨nofun,C7 rfl (l_j ?_)⟩
 exact ⟨_,(),rfl,(sbr rfl rfl)⟩
 rintro _ ⟨y1,g1,rfl,q1⟩
 rw [Sum.elim_inl]at h
 refine B4 q1 (lr (fun u8 hu8=>sv rfl (A1 (B3 ?_))))
 cases h
 exact A7 (.inr rfl) (B7 (B6 rfl) G8) (.refl _)
noncomputable def G5 (p1:(List Stay))(p2:State):Option Bool:=
  (I7 p1 p2).bind fun v1=>some (decide (v1≥0))
theorem A0g (p1:(List Stay))(p2:State)(r:Bool)(h:G5 p1 p2=some r):PCall Tryz.prog 74 [(.list (List.map L4 p1)),(.fn (.func 75) [] [(.bp (A0r p2) 0)])] (bo r):=by
 refine B8 (fk Tryz.func74 Tryz.ntmps74 m0 (by with_unfolding_all rfl)) (nl rfl) ?_
 unfold G5 at h
 refine B4 (s0:=⟨T [(0,(.d _)),(1,(.d _))],G []⟩) (sbr rfl rfl) ?_
 refine lr (fun u1 hu1=>sv rfl (A1 (lr (fun u2 hu2=>sv rfl (sv rfl (bs h fun v1 hv1 h=>B1 rfl rfl A2 (A15 _ _ _ hv1) (.inl rfl) (sv rfl (sv rfl (A1 (B3 ?_))))))))))
 cases h
 exact A7 (.inr rfl) (B7 (B6 rfl) G8) (.refl _)
noncomputable def A3h (p1:Map)(p2:State)(x2:Int):Option (Stp Int (Sum Unit Int)):=
  cond (decide (x2< (p2.In.length:Int))) ((G3 p2.In x2).bind fun v3=>((cond ((!((((decide (v3.Agent_<0))||(decide (v3.Agent_≥(p2.Agents.length:Int))))||(decide (v3.Zone_<0)))||(decide (v3.Zone_≥(p1.Zones.length:Int)))))&& (decide (x2>0))) (G3 p2.In (w64 (x2 - 1))) (some default))).bind fun v4=>((cond ((!((((decide (v3.Agent_<0))||(decide (v3.Agent_≥(p2.Agents.length:Int))))||(decide (v3.Zone_<0)))||(decide (v3.Zone_≥(p1.Zones.length:Int)))))&& (decide (x2>0))) (A3z v4 v3) (some default))).bind fun v5=>cond (((((decide (v3.Agent_<0))||(decide (v3.Agent_≥(p2.Agents.length:Int))))||(decide (v3.Zone_<0)))||(decide (v3.Zone_≥(p1.Zones.length:Int))))||((decide (x2>0))&& (decide (v5≥0)))) (some (.out (.inr 11))) (some (.go (w64 (x2+1))))) (some (.out (.inl ())))
noncomputable def A3i (p1:Map)(p2:State)(x1:Int):Option (Stp Int (Sum Unit Int)):=
  cond (decide (x1< (p2.Agents.length:Int))) ((A1j p1 p2 x1).bind fun v2=>cond (v2 !=0) (some (.out (.inr v2))) (some (.go (w64 (x1+1))))) (some (.out (.inl ())))
noncomputable def A40 (p1:Map)(p2:State):Option Int:=
  (A3y p1).bind fun v1=>cond (v1 !=0) (some v1) (cond ((decide (p2.Tick<0))||(decide (p2.Tick>1099511627776))) (some 2) (cond ((p2.Agents.length:Int)==0) (some 6) (cond (decide ((p2.Agents.length:Int)>8)) (some 8) (thenS (loop (A3i p1 p2) 0) (fun _=>thenS (loop (A3h p1 p2) 0) (fun _=>(G5 p2.In p2).bind fun v6=>cond v6 (some 2) (some 0)) (fun r=>some r)) (fun r=>some r)))))
theorem A8n (p1:Map)(p2:State)(r:Int)(h:A40 p1 p2=some r):PCall Tryz.prog 24 [(.agg (A5o p1)),(.agg (A0r p2))] (i64 r):=by
 refine B8 (fk Tryz.func24 Tryz.ntmps24 m0 (by with_unfolding_all rfl)) (nl rfl) ?_
 unfold A40 at h
 refine B4 (s0:=⟨T [(0,(.d _)),(1,(.d _))],G []⟩) (sbr rfl rfl) ?_
 refine lr (fun u1 hu1=>sn rfl rfl (sn rfl rfl (sv rfl (A1 (A6 (lr (fun u2 hu2=>sd rfl (B2 rfl (gq rfl) rfl rfl) (bs h fun v1 hv1 h=>B1 rfl rfl A2 (A8l _ _ hv1) (.inl rfl) (sv rfl (A1 (lr (fun u3 hu3=>sv rfl (sv rfl (A1 (cc rfl h (fun c1 h=> ?_) (fun c1 h=> ?_))))))))))))))))
 refine lr (fun u4 hu4=>sv rfl (sv rfl (A1 (B3 ?_))))
 cases h
 exact A7 (.inr rfl) (B7 (B6 rfl) G8) (.refl _)
 refine B0 (A6 (lr (fun u5 hu5=>sp rfl rfl (sl rfl G_hit rfl (sd rfl (L9 rfl) (sv rfl (A1 (A8 (lr (fun u6 hu6=>sp rfl rfl (sl rfl G_hit rfl (sv rfl (sv rfl (gp rfl (A2t rfl) (fun _=>rfl) (gf rfl (vl rfl G_hit rfl) (gf rfl (vb rfl rfl rfl) (sd rfl (A6a rfl rfl (fun hc=>A5 (W6 hc))) (sv rfl (A1 (cc rfl h (fun c2 h=> ?_) (fun c2 h=> ?_)))))))))))))))))))))
 refine lr (fun u7 hu7=>sv rfl (A1 (B3 ?_)))
 cases h
 exact A7 (.inr rfl) (B7 (B6 rfl) G8) (.refl _)
 refine lr (fun u8 hu8=>sv rfl (sv rfl (sv rfl (A1 (cc rfl h (fun c3 h=> ?_) (fun c3 h=> ?_))))))
 refine lr (fun u9 hu9=>sv rfl (A1 (B3 ?_)))
 cases h
 exact A7 (.inr rfl) (B7 (B6 rfl) G8) (.refl _)
 refine lr (fun u10 hu10=>sv rfl (sv rfl (sv rfl (A1 (cc rfl h (fun c4 h=> ?_) (fun c4 h=> ?_))))))
 refine lr (fun u11 hu11=>sv rfl (A1 (B3 ?_)))
 cases h
 exact A7 (.inr rfl) (B7 (B6 rfl) G8) (.refl _)
 refine B0 (L8 (A6 (lr (fun u12 hu12=>sp rfl rfl (sl rfl G_hit rfl (sd rfl (L9 rfl) (sv rfl (A1 (js h fun z1 hz1 h=>I6 (fun s=> ∃(y1:Unit) (g1:Unit),z1= .inl y1∧Sb ⟨T [(2,(.ptr (2,u1) 0)),(3,(.ptr (3,u1) 0))],G [((2,u1),some (.box 33 (A14 p1))),((3,u1),some (.box 25 (Q7 p2)))]⟩ s) ?_ ?_)))))))))
 refine A8 (J3 (A3i p1 p2) (fun (x1:Int) (g2:Unit)=>⟨T [(2,(.ptr (2,u1) 0)),(3,(.ptr (3,u1) 0)),(36,(di (p2.Agents.length:Int))),(37,(di x1))],G [((2,u1),some (.box 33 (A14 p1))),((3,u1),some (.box 25 (Q7 p2)))]⟩) 0 () _ hz1 (sbr rfl rfl) ?_)
 intro x1 g2 z2 hz2 ez2
 unfold A3i at hz2
 refine lr (fun u13 hu13=>sv rfl (A1 (A6 (cc rfl hz2 (fun c5 hz2=> ?_) (fun c5 hz2=> ?_)))))
 refine B0 (A6 (A8 (lr (fun u14 hu14=>sv rfl (sv rfl (A1 (lr (fun u15 hu15=>sd rfl (B2 rfl G_hit rfl rfl) (sd rfl (B2 rfl (gq rfl) rfl rfl) (sv rfl (bs hz2 fun v2 hv2 hz2=>B1 rfl rfl A2 (B2f _ _ _ _ hv2) (.inl rfl) (sv rfl (A1 (lr (fun u16 hu16=>sv rfl (sv rfl (A1 (cc rfl hz2 (fun c6 hz2=> ?_) (fun c6 hz2=> ?_)))))))))))))))))))
 refine lr (fun u17 hu17=>sv rfl (sv rfl (A1 (B3 ?_))))
 cases hz2
 obtain rfl:=ez2 _ rfl
 refine ⟨nofun,H8 ?_⟩
 rw [Sum.elim_inr]at h
 cases h
 exact A7 (.inr rfl) (B7 (B6 rfl) G8) (.refl _)
 refine B0 (L8 (E8 fun u18 hu18=>sv rfl (sv rfl (A1 (K4 ?_)))))
 cases hz2
 exact ⟨rfl,(),(sbr rfl rfl)⟩
 refine D8 rfl ?_
 cases hz2
 obtain rfl:=ez2 _ rfl
 refine ⟨nofun,C7 rfl (l_j ?_)⟩
 exact ⟨_,(),rfl,(sbr rfl rfl)⟩
 rintro _ ⟨y1,g1,rfl,q1⟩
 rw [Sum.elim_inl]at h
 refine B4 q1 (A6 (lr (fun u19 hu19=>sp rfl rfl (sl rfl (gq rfl) rfl (sd rfl (L9 rfl) (sv rfl (A1 (js h fun z3 hz3 h=>I6 (fun s=> ∃(y2:Unit) (g3:Unit),z3= .inl y2∧Sb ⟨T [(3,(.ptr (3,u1) 0))],G [((3,u1),some (.box 25 (Q7 p2)))]⟩ s) ?_ ?_))))))))
 refine A8 (J3 (A3h p1 p2) (fun (x2:Int) (g4:Unit)=>⟨T [(2,(.ptr (2,u1) 0)),(3,(.ptr (3,u1) 0)),(49,(dl L4 p2.In)),(50,(di (p2.In.length:Int))),(51,(di x2))],G [((2,u1),some (.box 33 (A14 p1))),((3,u1),some (.box 25 (Q7 p2)))]⟩) 0 () _ hz3 (sbr rfl rfl) ?_)
 intro x2 g4 z4 hz4 ez4
 unfold A3h at hz4
 refine lr (fun u20 hu20=>sv rfl (A1 (A6 (cc rfl hz4 (fun c7 hz4=> ?_) (fun c7 hz4=> ?_)))))
 refine B0 (A6 (A8 (lr (fun u21 hu21=>sv rfl (bs hz4 fun v3 hv3 hz4=>sd rfl (K5 rfl rfl hv3 rfl) (sd rfl (E7 rfl hv3 rfl rfl) (sn rfl rfl (sv rfl (sst rfl G_hit (B6a v3) rfl (A1 (A6 (M8 rfl fun u22 hu22=>sp rfl rfl (sl rfl G_hit rfl (sv rfl (sv rfl (gp rfl (A2t rfl) (fun _=>rfl) (gf rfl (vl rfl G_hit rfl) (gp rfl (A2t rfl) (fun _=>rfl) (gf rfl (vl rfl (gq rfl) rfl) (gf rfl (fun w8=>(L9 (A5 w8))) (gf rfl (fun w9=>(A1i (A5 w9) (A5 w9) rfl)) (sd rfl (A6a rfl rfl (fun hc=>A5 (W6 hc))) (sv rfl (gp rfl (A2t rfl) (fun _=>rfl) (gf rfl (vl rfl G_hit rfl) (gf rfl (vb rfl rfl rfl) (sd rfl (A6a rfl rfl (fun hc=>A5 (W6 hc))) (sv rfl (gp rfl (A2t rfl) (fun _=>rfl) (gf rfl (vl rfl G_hit rfl) (gp rfl (A2t rfl) (fun _=>rfl) (gf rfl (vl rfl (gq rfl) rfl) (gf rfl (fun w17=>(L9 (A5 w17))) (gf rfl (fun w18=>(A1i (A5 w18) (A5 w18) rfl)) (sd rfl (A6a rfl rfl (fun hc=>A5 (W6 hc))) (sv rfl (gf rfl (fun _=>rfl) (gf rfl (vb rfl rfl rfl) (gf rfl (fun w21=>(v_mv (A5 w21))) (Z4 _ (.ptr _ _) rfl (B4e rfl) (fun _=>rfl) (gv rfl (B4e rfl) (vl rfl (gq rfl) rfl) (gv rfl (B4e rfl) (fun _=>rfl) (gv rfl (B4e rfl) (vb rfl rfl rfl) (bs hz4 fun v4 hv4 hz4=>gv rfl (B4e rfl) (fun w26=>(K5 (A5 w26) (A5 w26) (E2 w26 hv4) rfl)) (gv rfl (B4e rfl) (fun w27=>(E7 (A5 w27) (E2 w27 hv4) rfl rfl)) (gv rfl (B4e rfl) (fun w28=>(B2 rfl G_hit rfl rfl)) (bs hz4 fun v5 hv5 hz4=> ?_)))))))))))))))))))))))))))))))))))))))))))))))
 refine U4 _ (i64 v5) (B4e rfl) (fun w29=>⟨_,[(.d (.agg (L4 v4))),(.d (.agg (L4 v3)))],_,_,(by simp only [A5 w29];rfl),rfl,A2,A8m _ _ _ (E2 w29 hv5),(.inl rfl)⟩) ?_
 refine gv rfl (B4e rfl) (vb rfl rfl rfl) (gf rfl (fun w31=>(C5k (A5 w31) (fun hc=>A5 (C8z w31 hc)) rfl)) (sd rfl (A6a rfl rfl (fun hc=>A5 (W6 hc))) (A1 (cc rfl hz4 (fun c8 hz4=> ?_) (fun c8 hz4=> ?_)))))
 refine lr (fun u23 hu23=>sv rfl (A1 (B3 ?_)))
 cases hz4
 obtain rfl:=ez4 _ rfl
 refine ⟨nofun,H8 ?_⟩
 rw [Sum.elim_inr]at h
 cases h
 exact A7 (.inr rfl) (B7 (B6 rfl) G8) (.refl _)
 refine B0 (L8 (E8 fun u24 hu24=>sv rfl (sv rfl (A1 (K4 ?_)))))
 cases hz4
 exact ⟨rfl,(),(sbr rfl rfl)⟩
 refine D8 rfl ?_
 cases hz4
 obtain rfl:=ez4 _ rfl
 refine ⟨nofun,C7 rfl (l_j ?_)⟩
 exact ⟨_,(),rfl,(sbr rfl rfl)⟩
 rintro _ ⟨y2,g3,rfl,q2⟩
 rw [Sum.elim_inl]at h
 refine B4 q2 (A6 (lr (fun u25 hu25=>sp rfl rfl (sl rfl G_hit rfl (C9 (.fn _ _ _) rfl rfl (bs h fun v6 hv6 h=>B1 rfl (rD (C0 (B67 D3 (C0 (A0q G_hit (rD (rD (rD D3)))) D3)) D3)) A2 (A0g _ _ _ hv6) (.inr rfl) (A1 (cc rfl h (fun c9 h=> ?_) (fun c9 h=> ?_)))))))))
 refine lr (fun u26 hu26=>sv rfl (A1 (B3 ?_)))
 cases h
 exact A7 (.inr rfl) (B7 (B6 rfl) G8) (.refl _)
 refine B0 (lr (fun u27 hu27=>sv rfl (A1 (B3 ?_))))
 cases h
 exact A7 (.inr rfl) (B7 (B6 rfl) G8) (.refl _)
noncomputable def A7l (p1:Agent):Option Bool:=
  some p1.Gone
theorem B6c (p1:Agent)(r:Bool)(h:A7l p1=some r):PCall Tryz.prog 79 [(.agg (C3 p1))] (bo r):=by
 refine B8 (fk Tryz.func79 Tryz.ntmps79 m0 (by with_unfolding_all rfl)) (nl rfl) ?_
 unfold A7l at h
 refine B4 (s0:=⟨T [(0,(.d _))],G []⟩) (sbr rfl rfl) ?_
 refine lr (fun u1 hu1=>sn rfl rfl (sv rfl (A1 (lr (fun u2 hu2=>sp rfl rfl (sl rfl G_hit rfl (sv rfl (A1 (B3 ?_)))))))))
 cases h
 exact A7 (.inr rfl) (B7 (B6 rfl) G8) (.refl _)
noncomputable def G9 (p1:(List Agent))(x1:Int):Option (Stp Int (Sum Unit Int)):=
  cond (decide (x1< (p1.length:Int))) ((G3 p1 x1).bind fun v1=>(A7l v1).bind fun v2=>cond v2 (some (.out (.inr x1))) (some (.go (w64 (x1+1))))) (some (.out (.inl ())))
noncomputable def I9 (p1:(List Agent)):Option Int:=
  thenS (loop (G9 p1) 0) (fun _=>some (-1)) (fun r=>some r)
theorem A1a (p1:(List Agent))(r:Int)(h:I9 p1=some r):PCall Tryz.prog 170 [(.list (List.map C3 p1)),(.fn (.func 79) [] [])] (i64 r):=by
 refine B8 (fk Tryz.func170 Tryz.ntmps170 m0 (by with_unfolding_all rfl)) (nl rfl) ?_
 unfold I9 at h
 refine B4 (s0:=⟨T [(0,(.d _)),(1,(.d _))],G []⟩) (sbr rfl rfl) ?_
 refine lr (fun u1 hu1=>sv rfl (A1 (A6 (lr (fun u2 hu2=>sv rfl (sd rfl (L9 rfl) (sv rfl (A1 (js h fun z1 hz1 h=>I6 (fun s=> ∃(y1:Unit) (g1:Unit),z1= .inl y1∧Sb ⟨T [],G []⟩ s) ?_ ?_)))))))))
 refine A8 (J3 (G9 p1) (fun (x1:Int) (g2:Unit)=>⟨T [(0,(dl C3 p1)),(1,(.d (.fn (.func 79) [] []))),(7,(di (p1.length:Int))),(8,(di x1))],G []⟩) 0 () _ hz1 (sbr rfl rfl) ?_)
 intro x1 g2 z2 hz2 ez2
 unfold G9 at hz2
 refine lr (fun u3 hu3=>sv rfl (A1 (A6 (cc rfl hz2 (fun c1 hz2=> ?_) (fun c1 hz2=> ?_)))))
 refine B0 (A6 (A8 (lr (fun u4 hu4=>sv rfl (sv rfl (A1 (lr (fun u5 hu5=>sv rfl (sv rfl (sv rfl (bs hz2 fun v1 hv1 hz2=>sd rfl (K5 rfl rfl hv1 rfl) (sd rfl (E7 rfl hv1 rfl rfl) (bs hz2 fun v2 hv2 hz2=>B1 rfl rfl A2 (B6c _ _ hv2) (.inl rfl) (A1 (cc rfl hz2 (fun c2 hz2=> ?_) (fun c2 hz2=> ?_))))))))))))))))
 refine lr (fun u6 hu6=>sv rfl (sv rfl (A1 (B3 ?_))))
 cases hz2
 obtain rfl:=ez2 _ rfl
 refine ⟨nofun,H8 ?_⟩
 rw [Sum.elim_inr]at h
 cases h
 exact A7 (.inr rfl) (B7 (B6 rfl) G8) (.refl _)
 refine B0 (L8 (E8 fun u7 hu7=>sv rfl (sv rfl (A1 (K4 ?_)))))
 cases hz2
 exact ⟨rfl,(),(sbr rfl rfl)⟩
 refine D8 rfl ?_
 cases hz2
 obtain rfl:=ez2 _ rfl
 refine ⟨nofun,C7 rfl (l_j ?_)⟩
 exact ⟨_,(),rfl,(sbr rfl rfl)⟩
 rintro _ ⟨y1,g1,rfl,q1⟩
 rw [Sum.elim_inl]at h
 refine B4 q1 (lr (fun u8 hu8=>sv rfl (A1 (B3 ?_))))
 cases h
 exact A7 (.inr rfl) (B7 (B6 rfl) G8) (.refl _)
noncomputable def H4 (p1:(List Agent)):Option Bool:=
  (I9 p1).bind fun v1=>some (decide (v1≥0))
theorem A0j (p1:(List Agent))(r:Bool)(h:H4 p1=some r):PCall Tryz.prog 78 [(.list (List.map C3 p1)),(.fn (.func 79) [] [])] (bo r):=by
 refine B8 (fk Tryz.func78 Tryz.ntmps78 m0 (by with_unfolding_all rfl)) (nl rfl) ?_
 unfold H4 at h
 refine B4 (s0:=⟨T [(0,(.d _)),(1,(.d _))],G []⟩) (sbr rfl rfl) ?_
 refine lr (fun u1 hu1=>sv rfl (A1 (lr (fun u2 hu2=>sv rfl (sv rfl (bs h fun v1 hv1 h=>B1 rfl rfl A2 (A1a _ _ hv1) (.inl rfl) (sv rfl (sv rfl (A1 (B3 ?_))))))))))
 cases h
 exact A7 (.inr rfl) (B7 (B6 rfl) G8) (.refl _)
noncomputable def A2e (p1:State)(p2:Int):Option Bool:=
  ((cond ((decide (p2≥0))&& (decide (p2< (p1.Agents.length:Int)))) (G3 p1.Agents p2) (some default))).bind fun v1=>((cond (((decide (p2≥0))&& (decide (p2< (p1.Agents.length:Int))))&& (!v1.Gone)) (G3 p1.Agents p2) (some default))).bind fun v2=>some ((((decide (p2≥0))&& (decide (p2< (p1.Agents.length:Int))))&& (!v1.Gone))&& (decide (v2.Begin≤p1.Tick)))
theorem A5p (p1:State)(p2:Int)(r:Bool)(h:A2e p1 p2=some r):PCall Tryz.prog 36 [(.agg (A0r p1)),(i64 p2)] (bo r):=by
 refine B8 (fk Tryz.func36 Tryz.ntmps36 m0 (by with_unfolding_all rfl)) (nl rfl) ?_
 unfold A2e at h
 refine B4 (s0:=⟨T [(0,(.d _)),(1,(.d _))],G []⟩) (sbr rfl rfl) ?_
 refine lr (fun u1 hu1=>sn rfl rfl (sv rfl (A1 (A6 (M8 rfl fun u2 hu2=>sv rfl (sv rfl (sv rfl (gt rfl (fun _=>rfl) (gp rfl (Y4 rfl) (fun _=>rfl) (gt rfl (vl rfl G_hit rfl) (gt rfl (fun w4=>(L9 (A5 w4))) (gt rfl (fun w5=>(A1i (A5 w5) (A5 w5) rfl)) (sa rfl rfl rfl (sv rfl (gp rfl (Y4 rfl) (fun _=>rfl) (gt rfl (vl rfl G_hit rfl) (gt rfl (fun _=>rfl) (bs h fun v1 hv1 h=>gt rfl (fun w9=>(K5 (A5 w9) (A5 w9) (E2 w9 hv1) rfl)) ?_))))))))))))))))))
 refine gt rfl (fun w10=>(by simp only [A5 w10];rfl)) ?_
 refine gt rfl (fun w11=>(M1 (A5 w11) (E2 w11 hv1) rfl)) ?_
 refine Z4 _ (.d (bo (!v1.Gone))) rfl (Y4 rfl) (fun w12=>(by simp only [A5 w12];rfl)) ?_
 refine sa rfl rfl rfl (sv rfl (gp rfl (Y4 rfl) (fun _=>rfl) (gt rfl (vl rfl G_hit rfl) (gt rfl (fun _=>rfl) (bs h fun v2 hv2 h=>gt rfl (fun w16=>(K5 (A5 w16) (A5 w16) (E2 w16 hv2) rfl)) ?_)))))
 refine gt rfl (fun w17=>(by simp only [A5 w17];rfl)) ?_
 refine gt rfl (fun w18=>(M1 (A5 w18) (E2 w18 hv2) rfl)) (gp rfl (Y4 rfl) (fun _=>rfl) (gt rfl (vl rfl G_hit rfl) (gt rfl (fun w21=>(A1i (A5 w21) (A5 w21) rfl)) (sa rfl rfl rfl (sv rfl (A1 (B3 ?_)))))))
 cases h
 exact A7 (.inr rfl) (B7 (B6 rfl) G8) (.refl _)
noncomputable def A5h (p1:Agent):Option Bool:=
  some ((((decide (p1.S≥0))&& (decide (p1.S≤1099511627776)))&& (decide (p1.Len≥0)))&& (decide (p1.Len≤1099511627776)))
theorem B00 (p1:Agent)(r:Bool)(h:A5h p1=some r):PCall Tryz.prog 138 [(.agg (C3 p1))] (bo r):=by
 refine B8 (fk Tryz.func138 Tryz.ntmps138 m0 (by with_unfolding_all rfl)) (nl rfl) ?_
 unfold A5h at h
 refine B4 (s0:=⟨T [(0,(.d _))],G []⟩) (sbr rfl rfl) ?_
 refine lr (fun u1 hu1=>sn rfl rfl (sv rfl (A1 (lr (fun u2 hu2=>sp rfl rfl (sl rfl G_hit rfl (sv rfl (sv rfl (gp rfl (Y4 rfl) (fun _=>rfl) (gt rfl (vl rfl G_hit rfl) (gt rfl (vb rfl rfl rfl) (sa rfl rfl rfl (sv rfl (gp rfl (Y4 rfl) (fun _=>rfl) (gt rfl (vl rfl G_hit rfl) (gt rfl (vb rfl rfl rfl) (sa rfl rfl rfl (sv rfl (gp rfl (Y4 rfl) (fun _=>rfl) (gt rfl (vl rfl G_hit rfl) (gt rfl (vb rfl rfl rfl) (sa rfl rfl rfl (sv rfl (A1 (B3 ?_)))))))))))))))))))))))))
 cases h
 exact A7 (.inr rfl) (B7 (B6 rfl) G8) (.refl _)
noncomputable def V7 (p1:Int):Option Bool:=
  some (p1 !=p1)
theorem A1z (p1:Int)(r:Bool)(h:V7 p1=some r):PCall Tryz.prog 255 [(i64 p1)] (bo r):=by
 refine B8 (fk Tryz.func255 Tryz.ntmps255 m0 (by with_unfolding_all rfl)) (nl rfl) ?_
 unfold V7 at h
 refine B4 (s0:=⟨T [(0,(.d _))],G []⟩) (sbr rfl rfl) ?_
 refine lr (fun u1 hu1=>sv rfl (A1 (lr (fun u2 hu2=>sv rfl (sv rfl (sv rfl (sv rfl (A1 (B3 ?_)))))))))
 cases h
 exact A7 (.inr rfl) (B7 (B6 rfl) G8) (.refl _)
end Go.Abs.World
