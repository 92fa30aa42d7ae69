/-
  The Go functions that WorldMoves reaches, as plain Lean functions, and the proofs that the program computes them.
-/
import Derived.Test.YtgjdiioennhoeaaGreatCoreD
import Derived.Test.YtgjdiioennhoeaaGreatProg
import Derived.KernelRfl
import Derived.IntWalk
import Derived.Shelf.SlicesE.Compact
set_option maxRecDepth 20000
set_option maxHeartbeats 4000000
set_option linter.unusedVariables false
namespace Go.Abs.World
open Go Go.Abs Go.Proofs
attribute [local irreducible] Y7 B5v AWL
structure Spot where
  X:Int
  Y:Int
  deriving Inhabited
structure CurveVector where
  x:Int
  y:Int
  deriving Inhabited
structure CurvePiece where
  p:Spot
  v:CurveVector
  l:Int
  start:Int
  deriving Inhabited
abbrev A5v:Spot→List D:=fun x=> [(i64 x.X),(i64 x.Y)]
structure Curve where
  Pts:(List Spot)
  deriving Inhabited
abbrev eCurve:Curve→List D:=fun x=> [(.list (List.map A5v x.Pts))]
structure Stay where
  Agent_:Int
  Zone_:Int
  Since:Int
  Rank:Int
  deriving Inhabited
abbrev N1:Stay→List D:=fun x=> [(i64 x.Agent_),(i64 x.Zone_),(i64 x.Since),(i64 x.Rank)]
abbrev A4:Int→List D:=fun x=> [.v (.int .i64 x)]
structure Agent where
  Route:(List Int)
  S:Int
  V:Int
  Len:Int
  Begin:Int
  Obey:Bool
  Gone:Bool
  deriving Inhabited
structure State where
  Tick:Int
  Agents:(List Agent)
  In:(List Stay)
  deriving Inhabited
abbrev D8:Agent→List D:=fun x=> [(.list (List.map A4 x.Route)),(i64 x.S),(i64 x.V),(i64 x.Len),(i64 x.Begin),(bo x.Obey),(bo x.Gone)]
abbrev A30:State→List D:=fun x=> [(i64 x.Tick),(.list (List.map D8 x.Agents)),(.list (List.map N1 x.In))]
abbrev D69:(List Agent)→List D:=fun x=> [.list (List.map D8 x)]
abbrev D15:(List Int)→List D:=fun x=> [.list (List.map A4 x)]
abbrev E20:Bool→List D:=fun x=> [bo x]
abbrev D94:(List Stay)→List D:=fun x=> [.list (List.map N1 x)]
structure Lane where
  Kind:Int
  Curve_:Curve
  Half:Int
  Limit:Int
  Next:(List Int)
  deriving Inhabited
structure Part where
  Lane_:Int
  From:Int
  To:Int
  Rank:Int
  deriving Inhabited
structure Zone where
  Parts:(List Part)
  Signal_:Int
  deriving Inhabited
structure Phase where
  Ticks:Int
  Green:(List Int)
  deriving Inhabited
structure Signal where
  Offset:Int
  Phases:(List Phase)
  deriving Inhabited
structure Work where
  Lane_:Int
  From:Int
  To:Int
  Begin:Int
  End:Int
  Limit:Int
  deriving Inhabited
structure Map where
  Version:Int
  Lanes:(List Lane)
  Zones:(List Zone)
  Signals:(List Signal)
  Works:(List Work)
  deriving Inhabited
abbrev A8h:Lane→List D:=fun x=> [(i64 x.Kind),(.list (List.map A5v x.Curve_.Pts)),(i64 x.Half),(i64 x.Limit),(.list (List.map A4 x.Next))]
abbrev A53:Part→List D:=fun x=> [(i64 x.Lane_),(i64 x.From),(i64 x.To),(i64 x.Rank)]
abbrev A8i:Zone→List D:=fun x=> [(.list (List.map A53 x.Parts)),(i64 x.Signal_)]
abbrev A39:Phase→List D:=fun x=> [(i64 x.Ticks),(.list (List.map A4 x.Green))]
abbrev B0t:Signal→List D:=fun x=> [(i64 x.Offset),(.list (List.map A39 x.Phases))]
abbrev B93:Work→List D:=fun x=> [(i64 x.Lane_),(i64 x.From),(i64 x.To),(i64 x.Begin),(i64 x.End),(i64 x.Limit)]
abbrev eFn:Nat→List D:=fun x=> [.fn (.func x) [] []]
structure RoadsCheck where
  Map_:Map
  deriving Inhabited
abbrev E21:(Int×Int×Int)→List D:=fun x=> [(i64 x.1),(i64 x.2.1),(i64 x.2.2)]
structure RoadsWay where
  Map_:Map
  lanes:(List Int)
  starts:(List Int)
  length:Int
  deriving Inhabited
structure WorldSpan where
  from_:Int
  to:Int
  deriving Inhabited
structure Crash where
  Tick:Int
  A:Int
  B:Int
  Lane_:Int
  Zone_:Int
  Who:(List Int)
  deriving Inhabited
structure WorldScene where
  m:Map
  before:State
  after:State
  acts:(List Int)
  crashes:(List Crash)
  deriving Inhabited
abbrev A4w:Crash→List D:=fun x=> [(i64 x.Tick),(i64 x.A),(i64 x.B),(i64 x.Lane_),(i64 x.Zone_),(.list (List.map A4 x.Who))]
structure Pass where
  Zone_:Int
  Part_:Int
  From:Int
  To:Int
  deriving Inhabited
abbrev A3a:Pass→List D:=fun x=> [(i64 x.Zone_),(i64 x.Part_),(i64 x.From),(i64 x.To)]
structure Span where
  Lane_:Int
  From:Int
  To:Int
  deriving Inhabited
abbrev B22:Span→List D:=fun x=> [(i64 x.Lane_),(i64 x.From),(i64 x.To)]
structure Anon7 where
  x:Int
  y:Int
  signed:Bool
  code:Int
  deriving Inhabited
structure RuntimeBoundsError where
  x:Int
  y:Int
  signed:Bool
  code:Int
  deriving Inhabited
structure Anon13 where
  msg:ByteArray
  addr:Int
  deriving Inhabited
structure RuntimeErrorAddressString where
  msg:ByteArray
  addr:Int
  deriving Inhabited
structure Anon24 where
  Tick:Int
  Agents:(List Agent)
  In:(List Stay)
  deriving Inhabited
structure Anon32 where
  Version:Int
  Lanes:(List Lane)
  Zones:(List Zone)
  Signals:(List Signal)
  Works:(List Work)
  deriving Inhabited
structure Anon44 where
  Route:(List Int)
  S:Int
  V:Int
  Len:Int
  Begin:Int
  Obey:Bool
  Gone:Bool
  deriving Inhabited
structure Anon60 where
  Pts:(List Spot)
  deriving Inhabited
structure Anon62 where
  Kind:Int
  Curve_:Curve
  Half:Int
  Limit:Int
  Next:(List Int)
  deriving Inhabited
structure Anon72 where
  R:Int
  S:Int
  V:Int
  Len:Int
  Begin:Int
  Disobeys:Bool
  deriving Inhabited
structure KitActor where
  R:Int
  S:Int
  V:Int
  Len:Int
  Begin:Int
  Disobeys:Bool
  deriving Inhabited
structure Anon76 where
  Tick:Int
  A:Int
  B:Int
  Lane_:Int
  Zone_:Int
  Who:(List Int)
  deriving Inhabited
structure Anon82 where
  Stamp:Int
  Lo:Int
  Hi:Int
  deriving Inhabited
structure Mark where
  Stamp:Int
  Lo:Int
  Hi:Int
  deriving Inhabited
structure Anon92 where
  Lane_:Int
  From:Int
  To:Int
  deriving Inhabited
structure Point where
  X:Int
  Y:Int
  V:Int
  deriving Inhabited
structure Anon98 where
  Stamp:Int
  Seen:(List Span)
  Points:(List Point)
  deriving Inhabited
structure Scan where
  Stamp:Int
  Seen:(List Span)
  Points:(List Point)
  deriving Inhabited
structure Anon103 where
  X:Int
  Y:Int
  deriving Inhabited
structure Anon106 where
  X:Int
  Y:Int
  V:Int
  deriving Inhabited
structure Anon113 where
  Lane_:Int
  From:Int
  To:Int
  Rank:Int
  deriving Inhabited
structure Anon116 where
  Parts:(List Part)
  Signal_:Int
  deriving Inhabited
structure Anon119 where
  Offset:Int
  Phases:(List Phase)
  deriving Inhabited
structure Anon122 where
  Lane_:Int
  From:Int
  To:Int
  Begin:Int
  End:Int
  Limit:Int
  deriving Inhabited
structure Anon126 where
  Agent_:Int
  Zone_:Int
  Since:Int
  Rank:Int
  deriving Inhabited
structure Anon134 where
  m:Map
  before:State
  after:State
  acts:(List Int)
  crashes:(List Crash)
  deriving Inhabited
structure Anon164 where
  s:ByteArray
  bad:Bool
  deriving Inhabited
structure WorldReader where
  s:ByteArray
  bad:Bool
  deriving Inhabited
structure Anon171 where
  s:ByteArray
  bad:Bool
  deriving Inhabited
structure Ref04Reader where
  s:ByteArray
  bad:Bool
  deriving Inhabited
structure Anon190 where
  from_:Int
  to:Int
  deriving Inhabited
structure Anon207 where
  Ticks:Int
  Green:(List Int)
  deriving Inhabited
structure Anon211 where
  Map_:Map
  deriving Inhabited
structure Anon228 where
  Zone_:Int
  Part_:Int
  From:Int
  To:Int
  deriving Inhabited
structure WorldBar where
  front:Spot
  rear:Spot
  deriving Inhabited
structure Anon245 where
  m:Map
  eye:Spot
  view:Int
  bodies:(List (List Span))
  bars:(List WorldBar)
  deriving Inhabited
structure WorldLooks where
  m:Map
  eye:Spot
  view:Int
  bodies:(List (List Span))
  bars:(List WorldBar)
  deriving Inhabited
structure Anon247 where
  front:Spot
  rear:Spot
  deriving Inhabited
structure Anon252 where
  x:Int
  y:Int
  deriving Inhabited
structure Anon254 where
  p:Spot
  v:CurveVector
  l:Int
  start:Int
  deriving Inhabited
structure Anon259 where
  Map_:Map
  lanes:(List Int)
  starts:(List Int)
  length:Int
  deriving Inhabited
abbrev B0u:WorldScene→List D:=fun x=> [(i64 x.m.Version),(.list (List.map A8h x.m.Lanes)),(.list (List.map A8i x.m.Zones)),(.list (List.map B0t x.m.Signals)),(.list (List.map B93 x.m.Works)),(i64 x.before.Tick),(.list (List.map D8 x.before.Agents)),(.list (List.map N1 x.before.In)),(i64 x.after.Tick),(.list (List.map D8 x.after.Agents)),(.list (List.map N1 x.after.In)),(.list (List.map A4 x.acts)),(.list (List.map A4w x.crashes))]
abbrev X7:WorldScene→List AV:=fun x=> [(.d (i64 x.m.Version)),(.d (.list (List.map A8h x.m.Lanes))),(.d (.list (List.map A8i x.m.Zones))),(.d (.list (List.map B0t x.m.Signals))),(.d (.list (List.map B93 x.m.Works))),(.d (i64 x.before.Tick)),(.d (.list (List.map D8 x.before.Agents))),(.d (.list (List.map N1 x.before.In))),(.d (i64 x.after.Tick)),(.d (.list (List.map D8 x.after.Agents))),(.d (.list (List.map N1 x.after.In))),(.d (.list (List.map A4 x.acts))),(.d (.list (List.map A4w x.crashes)))]
abbrev D3l:RoadsWay→List D:=fun x=> [(i64 x.Map_.Version),(.list (List.map A8h x.Map_.Lanes)),(.list (List.map A8i x.Map_.Zones)),(.list (List.map B0t x.Map_.Signals)),(.list (List.map B93 x.Map_.Works)),(.list (List.map A4 x.lanes)),(.list (List.map A4 x.starts)),(i64 x.length)]
abbrev B0v:RoadsWay→List AV:=fun x=> [(.d (i64 x.Map_.Version)),(.d (.list (List.map A8h x.Map_.Lanes))),(.d (.list (List.map A8i x.Map_.Zones))),(.d (.list (List.map B0t x.Map_.Signals))),(.d (.list (List.map B93 x.Map_.Works))),(.d (.list (List.map A4 x.lanes))),(.d (.list (List.map A4 x.starts))),(.d (i64 x.length))]
abbrev V4:Agent→List AV:=fun x=> [(.d (.list (List.map A4 x.Route))),(.d (i64 x.S)),(.d (i64 x.V)),(.d (i64 x.Len)),(.d (i64 x.Begin)),(.d (bo x.Obey)),(.d (bo x.Gone))]
abbrev E22:Work→List AV:=fun x=> [(.d (i64 x.Lane_)),(.d (i64 x.From)),(.d (i64 x.To)),(.d (i64 x.Begin)),(.d (i64 x.End)),(.d (i64 x.Limit))]
abbrev C85:CurvePiece→List D:=fun x=> [(i64 x.p.X),(i64 x.p.Y),(i64 x.v.x),(i64 x.v.y),(i64 x.l),(i64 x.start)]
abbrev C86:CurvePiece→List AV:=fun x=> [(.d (i64 x.p.X)),(.d (i64 x.p.Y)),(.d (i64 x.v.x)),(.d (i64 x.v.y)),(.d (i64 x.l)),(.d (i64 x.start))]
abbrev A3b:Map→List D:=fun x=> [(i64 x.Version),(.list (List.map A8h x.Lanes)),(.list (List.map A8i x.Zones)),(.list (List.map B0t x.Signals)),(.list (List.map B93 x.Works))]
abbrev A09:Map→List AV:=fun x=> [(.d (i64 x.Version)),(.d (.list (List.map A8h x.Lanes))),(.d (.list (List.map A8i x.Zones))),(.d (.list (List.map B0t x.Signals))),(.d (.list (List.map B93 x.Works)))]
abbrev C4v:Lane→List AV:=fun x=> [(.d (i64 x.Kind)),(.d (.list (List.map A5v x.Curve_.Pts))),(.d (i64 x.Half)),(.d (i64 x.Limit)),(.d (.list (List.map A4 x.Next)))]
abbrev C04:Part→List AV:=fun x=> [(.d (i64 x.Lane_)),(.d (i64 x.From)),(.d (i64 x.To)),(.d (i64 x.Rank))]
abbrev C05:Stay→List AV:=fun x=> [(.d (i64 x.Agent_)),(.d (i64 x.Zone_)),(.d (i64 x.Since)),(.d (i64 x.Rank))]
abbrev N0:State→List AV:=fun x=> [(.d (i64 x.Tick)),(.d (.list (List.map D8 x.Agents))),(.d (.list (List.map N1 x.In)))]
noncomputable def A4h (p1:State)(x1:Int):Option (Stp Int (Sum Unit Bool)):=
  cond (decide (x1< (p1.Agents.length:Int))) ((D4 p1.Agents x1).bind fun v1=>cond (decide ((v1.Route.length:Int)>10)) (some (.out (.inr false))) (some (.go (w64 (x1+1))))) (some (.out (.inl ())))
noncomputable def B0w (p1:State):Option Bool:=
  cond ((decide ((p1.Agents.length:Int)>10))||(decide ((p1.In.length:Int)>20))) (some false) (thenS (loop (A4h p1) 0) (fun _=>some true) (fun r=>some r))
theorem C2v (p1:State)(r:Bool)(h:B0w p1=some r):PCall Tryz.prog 20 [(.agg (A30 p1))] (bo r):=by
 refine B7 (fk Tryz.func20 Tryz.ntmps20 m0 (by with_unfolding_all rfl)) (nl rfl) ?_
 unfold B0w at h
 refine B5 (s0:=⟨T [(0,(.d _))],G []⟩) (sbr rfl rfl) ?_
 refine lr (fun u1 hu1=>sn rfl rfl (sv rfl (A1 (A6 (lr (fun u2 hu2=>sp rfl rfl (sl rfl G_hit rfl (sd rfl (E7 rfl) (sv rfl (sv rfl (gp rfl (T8 rfl) (fun _=>rfl) (gf rfl (vl rfl G_hit rfl) (gf rfl (fun w3=>(E7 (A3 w3))) (gf rfl (vb rfl rfl rfl) (sd rfl (A0s rfl rfl (fun hc=>A3 (K9 hc))) (A1 (cc rfl h (fun c1 h=> ?_) (fun c1 h=> ?_))))))))))))))))))
 refine lr (fun u3 hu3=>sv rfl (A1 (B3 ?_)))
 cases h
 exact A7 (.inr rfl) (B6 (B4 rfl) E0) (.refl _)
 refine A9 (A6 (lr (fun u4 hu4=>sv rfl (A1 (js h fun z1 hz1 h=>D7 (fun s=> ∃(y1:Unit) (g1:Unit),z1= .inl y1∧Sb ⟨T [],G []⟩ s) ?_ ?_)))))
 refine A8 (F1 (A4h p1) (fun (x1:Int) (g2:Unit)=>⟨T [(1,(.ptr (1,u1) 0)),(3,(di x1))],G [((1,u1),some (.box 25 (N0 p1)))]⟩) 0 () _ hz1 (sbr rfl rfl) ?_)
 intro x1 g2 z2 hz2 ez2
 unfold A4h at hz2
 refine A6 (lr (fun u5 hu5=>sv rfl (sp rfl rfl (sl rfl G_hit rfl (sd rfl (E7 rfl) (sv rfl (A1 (cc rfl hz2 (fun c2 hz2=> ?_) (fun c2 hz2=> ?_)))))))))
 refine A9 (A6 (A8 (lr (fun u6 hu6=>sp rfl rfl (sl rfl G_hit rfl (sv rfl (bs hz2 fun v1 hv1 hz2=>sd rfl (E2 rfl rfl hv1 rfl) (sv rfl (sd rfl (D9 rfl hv1 rfl) (sd rfl (E7 rfl) (sv rfl (A1 (cc rfl hz2 (fun c3 hz2=> ?_) (fun c3 hz2=> ?_))))))))))))))
 refine lr (fun u7 hu7=>sv rfl (A1 (B3 ?_)))
 cases hz2
 obtain rfl:=ez2 _ rfl
 refine ⟨nofun,E1 ?_⟩
 rw [Sum.elim_inr]at h
 cases h
 exact A7 (.inr rfl) (B6 (B4 rfl) E0) (.refl _)
 refine A9 (G3 (C8 fun u8 hu8=>sv rfl (sv rfl (sv rfl (A1 (G4 ?_))))))
 cases hz2
 exact ⟨rfl,(),(sbr rfl rfl)⟩
 refine C2 rfl ?_
 cases hz2
 obtain rfl:=ez2 _ rfl
 refine ⟨nofun,B9 rfl (l_j ?_)⟩
 exact ⟨_,(),rfl,(sbr rfl rfl)⟩
 rintro _ ⟨y1,g1,rfl,q1⟩
 rw [Sum.elim_inl]at h
 refine B5 q1 (lr (fun u9 hu9=>sv rfl (A1 (B3 ?_))))
 cases h
 exact A7 (.inr rfl) (B6 (B4 rfl) E0) (.refl _)
noncomputable def B0x (p4:(List Int))(x1:(Int× (List Spot))):Option (Stp (Int× (List Spot)) (List Spot)):=
  cond (decide ((w64 (x1.1+1))< (p4.length:Int))) ((D4 p4 x1.1).bind fun v1=>(D4 p4 (w64 (x1.1+1))).bind fun v2=>(A7p x1.2 [(Spot.mk v1 v2)]).bind fun v3=>some (.go ((w64 (x1.1+2)),v3))) (some (.out x1.2))
noncomputable def Y8 (p1:Int)(p2:Int)(p3:(List Int))(p4:(List Int)):Option Lane:=
  (loop (B0x p4) (0,[])).bind fun y1=>cond (p1==3) (some (Lane.mk p1 (Curve.mk y1) 500 p2 p3)) (some (Lane.mk p1 (Curve.mk y1) 1500 p2 p3))
theorem T1 (p1:Int)(p2:Int)(p3:(List Int))(p4:(List Int))(r:Lane)(h:Y8 p1 p2 p3 p4=some r):PCall Tryz.prog 69 [(i64 p1),(i64 p2),(.list (List.map A4 p3)),(.list (List.map A4 p4))] (.agg (A8h r)):=by
 refine B7 (fk Tryz.func69 Tryz.ntmps69 (fun r=>if r==5 then [1013]else []) (by with_unfolding_all rfl)) (nl rfl) ?_
 unfold Y8 at h
 refine B5 (s0:=⟨T [(0,(.d _)),(1,(.d _)),(2,(.d _)),(3,(.d _))],G []⟩) (sbr rfl rfl) ?_
 refine lr (fun u1 hu1=>sn rfl rfl (A1 (lr (fun u2 hu2=>sv rfl (sv rfl (sv rfl (sv rfl (sn rfl rfl (sst rfl G_hit [(di p1),(.d .nilS),(di 1500),(di p2),(dl A4 p3)] rfl (A1 (A6 (lr (fun u3 hu3=>sv rfl (A1 (bs h fun y1 hy1 h=>D7 (fun s=> ∃g1:Nat,Sb ⟨T [(0,(di p1)),(8,(.ptr (8,u1) 0)),(9,(.ptr (9,u2) 0))],G [((8,u1),some (.box 63 (((zs 4).set 1 (.d .nilS))++ [(.d .nilS)]))),((9,u2),some (.box 63 [(di p1),(oS y1 (36,g1)),(di 1500),(di p2),(dl A4 p3)])),((36,g1),oB 104 2 A5v y1)]⟩ s) ?_ ?_)))))))))))))))
 refine A8 (F1 (B0x p4) (fun (x1:(Int× (List Spot))) (g2:Nat)=>⟨T [(0,(di p1)),(3,(dl A4 p4)),(8,(.ptr (8,u1) 0)),(9,(.ptr (9,u2) 0)),(10,(di x1.1))],G [((8,u1),some (.box 63 (((zs 4).set 1 (.d .nilS))++ [(.d .nilS)]))),((9,u2),some (.box 63 [(di p1),(oS x1.2 (36,g2)),(di 1500),(di p2),(dl A4 p3)])),((36,g2),oB 104 2 A5v x1.2)]⟩) (0,[]) 0 _ hy1 (H9 ⟨.of rfl, .of rfl, .of rfl, .of rfl, .of rfl,trivial⟩ (sg rfl (B1 G_hit (.of rfl) (A04 trivial)))) ?_)
 intro x1 g2 z1 hz1 ez1
 unfold B0x at hz1
 refine A6 (lr (fun u4 hu4=>sv rfl (sv rfl (sv rfl (sd rfl (E7 rfl) (sv rfl (A1 (cc rfl hz1 (fun c1 hz1=> ?_) (fun c1 hz1=> ?_)))))))))
 refine A9 (A6 (A8 (I0 rfl fun u5 hu5=>sp rfl rfl (sp rfl rfl (C1 (oS x1.2 (36,g2)) rfl (Z4 rfl (gq rfl) rfl) (sv rfl (sv rfl (bs hz1 fun v1 hv1 hz1=>sd rfl (E2 rfl rfl hv1 rfl) (sd rfl (D9 rfl hv1 rfl) (sv rfl (sv rfl (sv rfl (bs hz1 fun v2 hv2 hz1=>sd rfl (E2 rfl rfl hv2 rfl) (sd rfl (D9 rfl hv2 rfl) (sv rfl (C1 (dl A5v [(Spot.mk v1 v2)]) rfl rfl (bs hz1 fun v3 hv3 hz1=>Z3 A5v (36,g2) x1.2 (Spot.mk v1 v2) [] _ (O0 (fun _=>rfl)) rfl (gq rfl) hv3 (sp rfl rfl (sp rfl rfl (sst rfl (gq rfl) [(di p1),(.sl (36,u5)),(di 1500),(di p2),(dl A4 p3)] rfl (A1 (G3 (C8 fun u6 hu6=>sv rfl (sv rfl (sv rfl (A1 (G4 ?_)))))))))))))))))))))))))))
 cases hz1
 exact ⟨rfl,u5,(H9 ⟨.of rfl, .of rfl, .of rfl, .of rfl, .of rfl,trivial⟩ (sg rfl (B1 G_hit (.box (cv (.cons (.of (A3p (A21 hv3)).symm) cw))) (U5 (gq rfl) trivial))))⟩
 refine C2 rfl ?_
 cases hz1
 obtain rfl:=ez1 _ rfl
 refine ⟨nofun,B9 rfl (l_j ?_)⟩
 exact ⟨g2,(H9 ⟨.of rfl, .of rfl, .of rfl,trivial⟩ (B1 G_hit (.of rfl) (sg rfl (B8 (gq rfl) trivial))))⟩
 rintro _ ⟨g1,q1⟩
 refine B5 q1 (A6 (lr (fun u7 hu7=>sv rfl (sv rfl (A1 (cc rfl h (fun c2 h=> ?_) (fun c2 h=> ?_)))))))
 refine C8 fun u8 hu8=>sp rfl rfl (sst rfl (gq rfl) [(di p1),(oS y1 (36,g1)),(di 500),(di p2),(dl A4 p3)] rfl (A1 (lr (fun u9 hu9=>C1 (A4b [(di p1),(oS y1 (36,g1)),(di 500),(di p2),(dl A4 p3)]) rfl (B2 rfl G_hit rfl rfl) (A9o _ _ _ _ _ (A0j _) rfl rfl (gq rfl) (nl rfl) [(di p1),(oS y1 (36,g1)),(di 500),(di p2),(dl A4 p3)] rfl (A1 (B3 ?_)))))))
 cases h
 exact A7 (.inr rfl) (B6 (K0 rfl G_hit (nl rfl) rfl) (B27 (rD (D3 (A2r (gq rfl)) (rD (rD (rD F2))))))) (.agg (ca rfl (.cons ⟨A2q,rfl⟩ (cz rfl))))
 refine A9 (lr (fun u10 hu10=>C1 (A4b [(di p1),(oS y1 (36,g1)),(di 1500),(di p2),(dl A4 p3)]) rfl (B2 rfl (gq rfl) rfl rfl) (A9o _ _ _ _ _ (A0j _) rfl rfl G_hit (nl rfl) [(di p1),(oS y1 (36,g1)),(di 1500),(di p2),(dl A4 p3)] rfl (A1 (B3 ?_)))))
 cases h
 exact A7 (.inr rfl) (B6 (K0 rfl G_hit (nl rfl) rfl) (B27 (rD (D3 (A2r (gq rfl)) (rD (rD (rD F2))))))) (.agg (ca rfl (.cons ⟨A2q,rfl⟩ (cz rfl))))
noncomputable def B4u:Option Map:=
  (Y8 1 1500 [] [0,0,100000,0]).bind fun v1=>(Y8 1 1500 [] [50000,(-50000),50000,50000]).bind fun v2=>some (Map.mk 0 [v1,v2] [(Zone.mk [(Part.mk 0 48000 52000 1),(Part.mk 1 48000 52000 0)] 0)] [] [])
theorem C6o (r:Map)(h:B4u=some r):PCall Tryz.prog 65 [] (.agg (A3b r)):=by
 refine B7 (fk Tryz.func65 Tryz.ntmps65 (fun r=>if r==1 then [1000,1002,1004,1007,1009]else []) (by with_unfolding_all rfl)) (nl rfl) ?_
 unfold B4u at h
 refine B5 (s0:=⟨T [],G []⟩) (sbr rfl rfl) ?_
 refine lr (fun u1 hu1=>sn rfl rfl (A1 (lr (fun u2 hu2=>C1 (dl A4 [0,0,100000,0]) rfl rfl (bs h fun v1 hv1 h=>B0 rfl rfl (.cons (.refl _) (.cons (.refl _) (.cons DLe.nil A2))) (T1 _ _ _ _ _ hv1) (.inl rfl) (C1 (dl A4 [50000,(-50000),50000,50000]) rfl rfl (bs h fun v2 hv2 h=>B0 rfl rfl (.cons (.refl _) (.cons (.refl _) (.cons DLe.nil A2))) (T1 _ _ _ _ _ hv2) (.inl rfl) (C1 (dl A8h [v1,v2]) rfl (C1o A8h ([v1,v2]:List Lane) (fun _=>rfl) rfl rfl ⟨rfl,rfl,rfl,rfl,rfl,rfl,trivial⟩ (fun _=>rfl)) (sv rfl (sv rfl (C1 (dl A53 [(Part.mk 0 48000 52000 1),(Part.mk 1 48000 52000 0)]) rfl rfl (sv rfl (C1 (dl A8i [(Zone.mk [(Part.mk 0 48000 52000 1),(Part.mk 1 48000 52000 0)] 0)]) rfl rfl (sv rfl (sst rfl G_hit [(di 0),(dl A8h [v1,v2]),(dl A8i [(Zone.mk [(Part.mk 0 48000 52000 1),(Part.mk 1 48000 52000 0)] 0)]),(.d .nilS),(.d .nilS)] rfl (A1 (B3 ?_)))))))))))))))))
 cases h
 exact A7 (.inr rfl) (B6 (K0 rfl G_hit (nl rfl) rfl) E0) (.agg (ca rfl (ca rfl (ca rfl (.cons ⟨DLe.nil,rfl⟩ (.cons ⟨DLe.nil,rfl⟩ .nil))))))
noncomputable def A8n (p1:Int)(p2:Int)(p3:Int):Option Agent:=
  some (Agent.mk [p1] p2 p3 4000 0 false false)
theorem B6b (p1:Int)(p2:Int)(p3:Int)(r:Agent)(h:A8n p1 p2 p3=some r):PCall Tryz.prog 66 [(i64 p1),(i64 p2),(i64 p3)] (.agg (D8 r)):=by
 refine B7 (fk Tryz.func66 Tryz.ntmps66 (fun r=>if r==1 then [1001]else []) (by with_unfolding_all rfl)) (nl rfl) ?_
 unfold A8n at h
 refine B5 (s0:=⟨T [(0,(.d _)),(1,(.d _)),(2,(.d _))],G []⟩) (sbr rfl rfl) ?_
 refine lr (fun u1 hu1=>sn rfl rfl (A1 (lr (fun u2 hu2=>sv rfl (C1 (dl A4 [p1]) rfl rfl (sv rfl (sv rfl (sv rfl (sst rfl G_hit [(dl A4 [p1]),(di p2),(di p3),(di 4000),(di 0),(.d (bo false)),(.d (bo false))] rfl (A1 (B3 ?_)))))))))))
 cases h
 exact A7 (.inr rfl) (B6 (K0 rfl G_hit (nl rfl) rfl) E0) (.refl _)
noncomputable def W6 (p1:List Stay):Option (List Stay):=A7p [] p1
theorem A54 (p1:List Stay)(a0:D)(hl:A7p ([]:List Stay) p1=some p1)(hn: ∀h,X5 (T [(3, .d a0),(2, .d .nilS),(0, .d a0)]) h (.isnil false (.t 3))=some (.d (bo false)))(he: ∀h,A34 h 4 (.d a0)=some (List.map N1 p1)):
    PCall Tryz.prog 121 [a0] (.list (List.map N1 p1)):=by
  refine B7 (fk Tryz.func121 Tryz.ntmps121 m0 (by with_unfolding_all rfl)) (Nat.le_of_ble_eq_true rfl) ?_
  refine (B5 (s0:=⟨T [(0, .d a0)],G []⟩) (H9 ⟨.of rfl,trivial⟩ trivial) ?_)
  refine A6 ?_
  refine C8 fun u1 hu1=> ?_
  refine C1 (.d .nilS) rfl rfl ?_
  refine A1 ?_
  refine A6 ?_
  refine A6 ?_
  refine C8 fun u2 hu2=> ?_
  refine C1 (.d a0) rfl rfl ?_
  refine C1 (.d (bo false)) rfl (hn _) ?_
  refine A1 ?_
  refine B4t rfl ?_
  refine A9 ?_
  refine A6 ?_
  refine C8 fun u3 hu3=> ?_
  refine B5x (.sl _) (.arr 127 4 (List.map N1 ([]:List Stay))) rfl rfl ?_
  refine C1 (.d a0) rfl rfl ?_
  refine B7p N1 _ [] p1 _ (he _) rfl G_hit hl ?_
  refine C1 (.sl _) rfl rfl ?_
  refine A1 ?_
  refine B3 ?_
  exact A7 (.inr rfl) (B6 (B4 rfl) (C7x G_hit)) (.refl _)
theorem A6l (p1:List Stay)(r:List Stay)(h:W6 p1=some r):PCall Tryz.prog 121 [.list (List.map N1 p1)] (.list (List.map N1 r)):=by
  have hr:r=p1:=by obtain ⟨_,rfl⟩:=A7q h;rfl
  subst hr
  cases r with
  |cons x xs=>exact A54 (x::xs) _ h (fun _=>rfl) fun _=>O0 (fun _=>rfl)
  |nil=>
   refine PCall.nil fun A cap=> ?_
   cases A with
   |some A=>exact A54 [] (.v (.slice (some A) 0 cap)) h (fun _=>rfl) fun _=>rfl
   |none=>
    refine B7 (fk Tryz.func121 Tryz.ntmps121 m0 (by with_unfolding_all rfl)) (Nat.le_of_ble_eq_true rfl) ?_
    refine (B5 (s0:=⟨T [(0, .d (.v (.slice none 0 cap)))],G []⟩) (H9 ⟨.of rfl,trivial⟩ trivial) ?_)
    refine A6 ?_
    refine C8 fun u1 hu1=> ?_
    refine C1 (.d .nilS) rfl rfl ?_
    refine A1 ?_
    refine A6 ?_
    refine A6 ?_
    refine C8 fun u2 hu2=> ?_
    refine C1 (.d _) rfl rfl ?_
    refine C1 (.d (bo true)) rfl rfl ?_
    refine A1 ?_
    refine B8x rfl ?_
    refine A6 ?_
    refine C8 fun u3 hu3=> ?_
    refine C1 (.d .nilS) rfl rfl ?_
    refine A1 ?_
    refine B3 ?_
    exact A7 (.inr rfl) (B6 (B4 rfl) E0) .nil
noncomputable def A13 (p1:List Int):Option (List Int):=A7p [] p1
theorem A6m (p1:List Int)(a0:D)(hl:A7p ([]:List Int) p1=some p1)(hn: ∀h,X5 (T [(3, .d a0),(2, .d .nilS),(0, .d a0)]) h (.isnil false (.t 3))=some (.d (bo false)))(he: ∀h,A34 h 1 (.d a0)=some (List.map A4 p1)):
    PCall Tryz.prog 178 [a0] (.list (List.map A4 p1)):=by
  refine B7 (fk Tryz.func178 Tryz.ntmps178 m0 (by with_unfolding_all rfl)) (Nat.le_of_ble_eq_true rfl) ?_
  refine (B5 (s0:=⟨T [(0, .d a0)],G []⟩) (H9 ⟨.of rfl,trivial⟩ trivial) ?_)
  refine A6 ?_
  refine C8 fun u1 hu1=> ?_
  refine C1 (.d .nilS) rfl rfl ?_
  refine A1 ?_
  refine A6 ?_
  refine A6 ?_
  refine C8 fun u2 hu2=> ?_
  refine C1 (.d a0) rfl rfl ?_
  refine C1 (.d (bo false)) rfl (hn _) ?_
  refine A1 ?_
  refine B4t rfl ?_
  refine A9 ?_
  refine A6 ?_
  refine C8 fun u3 hu3=> ?_
  refine B5x (.sl _) (.arr 3 1 (List.map A4 ([]:List Int))) rfl rfl ?_
  refine C1 (.d a0) rfl rfl ?_
  refine B7p A4 _ [] p1 _ (he _) rfl G_hit hl ?_
  refine C1 (.sl _) rfl rfl ?_
  refine A1 ?_
  refine B3 ?_
  exact A7 (.inr rfl) (B6 (B4 rfl) (C7x G_hit)) (.refl _)
theorem B3u (p1:List Int)(r:List Int)(h:A13 p1=some r):PCall Tryz.prog 178 [.list (List.map A4 p1)] (.list (List.map A4 r)):=by
  have hr:r=p1:=by obtain ⟨_,rfl⟩:=A7q h;rfl
  subst hr
  cases r with
  |cons x xs=>exact A6m (x::xs) _ h (fun _=>rfl) fun _=>O0 (fun _=>rfl)
  |nil=>
   refine PCall.nil fun A cap=> ?_
   cases A with
   |some A=>exact A6m [] (.v (.slice (some A) 0 cap)) h (fun _=>rfl) fun _=>rfl
   |none=>
    refine B7 (fk Tryz.func178 Tryz.ntmps178 m0 (by with_unfolding_all rfl)) (Nat.le_of_ble_eq_true rfl) ?_
    refine (B5 (s0:=⟨T [(0, .d (.v (.slice none 0 cap)))],G []⟩) (H9 ⟨.of rfl,trivial⟩ trivial) ?_)
    refine A6 ?_
    refine C8 fun u1 hu1=> ?_
    refine C1 (.d .nilS) rfl rfl ?_
    refine A1 ?_
    refine A6 ?_
    refine A6 ?_
    refine C8 fun u2 hu2=> ?_
    refine C1 (.d _) rfl rfl ?_
    refine C1 (.d (bo true)) rfl rfl ?_
    refine A1 ?_
    refine B8x rfl ?_
    refine A6 ?_
    refine C8 fun u3 hu3=> ?_
    refine C1 (.d .nilS) rfl rfl ?_
    refine A1 ?_
    refine B3 ?_
    exact A7 (.inr rfl) (B6 (B4 rfl) E0) .nil
noncomputable def A0e (p1:Agent):Option Agent:=
  (A13 p1.Route).bind fun v1=>some (Agent.mk v1 p1.S p1.V p1.Len p1.Begin p1.Obey p1.Gone)
theorem A8o (p1:Agent)(r:Agent)(h:A0e p1=some r):PCall Tryz.prog 87 [(.agg (D8 p1))] (.agg (D8 r)):=by
 refine B7 (fk Tryz.func87 Tryz.ntmps87 m0 (by with_unfolding_all rfl)) (nl rfl) ?_
 unfold A0e at h
 refine B5 (s0:=⟨T [(0,(.d _))],G []⟩) (sbr rfl rfl) ?_
 refine lr (fun u1 hu1=>sn rfl rfl (sn rfl rfl (A1 (lr (fun u2 hu2=>sp rfl rfl (sl rfl (gq rfl) rfl (bs h fun v1 hv1 h=>B0 rfl rfl A2 (B3u _ _ hv1) (.inl rfl) (sp rfl rfl (sst rfl (gq rfl) ((V4 p1).set 0 (dl A4 v1)) rfl (A1 (lr (fun u3 hu3=>sd rfl (B2 rfl G_hit rfl rfl) (sst rfl (gq rfl) ((V4 p1).set 0 (dl A4 v1)) rfl (A1 (B3 ?_)))))))))))))))
 cases h
 exact A7 (.inr rfl) (B6 (K0 rfl G_hit (nl rfl) rfl) E0) (.refl _)
noncomputable def A7u (p1:State)(x1:(Int×State)):Option (Stp (Int×State) State):=
  cond (decide (x1.1< (p1.Agents.length:Int))) ((D4 p1.Agents x1.1).bind fun v2=>(A0e v2).bind fun v3=>(A7p x1.2.Agents [v3]).bind fun v4=>some (.go ((w64 (x1.1+1)),(State.mk x1.2.Tick v4 x1.2.In)))) (some (.out x1.2))
noncomputable def B0h (p1:State):Option State:=
  (W6 p1.In).bind fun v1=>(loop (A7u p1) (0,(State.mk p1.Tick [] v1))).bind fun y1=>some y1
theorem B7u (p1:State)(r:State)(h:B0h p1=some r):PCall Tryz.prog 56 [(.agg (A30 p1))] (.agg (A30 r)):=by
 refine B7 (fk Tryz.func56 Tryz.ntmps56 (fun r=>if r==5 then [1004]else []) (by with_unfolding_all rfl)) (nl rfl) ?_
 unfold B0h at h
 refine B5 (s0:=⟨T [(0,(.d _))],G []⟩) (sbr rfl rfl) ?_
 refine lr (fun u1 hu1=>sn rfl rfl (sn rfl rfl (A1 (A6 (I0 rfl fun u2 hu2=>sp rfl rfl (sl rfl (gq rfl) rfl (sp rfl rfl (sl rfl (gq rfl) rfl (bs h fun v1 hv1 h=>B0 rfl rfl A2 (A6l _ _ hv1) (.inl rfl) (sv rfl (sn rfl rfl (sst rfl G_hit [(di p1.Tick),(.d .nilS),(dl N1 v1)] rfl (A1 (A6 (lr (fun u3 hu3=>sp rfl rfl (sl rfl (gq rfl) rfl (sd rfl (E7 rfl) (sv rfl (A1 (bs h fun y1 hy1 h=>D7 (fun s=> ∃g1:Nat,Sb ⟨T [(2,(.ptr (2,u1) 0)),(3,(.ptr (3,u2) 0))],G [((2,u1),some (.box 25 [(di 0),(.d .nilS),(.d .nilS)])),((3,u2),some (.box 25 [(di y1.Tick),(oS y1.Agents (24,g1)),(dl N1 y1.In)])),((24,g1),oB 45 7 D8 y1.Agents)]⟩ s) ?_ ?_)))))))))))))))))))))
 refine A8 (F1 (A7u p1) (fun (x1:(Int×State)) (g2:Nat)=>⟨T [(2,(.ptr (2,u1) 0)),(3,(.ptr (3,u2) 0)),(13,(dl D8 p1.Agents)),(14,(di (p1.Agents.length:Int))),(15,(di x1.1))],G [((2,u1),some (.box 25 [(di 0),(.d .nilS),(.d .nilS)])),((3,u2),some (.box 25 [(di x1.2.Tick),(oS x1.2.Agents (24,g2)),(dl N1 x1.2.In)])),((24,g2),oB 45 7 D8 x1.2.Agents)]⟩) (0,(State.mk p1.Tick [] v1)) 0 _ hy1 (H9 ⟨.of rfl, .of rfl, .of rfl, .of rfl, .of rfl,trivial⟩ (sg rfl (B1 G_hit (.of rfl) (A04 trivial)))) ?_)
 intro x1 g2 z1 hz1 ez1
 unfold A7u at hz1
 refine lr (fun u4 hu4=>sv rfl (A1 (A6 (cc rfl hz1 (fun c1 hz1=> ?_) (fun c1 hz1=> ?_)))))
 refine A9 (A6 (A8 (lr (fun u5 hu5=>bs hz1 fun v2 hv2 hz1=>sd rfl (E2 rfl rfl hv2 rfl) (sd rfl (C3 rfl hv2 rfl rfl) (sn rfl rfl (sst rfl G_hit (V4 v2) rfl (A1 (I0 rfl fun u6 hu6=>sp rfl rfl (C1 (oS x1.2.Agents (24,g2)) rfl (Z4 rfl (gq rfl) rfl) (sd rfl (B2 rfl G_hit rfl rfl) (bs hz1 fun v3 hv3 hz1=>B0 rfl rfl A2 (A8o _ _ hv3) (.inl rfl) (C1 (dl D8 [v3]) rfl rfl (bs hz1 fun v4 hv4 hz1=>Z3 D8 (24,g2) x1.2.Agents v3 [] _ (O0 (fun _=>rfl)) rfl (gq rfl) hv4 (sp rfl rfl (sst rfl (gq rfl) [(di x1.2.Tick),(.sl (24,u6)),(dl N1 x1.2.In)] rfl (A1 (G3 (C8 fun u7 hu7=>sv rfl (sv rfl (A1 (G4 ?_))))))))))))))))))))))
 cases hz1
 exact ⟨rfl,u6,(H9 ⟨.of rfl, .of rfl, .of rfl, .of rfl, .of rfl,trivial⟩ (sg rfl (B1 G_hit (.box (cv (.cons (.of (A3p (A21 hv4)).symm) cw))) (U5 (gq rfl) trivial))))⟩
 refine C2 rfl ?_
 cases hz1
 obtain rfl:=ez1 _ rfl
 refine ⟨nofun,B9 rfl (l_j ?_)⟩
 exact ⟨g2,(H9 ⟨.of rfl, .of rfl,trivial⟩ (B1 G_hit (.of rfl) (sg rfl (B8 (gq rfl) trivial))))⟩
 rintro _ ⟨g1,q1⟩
 refine B5 q1 (lr (fun u8 hu8=>C1 (A4b [(di y1.Tick),(oS y1.Agents (24,g1)),(dl N1 y1.In)]) rfl (B2 rfl (gq rfl) rfl rfl) (A9o _ _ _ _ _ (A0j _) rfl rfl G_hit (nl rfl) [(di y1.Tick),(oS y1.Agents (24,g1)),(dl N1 y1.In)] rfl (A1 (B3 ?_)))))
 cases h
 exact A7 (.inr rfl) (B6 (K0 rfl G_hit (nl rfl) rfl) (B27 (rD (D3 (A2r (gq rfl)) (rD F2))))) (.agg (ca rfl (.cons ⟨A2q,rfl⟩ (cz rfl))))
noncomputable def A0l (p1:Int)(p2:Int)(p3:Int):Option Bool:=
  some ((decide (p2≤p1))&& (decide (p1≤p3)))
theorem A3c (p1:Int)(p2:Int)(p3:Int)(r:Bool)(h:A0l p1 p2 p3=some r):PCall Tryz.prog 209 [(i64 p1),(i64 p2),(i64 p3)] (bo r):=by
 refine B7 (fk Tryz.func209 Tryz.ntmps209 m0 (by with_unfolding_all rfl)) (nl rfl) ?_
 unfold A0l at h
 refine B5 (s0:=⟨T [(0,(.d _)),(1,(.d _)),(2,(.d _))],G []⟩) (sbr rfl rfl) ?_
 refine lr (fun u1 hu1=>sv rfl (A1 (lr (fun u2 hu2=>sv rfl (sv rfl (sv rfl (sv rfl (gt rfl (fun _=>rfl) (gt rfl (fun _=>rfl) (gt rfl (fun w3=>(S3 (A3 w3) (A3 w3) rfl)) (sa rfl rfl rfl (sv rfl (A1 (B3 ?_))))))))))))))
 cases h
 exact A7 (.inr rfl) (B6 (B4 rfl) E0) (.refl _)
noncomputable def U7 (p1:RoadsCheck):Option Int:=
  (A0l p1.Map_.Version 0 1099511627776).bind fun v1=>cond (!v1) (some 2) (cond ((p1.Map_.Lanes.length:Int)==0) (some 6) (cond ((((decide ((p1.Map_.Lanes.length:Int)>12))||(decide ((p1.Map_.Zones.length:Int)>12)))||(decide ((p1.Map_.Signals.length:Int)>4)))||(decide ((p1.Map_.Works.length:Int)>8))) (some 8) (some 0)))
theorem B4k (p1:RoadsCheck)(r:Int)(h:U7 p1=some r):PCall Tryz.prog 148 [(.agg (A3b p1.Map_))] (i64 r):=by
 refine B7 (fk Tryz.func148 Tryz.ntmps148 m0 (by with_unfolding_all rfl)) (nl rfl) ?_
 unfold U7 at h
 refine B5 (s0:=⟨T [(0,(.d _))],G []⟩) (sbr rfl rfl) ?_
 refine lr (fun u1 hu1=>sn rfl rfl (sv rfl (A1 (A6 (A8 (lr (fun u2 hu2=>sp rfl rfl (sp rfl rfl (sl rfl G_hit rfl (bs h fun v1 hv1 h=>B0 rfl rfl A2 (A3c _ _ _ _ hv1) (.inl rfl) (C1 (.d (bo (!v1))) rfl rfl (sv rfl (A1 (cc rfl h (fun c1 h=> ?_) (fun c1 h=> ?_)))))))))))))))
 refine lr (fun u3 hu3=>sv rfl (A1 (B3 ?_)))
 cases h
 exact A7 (.inr rfl) (B6 (B4 rfl) E0) (.refl _)
 refine lr (fun u4 hu4=>sp rfl rfl (sp rfl rfl (sl rfl G_hit rfl (sd rfl (E7 rfl) (sv rfl (sv rfl (A1 (cc rfl h (fun c2 h=> ?_) (fun c2 h=> ?_)))))))))
 refine lr (fun u5 hu5=>sv rfl (A1 (B3 ?_)))
 cases h
 exact A7 (.inr rfl) (B6 (B4 rfl) E0) (.refl _)
 refine lr (fun u6 hu6=>sp rfl rfl (sp rfl rfl (sl rfl G_hit rfl (sd rfl (E7 rfl) (sv rfl (sv rfl (gp rfl (T8 rfl) (fun _=>rfl) ?_)))))))
 refine A01 _ (.ptr _ _) rfl (T8 rfl) (fun w2=>(by simp only [A3 w2];rfl)) ?_
 refine gf rfl (vl rfl G_hit rfl) (gf rfl (fun w4=>(E7 (A3 w4))) (gf rfl (vb rfl rfl rfl) (sd rfl (A0s rfl rfl (fun hc=>A3 (K9 hc))) (sv rfl (gp rfl (T8 rfl) (fun _=>rfl) ?_)))))
 refine A01 _ (.ptr _ _) rfl (T8 rfl) (fun w7=>(by simp only [A3 w7];rfl)) ?_
 refine gf rfl (vl rfl G_hit rfl) (gf rfl (fun w9=>(E7 (A3 w9))) (gf rfl (vb rfl rfl rfl) (sd rfl (A0s rfl rfl (fun hc=>A3 (K9 hc))) (sv rfl (gp rfl (T8 rfl) (fun _=>rfl) ?_)))))
 refine A01 _ (.ptr _ _) rfl (T8 rfl) (fun w12=>(by simp only [A3 w12];rfl)) ?_
 refine gf rfl (vl rfl G_hit rfl) (gf rfl (fun w14=>(E7 (A3 w14))) (gf rfl (vb rfl rfl rfl) (sd rfl (A0s rfl rfl (fun hc=>A3 (K9 hc))) (sv rfl (A1 (cc rfl h (fun c3 h=> ?_) (fun c3 h=> ?_)))))))
 refine lr (fun u7 hu7=>sv rfl (A1 (B3 ?_)))
 cases h
 exact A7 (.inr rfl) (B6 (B4 rfl) E0) (.refl _)
 refine A9 (G3 (lr (fun u8 hu8=>sv rfl (A1 (B3 ?_)))))
 cases h
 exact A7 (.inr rfl) (B6 (B4 rfl) E0) (.refl _)
noncomputable def A1a (p1:Int):Option (Int×Int×Int):=
  cond ((decide (p1<0))||(decide (p1≥4))) (some (0,0,0)) ((D4 ([(0,0,0),(2000,30,90),(1000,20,60),(300,100,300)]:List (Int×Int×Int)) p1).bind fun v1=>some (v1.1,v1.2.1,v1.2.2))
theorem A7v (p1:Int)(r:(Int×Int×Int))(h:A1a p1=some r):PCall Tryz.prog 157 [(i64 p1)] (.tup [(i64 r.1),(i64 r.2.1),(i64 r.2.2)]):=by
 refine B7 (fk Tryz.func157 Tryz.ntmps157 m0 (by with_unfolding_all rfl)) (nl rfl) ?_
 unfold A1a at h
 refine B5 (s0:=⟨T [(0,(.d _))],G []⟩) (sbr rfl rfl) ?_
 refine lr (fun u1 hu1=>sv rfl (sv rfl (sv rfl (A1 (lr (fun u2 hu2=>sv rfl (sv rfl (sv rfl (sv rfl (sn rfl rfl (sst rfl G_hit [(di 0),(di 0),(di 0),(di 2000),(di 30),(di 90),(di 1000),(di 20),(di 60),(di 300),(di 100),(di 300)] rfl (A1 (A6 (lr (fun u3 hu3=>sv rfl (sv rfl (sv rfl (gf rfl (fun _=>rfl) (gf rfl (vb rfl rfl rfl) (sd rfl (A0s rfl rfl (fun hc=>A3 (K9 hc))) (A1 (cc rfl h (fun c1 h=> ?_) (fun c1 h=> ?_)))))))))))))))))))))))
 refine lr (fun u4 hu4=>sv rfl (sv rfl (sv rfl (A1 (B3 ?_)))))
 cases h
 exact A7 (.inr rfl) (C4h (B4 rfl) (B4 rfl) (B4 rfl) E0 E0 E0) (.refl _)
 refine A9 (lr (fun u5 hu5=>sv rfl (bs h fun v1 hv1 h=>sp rfl (D93 rfl rfl hv1 rfl) (sd rfl (D68 (f:=E21) rfl G_hit hv1 (fun _=>rfl) rfl rfl) (sn rfl rfl (sst rfl G_hit [(di v1.1),(di v1.2.1),(di v1.2.2)] rfl (A1 (A6 (I0 rfl fun u6 hu6=>sp rfl rfl (sl rfl G_hit rfl (sp rfl rfl (sl rfl G_hit rfl (sp rfl rfl (sl rfl G_hit rfl (sv rfl (sv rfl (sv rfl (A1 (B3 ?_)))))))))))))))))))
 cases h
 exact A7 (.inr rfl) (C4h (B4 rfl) (B4 rfl) (B4 rfl) E0 E0 E0) (.refl _)
noncomputable def A17 (p1:(List Spot))(x1:Int):Option (Stp Int (Sum Unit Bool)):=
  cond (decide (x1< (p1.length:Int))) ((D4 p1 x1).bind fun v1=>cond ((decide ((mm2 false v1.X v1.Y)< (-16777216)))||(decide ((mm2 true v1.X v1.Y)>16777216))) (some (.out (.inr false))) (some (.go (w64 (x1+1))))) (some (.out (.inl ())))
noncomputable def A8p (p1:(List Spot)):Option Bool:=
  thenS (loop (A17 p1) 0) (fun _=>some true) (fun r=>some r)
theorem C4w (p1:(List Spot))(r:Bool)(h:A8p p1=some r):PCall Tryz.prog 237 [(.list (List.map A5v p1))] (bo r):=by
 refine B7 (fk Tryz.func237 Tryz.ntmps237 m0 (by with_unfolding_all rfl)) (nl rfl) ?_
 unfold A8p at h
 refine B5 (s0:=⟨T [(0,(.d _))],G []⟩) (sbr rfl rfl) ?_
 refine lr (fun u1 hu1=>sv rfl (A1 (A6 (lr (fun u2 hu2=>sv rfl (sd rfl (E7 rfl) (sv rfl (A1 (js h fun z1 hz1 h=>D7 (fun s=> ∃(y1:Unit) (g1:Unit),z1= .inl y1∧Sb ⟨T [],G []⟩ s) ?_ ?_)))))))))
 refine A8 (F1 (A17 p1) (fun (x1:Int) (g2:Unit)=>⟨T [(5,(dl A5v p1)),(6,(di (p1.length:Int))),(7,(di x1))],G []⟩) 0 () _ hz1 (sbr rfl rfl) ?_)
 intro x1 g2 z2 hz2 ez2
 unfold A17 at hz2
 refine lr (fun u3 hu3=>sv rfl (A1 (A6 (cc rfl hz2 (fun c1 hz2=> ?_) (fun c1 hz2=> ?_)))))
 refine A9 (A6 (A8 (lr (fun u4 hu4=>bs hz2 fun v1 hv1 hz2=>sd rfl (E2 rfl rfl hv1 rfl) (sd rfl (C3 rfl hv1 rfl rfl) (sn rfl rfl (sst rfl G_hit [(di v1.X),(di v1.Y)] rfl (A1 (lr (fun u5 hu5=>sp rfl rfl (sl rfl G_hit rfl (sp rfl rfl (sl rfl G_hit rfl (sv rfl (sv rfl (sv rfl (gp rfl (T8 rfl) (fun _=>rfl) (gf rfl (vl rfl G_hit rfl) (gp rfl (T8 rfl) (fun _=>rfl) (gf rfl (vl rfl G_hit rfl) ?_))))))))))))))))))))
 refine gf rfl (fun w5=>(by simp only [A3 w5];rfl)) ?_
 refine gf rfl (vb rfl rfl rfl) (sd rfl (A0s rfl rfl (fun hc=>A3 (K9 hc))) (A1 (cc rfl hz2 (fun c2 hz2=> ?_) (fun c2 hz2=> ?_))))
 refine lr (fun u6 hu6=>sv rfl (A1 (B3 ?_)))
 cases hz2
 obtain rfl:=ez2 _ rfl
 refine ⟨nofun,E1 ?_⟩
 rw [Sum.elim_inr]at h
 cases h
 exact A7 (.inr rfl) (B6 (B4 rfl) E0) (.refl _)
 refine A9 (G3 (C8 fun u7 hu7=>sv rfl (sv rfl (A1 (G4 ?_)))))
 cases hz2
 exact ⟨rfl,(),(sbr rfl rfl)⟩
 refine C2 rfl ?_
 cases hz2
 obtain rfl:=ez2 _ rfl
 refine ⟨nofun,B9 rfl (l_j ?_)⟩
 exact ⟨_,(),rfl,(sbr rfl rfl)⟩
 rintro _ ⟨y1,g1,rfl,q1⟩
 rw [Sum.elim_inl]at h
 refine B5 q1 (lr (fun u8 hu8=>sv rfl (A1 (B3 ?_))))
 cases h
 exact A7 (.inr rfl) (B6 (B4 rfl) E0) (.refl _)
noncomputable def A7c (p1:Spot)(p2:Spot):Option CurveVector:=
  some (CurveVector.mk (w64 (p2.X - p1.X)) (w64 (p2.Y - p1.Y)))
theorem B7v (p1:Spot)(p2:Spot)(r:CurveVector)(h:A7c p1 p2=some r):PCall Tryz.prog 238 [(.agg [(i64 p1.X),(i64 p1.Y)]),(.agg [(i64 p2.X),(i64 p2.Y)])] (.agg [(i64 r.x),(i64 r.y)]):=by
 refine B7 (fk Tryz.func238 Tryz.ntmps238 m0 (by with_unfolding_all rfl)) (nl rfl) ?_
 unfold A7c at h
 refine B5 (s0:=⟨T [(0,(.d _)),(1,(.d _))],G []⟩) (sbr rfl rfl) ?_
 refine lr (fun u1 hu1=>sn rfl rfl (sn rfl rfl (sn rfl rfl (A1 (lr (fun u2 hu2=>sp rfl rfl (sl rfl (gq rfl) rfl (sp rfl rfl (sl rfl (gq rfl) rfl (sv rfl (sp rfl rfl (sl rfl (gq rfl) rfl (sp rfl rfl (sl rfl (gq rfl) rfl (sv rfl (sv rfl (sst rfl G_hit [(di (w64 (p2.X - p1.X))),(di (w64 (p2.Y - p1.Y)))] rfl (A1 (B3 ?_)))))))))))))))))))
 cases h
 exact A7 (.inr rfl) (B6 (K0 rfl G_hit (nl rfl) rfl) E0) (.refl _)
noncomputable def X6 (p1:CurveVector)(p2:CurveVector):Option Int:=
  some (w64 ((w64 (p1.x*p2.x))+ (w64 (p1.y*p2.y))))
theorem A6y (p1:CurveVector)(p2:CurveVector)(r:Int)(h:X6 p1 p2=some r):PCall Tryz.prog 240 [(.agg [(i64 p1.x),(i64 p1.y)]),(.agg [(i64 p2.x),(i64 p2.y)])] (i64 r):=by
 refine B7 (fk Tryz.func240 Tryz.ntmps240 m0 (by with_unfolding_all rfl)) (nl rfl) ?_
 unfold X6 at h
 refine B5 (s0:=⟨T [(0,(.d _)),(1,(.d _))],G []⟩) (sbr rfl rfl) ?_
 refine lr (fun u1 hu1=>sn rfl rfl (sn rfl rfl (sv rfl (A1 (lr (fun u2 hu2=>sp rfl rfl (sl rfl (gq rfl) rfl (sp rfl rfl (sl rfl G_hit rfl (sv rfl (sp rfl rfl (sl rfl (gq rfl) rfl (sp rfl rfl (sl rfl G_hit rfl (sv rfl (sv rfl (sv rfl (A1 (B3 ?_)))))))))))))))))))
 cases h
 exact A7 (.inr rfl) (B6 (B4 rfl) E0) (.refl _)
noncomputable def A3u (p1:Int)(x1:(Int×Int)):Option (Stp (Int×Int) Int):=
  cond (decide (x1.1<x1.2)) (cond (decide ((w64 ((w64 ((w64 (x1.1+x1.2)).tdiv 2))* (w64 ((w64 (x1.1+x1.2)).tdiv 2))))<p1)) (some (.go ((w64 ((w64 ((w64 (x1.1+x1.2)).tdiv 2))+1)),x1.2))) (some (.go (x1.1,(w64 ((w64 (x1.1+x1.2)).tdiv 2)))))) (some (.out x1.1))
noncomputable def A5w (p1:Int):Option (Int×Bool):=
  (loop (A3u p1) (0,67108864)).bind fun y1=>some (y1,((w64 (y1*y1))==p1))
theorem B7w (p1:Int)(r:(Int×Bool))(h:A5w p1=some r):PCall Tryz.prog 239 [(i64 p1)] (.tup [(i64 r.1),(bo r.2)]):=by
 refine B7 (fk Tryz.func239 Tryz.ntmps239 m0 (by with_unfolding_all rfl)) (nl rfl) ?_
 unfold A5w at h
 refine B5 (s0:=⟨T [(0,(.d _))],G []⟩) (sbr rfl rfl) ?_
 refine lr (fun u1 hu1=>sv rfl (sv rfl (A1 (lr (fun u2 hu2=>sv rfl (sv rfl (A1 (A6 (bs h fun y1 hy1 h=>D7 (fun s=> ∃g1:Unit,Sb ⟨T [(0,(di p1)),(4,(di y1))],G []⟩ s) ?_ ?_)))))))))
 refine A8 (F1 (A3u p1) (fun (x1:(Int×Int)) (g2:Unit)=>⟨T [(0,(di p1)),(4,(di x1.1)),(5,(di x1.2))],G []⟩) (0,67108864) () _ hy1 (sbr rfl rfl) ?_)
 intro x1 g2 z1 hz1 ez1
 unfold A3u at hz1
 refine A6 (lr (fun u3 hu3=>sv rfl (sv rfl (sv rfl (A1 (cc rfl hz1 (fun c1 hz1=> ?_) (fun c1 hz1=> ?_)))))))
 refine A9 (A8 (lr (fun u4 hu4=>sv rfl (sv rfl (sv rfl (sv rfl (sv rfl (A1 (lr (fun u5 hu5=>sv rfl (sv rfl (sv rfl (sv rfl (sv rfl (A1 (cc rfl hz1 (fun c2 hz1=> ?_) (fun c2 hz1=> ?_)))))))))))))))))
 refine C8 fun u6 hu6=>sv rfl (sv rfl (sv rfl (A1 (G3 (G4 ?_)))))
 cases hz1
 exact ⟨rfl,(),(sbr rfl rfl)⟩
 refine C8 fun u7 hu7=>sv rfl (sv rfl (A1 (G3 (G4 ?_))))
 cases hz1
 exact ⟨rfl,(),(sbr rfl rfl)⟩
 refine C2 rfl ?_
 cases hz1
 obtain rfl:=ez1 _ rfl
 refine ⟨nofun,B9 rfl (l_j ?_)⟩
 exact ⟨(),(sbr rfl rfl)⟩
 rintro _ ⟨g1,q1⟩
 refine B5 q1 (lr (fun u8 hu8=>sv rfl (sv rfl (sv rfl (sv rfl (sv rfl (sv rfl (sv rfl (sv rfl (A1 (B3 ?_)))))))))))
 cases h
 exact A7 (.inr rfl) (B5w (B4 rfl) (B4 rfl) E0 E0) (.refl _)
noncomputable def A0f (p1:Curve)(x1:(Int×CurveVector)):Option (Stp (Int×CurveVector) (Sum Unit Int)):=
  cond (decide (x1.1< (w64 ((p1.Pts.length:Int) - 1)))) ((D4 p1.Pts x1.1).bind fun v2=>(D4 p1.Pts (w64 (x1.1+1))).bind fun v3=>(A7c v2 v3).bind fun v4=>(X6 v4 v4).bind fun v5=>(A5w v5).bind fun v6=>cond (!v6.2) (some (.out (.inr 3))) (cond ((decide (v6.1<1000))||(decide (v6.1>1048576))) (some (.out (.inr 2))) (((cond (decide (x1.1>0)) (X6 x1.2 v4) (some default))).bind fun v7=>cond ((decide (x1.1>0))&& (decide (v7≤0))) (some (.out (.inr 12))) (some (.go ((w64 (x1.1+1)),v4)))))) (some (.out (.inl ())))
noncomputable def A55 (p1:Curve):Option Int:=
  cond (decide ((p1.Pts.length:Int)<2)) (some 6) (cond (decide ((p1.Pts.length:Int)>16)) (some 5) ((A8p p1.Pts).bind fun v1=>cond (!v1) (some 2) (thenS (loop (A0f p1) (0,(CurveVector.mk 0 0))) (fun _=>some 0) (fun r=>some r))))
theorem B6c (p1:Curve)(r:Int)(h:A55 p1=some r):PCall Tryz.prog 198 [(.agg [(.list (List.map A5v p1.Pts))])] (i64 r):=by
 refine B7 (fk Tryz.func198 Tryz.ntmps198 m0 (by with_unfolding_all rfl)) (nl rfl) ?_
 unfold A55 at h
 refine B5 (s0:=⟨T [(0,(.d _))],G []⟩) (sbr rfl rfl) ?_
 refine lr (fun u1 hu1=>sn rfl rfl (sv rfl (A1 (A6 (A8 (lr (fun u2 hu2=>sp rfl rfl (sl rfl G_hit rfl (sd rfl (E7 rfl) (sv rfl (sv rfl (A1 (cc rfl h (fun c1 h=> ?_) (fun c1 h=> ?_))))))))))))))
 refine lr (fun u3 hu3=>sv rfl (A1 (B3 ?_)))
 cases h
 exact A7 (.inr rfl) (B6 (B4 rfl) E0) (.refl _)
 refine lr (fun u4 hu4=>sp rfl rfl (sl rfl G_hit rfl (sd rfl (E7 rfl) (sv rfl (sv rfl (A1 (cc rfl h (fun c2 h=> ?_) (fun c2 h=> ?_))))))))
 refine lr (fun u5 hu5=>sv rfl (A1 (B3 ?_)))
 cases h
 exact A7 (.inr rfl) (B6 (B4 rfl) E0) (.refl _)
 refine lr (fun u6 hu6=>sp rfl rfl (sl rfl G_hit rfl (bs h fun v1 hv1 h=>B0 rfl rfl A2 (C4w _ _ hv1) (.inl rfl) (C1 (.d (bo (!v1))) rfl rfl (sv rfl (A1 (cc rfl h (fun c3 h=> ?_) (fun c3 h=> ?_))))))))
 refine lr (fun u7 hu7=>sv rfl (A1 (B3 ?_)))
 cases h
 exact A7 (.inr rfl) (B6 (B4 rfl) E0) (.refl _)
 refine A9 (G3 (lr (fun u8 hu8=>sn rfl rfl (A1 (A6 (lr (fun u9 hu9=>sp rfl rfl (sl rfl (gq rfl) rfl (sd rfl (E7 rfl) (sv rfl (sv rfl (A1 (js h fun z1 hz1 h=>D7 (fun s=> ∃(y1:Unit) (g1:Unit),z1= .inl y1∧Sb ⟨T [],G []⟩ s) ?_ ?_)))))))))))))
 refine A8 (F1 (A0f p1) (fun (x1:(Int×CurveVector)) (g2:Unit)=>⟨T [(1,(.ptr (1,u1) 0)),(3,(.ptr (3,u8) 0)),(26,(di (w64 ((p1.Pts.length:Int) - 1)))),(27,(di x1.1))],G [((1,u1),some (.box 61 [(dl A5v p1.Pts)])),((3,u8),some (.box 253 [(di x1.2.x),(di x1.2.y)]))]⟩) (0,(CurveVector.mk 0 0)) () _ hz1 (sbr rfl rfl) ?_)
 intro x1 g2 z2 hz2 ez2
 unfold A0f at hz2
 refine lr (fun u10 hu10=>sv rfl (A1 (A6 (cc rfl hz2 (fun c4 hz2=> ?_) (fun c4 hz2=> ?_)))))
 refine A9 (A6 (A8 (lr (fun u11 hu11=>sv rfl (sv rfl (A1 (A6 (I0 rfl fun u12 hu12=>sp rfl rfl (sl rfl G_hit rfl (sv rfl (bs hz2 fun v2 hv2 hz2=>sd rfl (E2 rfl rfl hv2 rfl) (sd rfl (C3 rfl hv2 rfl rfl) (sp rfl rfl (sl rfl G_hit rfl (sv rfl (sv rfl (bs hz2 fun v3 hv3 hz2=>sd rfl (E2 rfl rfl hv3 rfl) (sd rfl (C3 rfl hv3 rfl rfl) (bs hz2 fun v4 hv4 hz2=>B0 rfl rfl A2 (B7v _ _ _ hv4) (.inl rfl) (sn rfl rfl (sst rfl G_hit [(di v4.x),(di v4.y)] rfl (A1 (lr (fun u13 hu13=>sd rfl (B2 rfl G_hit rfl rfl) (sd rfl (B2 rfl G_hit rfl rfl) (bs hz2 fun v5 hv5 hz2=>B0 rfl rfl A2 (A6y _ _ _ hv5) (.inl rfl) (bs hz2 fun v6 hv6 hz2=>B0 rfl rfl A2 (B7w _ _ hv6) (.inl rfl) (sv rfl (sv rfl (sv rfl (sv rfl (sv rfl (A1 (A6 (A8 (lr (fun u14 hu14=>sv rfl (C1 (.d (bo (!v6.2))) rfl rfl (sv rfl (A1 (cc rfl hz2 (fun c5 hz2=> ?_) (fun c5 hz2=> ?_))))))))))))))))))))))))))))))))))))))))))
 refine lr (fun u15 hu15=>sv rfl (A1 (B3 ?_)))
 cases hz2
 obtain rfl:=ez2 _ rfl
 refine ⟨nofun,E1 ?_⟩
 rw [Sum.elim_inr]at h
 cases h
 exact A7 (.inr rfl) (B6 (B4 rfl) E0) (.refl _)
 refine lr (fun u16 hu16=>sv rfl (sv rfl (sv rfl (gf rfl (fun _=>rfl) (gf rfl (vb rfl rfl rfl) (sd rfl (A0s rfl rfl (fun hc=>A3 (K9 hc))) (sv rfl (A1 (cc rfl hz2 (fun c6 hz2=> ?_) (fun c6 hz2=> ?_))))))))))
 refine lr (fun u17 hu17=>sv rfl (A1 (B3 ?_)))
 cases hz2
 obtain rfl:=ez2 _ rfl
 refine ⟨nofun,E1 ?_⟩
 rw [Sum.elim_inr]at h
 cases h
 exact A7 (.inr rfl) (B6 (B4 rfl) E0) (.refl _)
 refine lr (fun u18 hu18=>sv rfl (sv rfl (sv rfl (gt rfl (fun w3=>(B2 rfl (gq rfl) rfl rfl)) (gt rfl (fun w4=>(B2 rfl G_hit rfl rfl)) (bs hz2 fun v7 hv7 hz2=> ?_))))))
 refine S4 _ (i64 v7) (A0d rfl) (fun w5=>⟨_,[(.d (.agg [(i64 x1.2.x),(i64 x1.2.y)])),(.d (.agg [(i64 v4.x),(i64 v4.y)]))],_,_,(by simp only [A3 w5];rfl),rfl,A2,A6y _ _ _ (C0 w5 hv7),(.inl rfl)⟩) ?_
 refine gt rfl (vb rfl rfl rfl) (sa rfl rfl rfl (sv rfl (A1 (cc rfl hz2 (fun c7 hz2=> ?_) (fun c7 hz2=> ?_)))))
 refine lr (fun u19 hu19=>sv rfl (A1 (B3 ?_)))
 cases hz2
 obtain rfl:=ez2 _ rfl
 refine ⟨nofun,E1 ?_⟩
 rw [Sum.elim_inr]at h
 cases h
 exact A7 (.inr rfl) (B6 (B4 rfl) E0) (.refl _)
 refine A9 (G3 (C8 fun u20 hu20=>sd rfl (B2 rfl G_hit rfl rfl) (sst rfl (gq rfl) [(di v4.x),(di v4.y)] rfl (A1 (G3 (C8 fun u21 hu21=>sv rfl (sv rfl (A1 (G4 ?_)))))))))
 cases hz2
 exact ⟨rfl,(),(sbr rfl rfl)⟩
 refine C2 rfl ?_
 cases hz2
 obtain rfl:=ez2 _ rfl
 refine ⟨nofun,B9 rfl (l_j ?_)⟩
 exact ⟨_,(),rfl,(sbr rfl rfl)⟩
 rintro _ ⟨y1,g1,rfl,q1⟩
 rw [Sum.elim_inl]at h
 refine B5 q1 (lr (fun u22 hu22=>sv rfl (A1 (B3 ?_))))
 cases h
 exact A7 (.inr rfl) (B6 (B4 rfl) E0) (.refl _)
noncomputable def Z5 (p1:(List Int))(p3:Int)(x1:(Int×Int)):Option (Stp (Int×Int) (Sum Unit Bool)):=
  cond (decide (x1.2< (p1.length:Int))) ((D4 p1 x1.2).bind fun v1=>cond ((decide (v1<x1.1))||(decide (v1≥p3))) (some (.out (.inr false))) (some (.go ((w64 (v1+1)),(w64 (x1.2+1)))))) (some (.out (.inl ())))
noncomputable def A2d (p1:(List Int))(p2:Int)(p3:Int):Option Bool:=
  thenS (loop (Z5 p1 p3) (p2,0)) (fun _=>some true) (fun r=>some r)
theorem B0y (p1:(List Int))(p2:Int)(p3:Int)(r:Bool)(h:A2d p1 p2 p3=some r):PCall Tryz.prog 210 [(.list (List.map A4 p1)),(i64 p2),(i64 p3)] (bo r):=by
 refine B7 (fk Tryz.func210 Tryz.ntmps210 m0 (by with_unfolding_all rfl)) (nl rfl) ?_
 unfold A2d at h
 refine B5 (s0:=⟨T [(0,(.d _)),(1,(.d _)),(2,(.d _))],G []⟩) (sbr rfl rfl) ?_
 refine lr (fun u1 hu1=>sv rfl (A1 (A6 (lr (fun u2 hu2=>sv rfl (sd rfl (E7 rfl) (sv rfl (A1 (js h fun z1 hz1 h=>D7 (fun s=> ∃(y1:Unit) (g1:Unit),z1= .inl y1∧Sb ⟨T [],G []⟩ s) ?_ ?_)))))))))
 refine A8 (F1 (Z5 p1 p3) (fun (x1:(Int×Int)) (g2:Unit)=>⟨T [(1,(di x1.1)),(2,(di p3)),(9,(dl A4 p1)),(10,(di (p1.length:Int))),(11,(di x1.2))],G []⟩) (p2,0) () _ hz1 (sbr rfl rfl) ?_)
 intro x1 g2 z2 hz2 ez2
 unfold Z5 at hz2
 refine lr (fun u3 hu3=>sv rfl (A1 (A6 (cc rfl hz2 (fun c1 hz2=> ?_) (fun c1 hz2=> ?_)))))
 refine A9 (A6 (A8 (lr (fun u4 hu4=>bs hz2 fun v1 hv1 hz2=>sd rfl (E2 rfl rfl hv1 rfl) (sd rfl (D9 rfl hv1 rfl) (sv rfl (A1 (A6 (lr (fun u5 hu5=>sv rfl (sv rfl (sv rfl (sv rfl (gf rfl (fun _=>rfl) (gf rfl (fun _=>rfl) (gf rfl (fun w3=>(S3 (A3 w3) (A3 w3) rfl)) (sd rfl (A0s rfl rfl (fun hc=>A3 (K9 hc))) (A1 (cc rfl hz2 (fun c2 hz2=> ?_) (fun c2 hz2=> ?_))))))))))))))))))))
 refine lr (fun u6 hu6=>sv rfl (A1 (B3 ?_)))
 cases hz2
 obtain rfl:=ez2 _ rfl
 refine ⟨nofun,E1 ?_⟩
 rw [Sum.elim_inr]at h
 cases h
 exact A7 (.inr rfl) (B6 (B4 rfl) E0) (.refl _)
 refine A9 (C8 fun u7 hu7=>sv rfl (sv rfl (sv rfl (A1 (G3 (C8 fun u8 hu8=>sv rfl (sv rfl (A1 (G4 ?_)))))))))
 cases hz2
 exact ⟨rfl,(),(sbr rfl rfl)⟩
 refine C2 rfl ?_
 cases hz2
 obtain rfl:=ez2 _ rfl
 refine ⟨nofun,B9 rfl (l_j ?_)⟩
 exact ⟨_,(),rfl,(sbr rfl rfl)⟩
 rintro _ ⟨y1,g1,rfl,q1⟩
 rw [Sum.elim_inl]at h
 refine B5 q1 (lr (fun u9 hu9=>sv rfl (A1 (B3 ?_))))
 cases h
 exact A7 (.inr rfl) (B6 (B4 rfl) E0) (.refl _)
noncomputable def S7 (p1:RoadsCheck)(x1:Int):Option (Stp Int (Sum Unit Int)):=
  cond (decide (x1< (p1.Map_.Lanes.length:Int))) ((D4 p1.Map_.Lanes x1).bind fun v1=>(A1a v1.Kind).bind fun v2=>cond (v2.1==0) (some (.out (.inr 4))) ((A55 v1.Curve_).bind fun v3=>cond (v3 !=0) (some (.out (.inr v3))) ((A0l v1.Half 200 4000).bind fun v4=>((cond (!(!v4)) (A0l v1.Limit 1 v2.1) (some default))).bind fun v5=>cond ((!v4)||(!v5)) (some (.out (.inr 2))) (cond (decide ((v1.Next.length:Int)>3)) (some (.out (.inr 8))) ((A2d v1.Next (w64 (x1+1)) (p1.Map_.Lanes.length:Int)).bind fun v6=>cond (!v6) (some (.out (.inr 11))) (some (.go (w64 (x1+1))))))))) (some (.out (.inl ())))
noncomputable def X9 (p1:RoadsCheck):Option Int:=
  thenS (loop (S7 p1) 0) (fun _=>some 0) (fun r=>some r)
theorem B5y (p1:RoadsCheck)(r:Int)(h:X9 p1=some r):PCall Tryz.prog 149 [(.agg (A3b p1.Map_))] (i64 r):=by
 refine B7 (fk Tryz.func149 Tryz.ntmps149 m0 (by with_unfolding_all rfl)) (nl rfl) ?_
 unfold X9 at h
 refine B5 (s0:=⟨T [(0,(.d _))],G []⟩) (sbr rfl rfl) ?_
 refine lr (fun u1 hu1=>sn rfl rfl (sv rfl (A1 (A6 (lr (fun u2 hu2=>sp rfl rfl (sp rfl rfl (sl rfl G_hit rfl (sd rfl (E7 rfl) (sv rfl (A1 (js h fun z1 hz1 h=>D7 (fun s=> ∃(y1:Unit) (g1:Unit),z1= .inl y1∧Sb ⟨T [],G []⟩ s) ?_ ?_))))))))))))
 refine A8 (F1 (S7 p1) (fun (x1:Int) (g2:Unit)=>⟨T [(1,(.ptr (1,u1) 0)),(11,(dl A8h p1.Map_.Lanes)),(12,(di (p1.Map_.Lanes.length:Int))),(13,(di x1))],G [((1,u1),some (.box 212 (A09 p1.Map_)))]⟩) 0 () _ hz1 (sbr rfl rfl) ?_)
 intro x1 g2 z2 hz2 ez2
 unfold S7 at hz2
 refine lr (fun u3 hu3=>sv rfl (A1 (A6 (cc rfl hz2 (fun c1 hz2=> ?_) (fun c1 hz2=> ?_)))))
 refine A9 (A6 (A8 (lr (fun u4 hu4=>sv rfl (bs hz2 fun v1 hv1 hz2=>sd rfl (E2 rfl rfl hv1 rfl) (sd rfl (C3 rfl hv1 rfl rfl) (sn rfl rfl (sv rfl (sst rfl G_hit (C4v v1) rfl (A1 (lr (fun u5 hu5=>sp rfl rfl (sl rfl G_hit rfl (bs hz2 fun v2 hv2 hz2=>B0 rfl rfl A2 (A7v _ _ hv2) (.inl rfl) (sv rfl (sv rfl (sv rfl (sv rfl (sv rfl (sv rfl (sv rfl (A1 (A6 (lr (fun u6 hu6=>sv rfl (sv rfl (A1 (cc rfl hz2 (fun c2 hz2=> ?_) (fun c2 hz2=> ?_)))))))))))))))))))))))))))))
 refine lr (fun u7 hu7=>sv rfl (A1 (B3 ?_)))
 cases hz2
 obtain rfl:=ez2 _ rfl
 refine ⟨nofun,E1 ?_⟩
 rw [Sum.elim_inr]at h
 cases h
 exact A7 (.inr rfl) (B6 (B4 rfl) E0) (.refl _)
 refine A9 (A6 (lr (fun u8 hu8=>sp rfl rfl (sd rfl (B2 rfl G_hit rfl rfl) (bs hz2 fun v3 hv3 hz2=>B0 rfl rfl A2 (B6c _ _ hv3) (.inl rfl) (sv rfl (A1 (lr (fun u9 hu9=>sv rfl (sv rfl (A1 (cc rfl hz2 (fun c3 hz2=> ?_) (fun c3 hz2=> ?_)))))))))))))
 refine lr (fun u10 hu10=>sv rfl (sv rfl (A1 (B3 ?_))))
 cases hz2
 obtain rfl:=ez2 _ rfl
 refine ⟨nofun,E1 ?_⟩
 rw [Sum.elim_inr]at h
 cases h
 exact A7 (.inr rfl) (B6 (B4 rfl) E0) (.refl _)
 refine A9 (A8 (lr (fun u11 hu11=>sp rfl rfl (sl rfl G_hit rfl (bs hz2 fun v4 hv4 hz2=>B0 rfl rfl A2 (A3c _ _ _ _ hv4) (.inl rfl) (C1 (.d (bo (!v4))) rfl rfl (sv rfl (gp rfl (T8 rfl) (fun _=>rfl) (gf rfl (vl rfl G_hit rfl) (gf rfl (fun _=>rfl) (bs hz2 fun v5 hv5 hz2=> ?_)))))))))))
 refine S4 _ (bo v5) (T8 rfl) (fun w4=>⟨_,[(di v1.Limit),(di 1),(di v2.1)],_,_,(by simp only [A3 w4];rfl),rfl,A2,A3c _ _ _ _ (C0 w4 hv5),(.inl rfl)⟩) ?_
 refine A01 _ (.d (bo (!v5))) rfl (T8 rfl) (fun w5=>(by simp only [A3 w5];rfl)) ?_
 refine sd rfl (A0s rfl rfl (fun hc=>A3 (K9 hc))) (sv rfl (A1 (cc rfl hz2 (fun c4 hz2=> ?_) (fun c4 hz2=> ?_))))
 refine lr (fun u12 hu12=>sv rfl (A1 (B3 ?_)))
 cases hz2
 obtain rfl:=ez2 _ rfl
 refine ⟨nofun,E1 ?_⟩
 rw [Sum.elim_inr]at h
 cases h
 exact A7 (.inr rfl) (B6 (B4 rfl) E0) (.refl _)
 refine lr (fun u13 hu13=>sp rfl rfl (sl rfl G_hit rfl (sd rfl (E7 rfl) (sv rfl (sv rfl (A1 (cc rfl hz2 (fun c5 hz2=> ?_) (fun c5 hz2=> ?_))))))))
 refine lr (fun u14 hu14=>sv rfl (A1 (B3 ?_)))
 cases hz2
 obtain rfl:=ez2 _ rfl
 refine ⟨nofun,E1 ?_⟩
 rw [Sum.elim_inr]at h
 cases h
 exact A7 (.inr rfl) (B6 (B4 rfl) E0) (.refl _)
 refine lr (fun u15 hu15=>sp rfl rfl (sl rfl G_hit rfl (sv rfl (sv rfl (sp rfl rfl (sp rfl rfl (sl rfl (gq rfl) rfl (sd rfl (E7 rfl) (bs hz2 fun v6 hv6 hz2=>B0 rfl rfl A2 (B0y _ _ _ _ hv6) (.inl rfl) (C1 (.d (bo (!v6))) rfl rfl (sv rfl (A1 (cc rfl hz2 (fun c6 hz2=> ?_) (fun c6 hz2=> ?_))))))))))))))
 refine lr (fun u16 hu16=>sv rfl (A1 (B3 ?_)))
 cases hz2
 obtain rfl:=ez2 _ rfl
 refine ⟨nofun,E1 ?_⟩
 rw [Sum.elim_inr]at h
 cases h
 exact A7 (.inr rfl) (B6 (B4 rfl) E0) (.refl _)
 refine A9 (G3 (G3 (C8 fun u17 hu17=>sv rfl (sv rfl (A1 (G4 ?_))))))
 cases hz2
 exact ⟨rfl,(),(sbr rfl rfl)⟩
 refine C2 rfl ?_
 cases hz2
 obtain rfl:=ez2 _ rfl
 refine ⟨nofun,B9 rfl (l_j ?_)⟩
 exact ⟨_,(),rfl,(sbr rfl rfl)⟩
 rintro _ ⟨y1,g1,rfl,q1⟩
 rw [Sum.elim_inl]at h
 refine B5 q1 (lr (fun u18 hu18=>sv rfl (A1 (B3 ?_))))
 cases h
 exact A7 (.inr rfl) (B6 (B4 rfl) E0) (.refl _)
noncomputable def R2 (p1:RoadsCheck)(v1:Lane)(v2:Spot)(x2:Int):Option (Stp Int (Sum Unit Int)):=
  cond (decide (x2< (v1.Next.length:Int))) ((D4 v1.Next x2).bind fun v3=>(D4 p1.Map_.Lanes v3).bind fun v4=>cond (v4.Kind !=v1.Kind) (some (.out (.inr 4))) ((D4 p1.Map_.Lanes v3).bind fun v5=>(D4 v5.Curve_.Pts 0).bind fun v6=>cond (!(v6.X==v2.X&& (v6.Y==v2.Y&&true))) (some (.out (.inr 3))) (some (.go (w64 (x2+1)))))) (some (.out (.inl ())))
noncomputable def R3 (p1:RoadsCheck)(x1:Int):Option (Stp Int (Sum Unit Int)):=
  cond (decide (x1< (p1.Map_.Lanes.length:Int))) ((D4 p1.Map_.Lanes x1).bind fun v1=>(D4 v1.Curve_.Pts (w64 ((v1.Curve_.Pts.length:Int) - 1))).bind fun v2=>thenS (loop (R2 p1 v1 v2) 0) (fun _=>some (.go (w64 (x1+1)))) (fun r=>some (.out (.inr r)))) (some (.out (.inl ())))
noncomputable def W5 (p1:RoadsCheck):Option Int:=
  thenS (loop (R3 p1) 0) (fun _=>some 0) (fun r=>some r)
theorem B4v (p1:RoadsCheck)(r:Int)(h:W5 p1=some r):PCall Tryz.prog 150 [(.agg (A3b p1.Map_))] (i64 r):=by
 refine B7 (fk Tryz.func150 Tryz.ntmps150 m0 (by with_unfolding_all rfl)) (nl rfl) ?_
 unfold W5 at h
 refine B5 (s0:=⟨T [(0,(.d _))],G []⟩) (sbr rfl rfl) ?_
 refine lr (fun u1 hu1=>sn rfl rfl (sv rfl (A1 (A6 (lr (fun u2 hu2=>sp rfl rfl (sp rfl rfl (sl rfl G_hit rfl (sd rfl (E7 rfl) (sv rfl (A1 (js h fun z1 hz1 h=>D7 (fun s=> ∃(y1:Unit) (g1:Unit),z1= .inl y1∧Sb ⟨T [],G []⟩ s) ?_ ?_))))))))))))
 refine A8 (F1 (R3 p1) (fun (x1:Int) (g2:Unit)=>⟨T [(1,(.ptr (1,u1) 0)),(10,(dl A8h p1.Map_.Lanes)),(11,(di (p1.Map_.Lanes.length:Int))),(12,(di x1))],G [((1,u1),some (.box 212 (A09 p1.Map_)))]⟩) 0 () _ hz1 (sbr rfl rfl) ?_)
 intro x1 g2 z2 hz2 ez2
 unfold R3 at hz2
 refine lr (fun u3 hu3=>sv rfl (A1 (A6 (cc rfl hz2 (fun c1 hz2=> ?_) (fun c1 hz2=> ?_)))))
 refine A9 (A6 (A8 (lr (fun u4 hu4=>bs hz2 fun v1 hv1 hz2=>sd rfl (E2 rfl rfl hv1 rfl) (sd rfl (C3 rfl hv1 rfl rfl) (sn rfl rfl (sst rfl G_hit (C4v v1) rfl (A1 (lr (fun u5 hu5=>sp rfl rfl (sp rfl rfl (sl rfl G_hit rfl (sp rfl rfl (sp rfl rfl (sl rfl G_hit rfl (sd rfl (E7 rfl) (sv rfl (bs hz2 fun v2 hv2 hz2=>sd rfl (E2 rfl rfl hv2 rfl) (sd rfl (C3 rfl hv2 rfl rfl) (sn rfl rfl (sst rfl G_hit [(di v2.X),(di v2.Y)] rfl (A1 (lr (fun u6 hu6=>sp rfl rfl (sl rfl (gq rfl) rfl (sd rfl (E7 rfl) (sv rfl (A1 (js hz2 fun z3 hz3 hz2=>D7 (fun s=> ∃(y2:Unit) (g3:Unit),z3= .inl y2∧Sb ⟨T [(1,(.ptr (1,u1) 0)),(10,(dl A8h p1.Map_.Lanes)),(11,(di (p1.Map_.Lanes.length:Int))),(12,(di x1))],G [((1,u1),some (.box 212 (A09 p1.Map_)))]⟩ s) ?_ ?_)))))))))))))))))))))))))))))
 refine A8 (F1 (R2 p1 v1 v2) (fun (x2:Int) (g4:Unit)=>⟨T [(1,(.ptr (1,u1) 0)),(4,(.ptr (4,u4) 0)),(5,(.ptr (5,u5) 0)),(10,(dl A8h p1.Map_.Lanes)),(11,(di (p1.Map_.Lanes.length:Int))),(12,(di x1)),(27,(dl A4 v1.Next)),(28,(di (v1.Next.length:Int))),(29,(di x2))],G [((1,u1),some (.box 212 (A09 p1.Map_))),((4,u4),some (.box 63 (C4v v1))),((5,u5),some (.box 104 [(di v2.X),(di v2.Y)]))]⟩) 0 () _ hz3 (sbr rfl rfl) ?_)
 intro x2 g4 z4 hz4 ez4
 unfold R2 at hz4
 refine lr (fun u7 hu7=>sv rfl (A1 (A6 (cc rfl hz4 (fun c2 hz4=> ?_) (fun c2 hz4=> ?_)))))
 refine A9 (A6 (A8 (lr (fun u8 hu8=>bs hz4 fun v3 hv3 hz4=>sd rfl (E2 rfl rfl hv3 rfl) (sd rfl (D9 rfl hv3 rfl) (sv rfl (A1 (A6 (A6 (I0 rfl fun u9 hu9=>sp rfl rfl (sp rfl rfl (sl rfl G_hit rfl (sv rfl (bs hz4 fun v4 hv4 hz4=>sd rfl (E2 rfl rfl hv4 rfl) (sv rfl (sd rfl (D9 rfl hv4 rfl) (sp rfl rfl (sl rfl (gq rfl) rfl (sv rfl (A1 (cc rfl hz4 (fun c3 hz4=> ?_) (fun c3 hz4=> ?_))))))))))))))))))))))
 refine lr (fun u10 hu10=>sv rfl (A1 (B3 ?_)))
 cases hz4
 obtain rfl:=ez4 _ rfl
 refine ⟨nofun,E1 ?_⟩
 rw [Sum.elim_inr]at hz2
 cases hz2
 obtain rfl:=ez2 _ rfl
 refine ⟨nofun,E1 ?_⟩
 rw [Sum.elim_inr]at h
 cases h
 exact A7 (.inr rfl) (B6 (B4 rfl) E0) (.refl _)
 refine A9 (A6 (I0 rfl fun u11 hu11=>sp rfl rfl (sp rfl rfl (sl rfl G_hit rfl (sv rfl (bs hz4 fun v5 hv5 hz4=>sd rfl (E2 rfl rfl hv5 rfl) (sv rfl (sv rfl (sd rfl (D9 rfl hv5 rfl) (bs hz4 fun v6 hv6 hz4=>sd rfl (E2 rfl rfl hv6 rfl) (sd rfl (C3 rfl hv6 rfl rfl) (sd rfl (B2 rfl (gq rfl) rfl rfl) (C1 (.d (bo (!(v6.X==v2.X&& (v6.Y==v2.Y&&true))))) rfl rfl (A1 (cc rfl hz4 (fun c4 hz4=> ?_) (fun c4 hz4=> ?_))))))))))))))))
 refine lr (fun u12 hu12=>sv rfl (A1 (B3 ?_)))
 cases hz4
 obtain rfl:=ez4 _ rfl
 refine ⟨nofun,E1 ?_⟩
 rw [Sum.elim_inr]at hz2
 cases hz2
 obtain rfl:=ez2 _ rfl
 refine ⟨nofun,E1 ?_⟩
 rw [Sum.elim_inr]at h
 cases h
 exact A7 (.inr rfl) (B6 (B4 rfl) E0) (.refl _)
 refine A9 (G3 (C8 fun u13 hu13=>sv rfl (sv rfl (A1 (G4 ?_)))))
 cases hz4
 exact ⟨rfl,(),(sbr rfl rfl)⟩
 refine C2 rfl ?_
 cases hz4
 obtain rfl:=ez4 _ rfl
 refine ⟨nofun,B9 rfl (l_j ?_)⟩
 exact ⟨_,(),rfl,(sbr rfl rfl)⟩
 rintro _ ⟨y2,g3,rfl,q1⟩
 rw [Sum.elim_inl]at hz2
 refine G3 (B5 q1 (C8 fun u14 hu14=>sv rfl (sv rfl (A1 (G4 ?_)))))
 cases hz2
 exact ⟨rfl,(),(sbr rfl rfl)⟩
 refine C2 rfl ?_
 cases hz2
 obtain rfl:=ez2 _ rfl
 refine ⟨nofun,B9 rfl (l_j ?_)⟩
 exact ⟨_,(),rfl,(sbr rfl rfl)⟩
 rintro _ ⟨y1,g1,rfl,q2⟩
 rw [Sum.elim_inl]at h
 refine B5 q2 (lr (fun u15 hu15=>sv rfl (A1 (B3 ?_))))
 cases h
 exact A7 (.inr rfl) (B6 (B4 rfl) E0) (.refl _)
noncomputable def Y0 (p1:Phase):Option Bool:=
  (A0l p1.Ticks 1 10000).bind fun v1=>some (!v1)
theorem B3d (p1:Phase)(r:Bool)(h:Y0 p1=some r):PCall Tryz.prog 212 [(.agg [(i64 p1.Ticks),(.list (List.map A4 p1.Green))])] (bo r):=by
 refine B7 (fk Tryz.func212 Tryz.ntmps212 m0 (by with_unfolding_all rfl)) (nl rfl) ?_
 unfold Y0 at h
 refine B5 (s0:=⟨T [(0,(.d _))],G []⟩) (sbr rfl rfl) ?_
 refine lr (fun u1 hu1=>sn rfl rfl (sv rfl (A1 (lr (fun u2 hu2=>sp rfl rfl (sl rfl G_hit rfl (bs h fun v1 hv1 h=>B0 rfl rfl A2 (A3c _ _ _ _ hv1) (.inl rfl) (C1 (.d (bo (!v1))) rfl rfl (sv rfl (A1 (B3 ?_)))))))))))
 cases h
 exact A7 (.inr rfl) (B6 (B4 rfl) E0) (.refl _)
noncomputable def C6 (p1:(List Phase))(x1:Int):Option (Stp Int (Sum Unit Int)):=
  cond (decide (x1< (p1.length:Int))) ((D4 p1 x1).bind fun v1=>(Y0 v1).bind fun v2=>cond v2 (some (.out (.inr x1))) (some (.go (w64 (x1+1))))) (some (.out (.inl ())))
noncomputable def E4 (p1:(List Phase)):Option Int:=
  thenS (loop (C6 p1) 0) (fun _=>some (-1)) (fun r=>some r)
theorem A18 (p1:(List Phase))(r:Int)(h:E4 p1=some r):PCall Tryz.prog 243 [(.list (List.map A39 p1)),(.fn (.func 212) [] [])] (i64 r):=by
 refine B7 (fk Tryz.func243 Tryz.ntmps243 m0 (by with_unfolding_all rfl)) (nl rfl) ?_
 unfold E4 at h
 refine B5 (s0:=⟨T [(0,(.d _)),(1,(.d _))],G []⟩) (sbr rfl rfl) ?_
 refine lr (fun u1 hu1=>sv rfl (A1 (A6 (lr (fun u2 hu2=>sv rfl (sd rfl (E7 rfl) (sv rfl (A1 (js h fun z1 hz1 h=>D7 (fun s=> ∃(y1:Unit) (g1:Unit),z1= .inl y1∧Sb ⟨T [],G []⟩ s) ?_ ?_)))))))))
 refine A8 (F1 (C6 p1) (fun (x1:Int) (g2:Unit)=>⟨T [(0,(dl A39 p1)),(1,(.d (.fn (.func 212) [] []))),(7,(di (p1.length:Int))),(8,(di x1))],G []⟩) 0 () _ hz1 (sbr rfl rfl) ?_)
 intro x1 g2 z2 hz2 ez2
 unfold C6 at hz2
 refine lr (fun u3 hu3=>sv rfl (A1 (A6 (cc rfl hz2 (fun c1 hz2=> ?_) (fun c1 hz2=> ?_)))))
 refine A9 (A6 (A8 (lr (fun u4 hu4=>sv rfl (sv rfl (A1 (lr (fun u5 hu5=>sv rfl (sv rfl (sv rfl (bs hz2 fun v1 hv1 hz2=>sd rfl (E2 rfl rfl hv1 rfl) (sd rfl (C3 rfl hv1 rfl rfl) (bs hz2 fun v2 hv2 hz2=>B0 rfl rfl A2 (B3d _ _ hv2) (.inl rfl) (A1 (cc rfl hz2 (fun c2 hz2=> ?_) (fun c2 hz2=> ?_))))))))))))))))
 refine lr (fun u6 hu6=>sv rfl (sv rfl (A1 (B3 ?_))))
 cases hz2
 obtain rfl:=ez2 _ rfl
 refine ⟨nofun,E1 ?_⟩
 rw [Sum.elim_inr]at h
 cases h
 exact A7 (.inr rfl) (B6 (B4 rfl) E0) (.refl _)
 refine A9 (G3 (C8 fun u7 hu7=>sv rfl (sv rfl (A1 (G4 ?_)))))
 cases hz2
 exact ⟨rfl,(),(sbr rfl rfl)⟩
 refine C2 rfl ?_
 cases hz2
 obtain rfl:=ez2 _ rfl
 refine ⟨nofun,B9 rfl (l_j ?_)⟩
 exact ⟨_,(),rfl,(sbr rfl rfl)⟩
 rintro _ ⟨y1,g1,rfl,q1⟩
 rw [Sum.elim_inl]at h
 refine B5 q1 (lr (fun u8 hu8=>sv rfl (A1 (B3 ?_))))
 cases h
 exact A7 (.inr rfl) (B6 (B4 rfl) E0) (.refl _)
noncomputable def C7 (p1:(List Phase)):Option Bool:=
  (E4 p1).bind fun v1=>some (decide (v1≥0))
theorem A0t (p1:(List Phase))(r:Bool)(h:C7 p1=some r):PCall Tryz.prog 211 [(.list (List.map A39 p1)),(.fn (.func 212) [] [])] (bo r):=by
 refine B7 (fk Tryz.func211 Tryz.ntmps211 m0 (by with_unfolding_all rfl)) (nl rfl) ?_
 unfold C7 at h
 refine B5 (s0:=⟨T [(0,(.d _)),(1,(.d _))],G []⟩) (sbr rfl rfl) ?_
 refine lr (fun u1 hu1=>sv rfl (A1 (lr (fun u2 hu2=>sv rfl (sv rfl (bs h fun v1 hv1 h=>B0 rfl rfl A2 (A18 _ _ hv1) (.inl rfl) (sv rfl (sv rfl (A1 (B3 ?_))))))))))
 cases h
 exact A7 (.inr rfl) (B6 (B4 rfl) E0) (.refl _)
noncomputable def V6 (p1:Phase)(p2:RoadsCheck):Option Bool:=
  (A2d p1.Green 0 (p2.Map_.Lanes.length:Int)).bind fun v1=>some (!v1)
theorem B23 (p1:Phase)(p2:RoadsCheck)(r:Bool)(h:V6 p1 p2=some r):PCall Tryz.prog 213 [(.agg [(i64 p1.Ticks),(.list (List.map A4 p1.Green))]),(.bp (A3b p2.Map_) 0)] (bo r):=by
 refine B7 (fk Tryz.func213 Tryz.ntmps213 m0 (by with_unfolding_all rfl)) (nl rfl) ?_
 unfold V6 at h
 refine B5 (s0:=⟨T [(0,(.d _)),(1,(.d _))],G []⟩) (sbr rfl rfl) ?_
 refine lr (fun u1 hu1=>sn rfl rfl (sv rfl (A1 (lr (fun u2 hu2=>sp rfl rfl (sl rfl G_hit rfl (sv rfl (sv rfl (sv rfl (sd rfl (E7 rfl) (bs h fun v1 hv1 h=>B0 rfl rfl A2 (B0y _ _ _ _ hv1) (.inl rfl) (C1 (.d (bo (!v1))) rfl rfl (sv rfl (A1 (B3 ?_)))))))))))))))
 cases h
 exact A7 (.inr rfl) (B6 (B4 rfl) E0) (.refl _)
noncomputable def C4 (p1:(List Phase))(p2:RoadsCheck)(x1:Int):Option (Stp Int (Sum Unit Int)):=
  cond (decide (x1< (p1.length:Int))) ((D4 p1 x1).bind fun v1=>(V6 v1 p2).bind fun v2=>cond v2 (some (.out (.inr x1))) (some (.go (w64 (x1+1))))) (some (.out (.inl ())))
noncomputable def E3 (p1:(List Phase))(p2:RoadsCheck):Option Int:=
  thenS (loop (C4 p1 p2) 0) (fun _=>some (-1)) (fun r=>some r)
theorem A14 (p1:(List Phase))(p2:RoadsCheck)(r:Int)(h:E3 p1 p2=some r):PCall Tryz.prog 243 [(.list (List.map A39 p1)),(.fn (.func 213) [] [(.bp (A3b p2.Map_) 0)])] (i64 r):=by
 refine B7 (fk Tryz.func243 Tryz.ntmps243 m0 (by with_unfolding_all rfl)) (nl rfl) ?_
 unfold E3 at h
 refine B5 (s0:=⟨T [(0,(.d _)),(1,(.d _))],G []⟩) (sbr rfl rfl) ?_
 refine lr (fun u1 hu1=>sv rfl (A1 (A6 (lr (fun u2 hu2=>sv rfl (sd rfl (E7 rfl) (sv rfl (A1 (js h fun z1 hz1 h=>D7 (fun s=> ∃(y1:Unit) (g1:Unit),z1= .inl y1∧Sb ⟨T [],G []⟩ s) ?_ ?_)))))))))
 refine A8 (F1 (C4 p1 p2) (fun (x1:Int) (g2:Unit)=>⟨T [(0,(dl A39 p1)),(1,(.d (.fn (.func 213) [] [(.bp (A3b p2.Map_) 0)]))),(7,(di (p1.length:Int))),(8,(di x1))],G []⟩) 0 () _ hz1 (sbr rfl rfl) ?_)
 intro x1 g2 z2 hz2 ez2
 unfold C4 at hz2
 refine lr (fun u3 hu3=>sv rfl (A1 (A6 (cc rfl hz2 (fun c1 hz2=> ?_) (fun c1 hz2=> ?_)))))
 refine A9 (A6 (A8 (lr (fun u4 hu4=>sv rfl (sv rfl (A1 (lr (fun u5 hu5=>sv rfl (sv rfl (sv rfl (bs hz2 fun v1 hv1 hz2=>sd rfl (E2 rfl rfl hv1 rfl) (sd rfl (C3 rfl hv1 rfl rfl) (bs hz2 fun v2 hv2 hz2=>B0 rfl rfl A2 (B23 _ _ _ hv2) (.inl rfl) (A1 (cc rfl hz2 (fun c2 hz2=> ?_) (fun c2 hz2=> ?_))))))))))))))))
 refine lr (fun u6 hu6=>sv rfl (sv rfl (A1 (B3 ?_))))
 cases hz2
 obtain rfl:=ez2 _ rfl
 refine ⟨nofun,E1 ?_⟩
 rw [Sum.elim_inr]at h
 cases h
 exact A7 (.inr rfl) (B6 (B4 rfl) E0) (.refl _)
 refine A9 (G3 (C8 fun u7 hu7=>sv rfl (sv rfl (A1 (G4 ?_)))))
 cases hz2
 exact ⟨rfl,(),(sbr rfl rfl)⟩
 refine C2 rfl ?_
 cases hz2
 obtain rfl:=ez2 _ rfl
 refine ⟨nofun,B9 rfl (l_j ?_)⟩
 exact ⟨_,(),rfl,(sbr rfl rfl)⟩
 rintro _ ⟨y1,g1,rfl,q1⟩
 rw [Sum.elim_inl]at h
 refine B5 q1 (lr (fun u8 hu8=>sv rfl (A1 (B3 ?_))))
 cases h
 exact A7 (.inr rfl) (B6 (B4 rfl) E0) (.refl _)
noncomputable def C5 (p1:(List Phase))(p2:RoadsCheck):Option Bool:=
  (E3 p1 p2).bind fun v1=>some (decide (v1≥0))
theorem A0m (p1:(List Phase))(p2:RoadsCheck)(r:Bool)(h:C5 p1 p2=some r):PCall Tryz.prog 211 [(.list (List.map A39 p1)),(.fn (.func 213) [] [(.bp (A3b p2.Map_) 0)])] (bo r):=by
 refine B7 (fk Tryz.func211 Tryz.ntmps211 m0 (by with_unfolding_all rfl)) (nl rfl) ?_
 unfold C5 at h
 refine B5 (s0:=⟨T [(0,(.d _)),(1,(.d _))],G []⟩) (sbr rfl rfl) ?_
 refine lr (fun u1 hu1=>sv rfl (A1 (lr (fun u2 hu2=>sv rfl (sv rfl (bs h fun v1 hv1 h=>B0 rfl rfl A2 (A14 _ _ _ hv1) (.inl rfl) (sv rfl (sv rfl (A1 (B3 ?_))))))))))
 cases h
 exact A7 (.inr rfl) (B6 (B4 rfl) E0) (.refl _)
noncomputable def P9 (p1:RoadsCheck)(x1:Int):Option (Stp Int (Sum Unit Int)):=
  cond (decide (x1< (p1.Map_.Signals.length:Int))) ((D4 p1.Map_.Signals x1).bind fun v1=>cond ((v1.Phases.length:Int)==0) (some (.out (.inr 6))) (cond (decide ((v1.Phases.length:Int)>6)) (some (.out (.inr 8))) ((A0l v1.Offset 0 1099511627776).bind fun v2=>cond (!v2) (some (.out (.inr 2))) ((C7 v1.Phases).bind fun v3=>cond v3 (some (.out (.inr 2))) ((C5 v1.Phases p1).bind fun v4=>cond v4 (some (.out (.inr 11))) (some (.go (w64 (x1+1))))))))) (some (.out (.inl ())))
noncomputable def U8 (p1:RoadsCheck):Option Int:=
  thenS (loop (P9 p1) 0) (fun _=>some 0) (fun r=>some r)
theorem B4l (p1:RoadsCheck)(r:Int)(h:U8 p1=some r):PCall Tryz.prog 151 [(.agg (A3b p1.Map_))] (i64 r):=by
 refine B7 (fk Tryz.func151 Tryz.ntmps151 m0 (by with_unfolding_all rfl)) (nl rfl) ?_
 unfold U8 at h
 refine B5 (s0:=⟨T [(0,(.d _))],G []⟩) (sbr rfl rfl) ?_
 refine lr (fun u1 hu1=>sn rfl rfl (sv rfl (A1 (A6 (lr (fun u2 hu2=>sp rfl rfl (sp rfl rfl (sl rfl G_hit rfl (sd rfl (E7 rfl) (sv rfl (A1 (js h fun z1 hz1 h=>D7 (fun s=> ∃(y1:Unit) (g1:Unit),z1= .inl y1∧Sb ⟨T [],G []⟩ s) ?_ ?_))))))))))))
 refine A8 (F1 (P9 p1) (fun (x1:Int) (g2:Unit)=>⟨T [(1,(.ptr (1,u1) 0)),(8,(dl B0t p1.Map_.Signals)),(9,(di (p1.Map_.Signals.length:Int))),(10,(di x1))],G [((1,u1),some (.box 212 (A09 p1.Map_)))]⟩) 0 () _ hz1 (sbr rfl rfl) ?_)
 intro x1 g2 z2 hz2 ez2
 unfold P9 at hz2
 refine lr (fun u3 hu3=>sv rfl (A1 (A6 (cc rfl hz2 (fun c1 hz2=> ?_) (fun c1 hz2=> ?_)))))
 refine A9 (A6 (A8 (lr (fun u4 hu4=>bs hz2 fun v1 hv1 hz2=>sd rfl (E2 rfl rfl hv1 rfl) (sd rfl (C3 rfl hv1 rfl rfl) (sn rfl rfl (sst rfl G_hit [(di v1.Offset),(dl A39 v1.Phases)] rfl (A1 (lr (fun u5 hu5=>sp rfl rfl (sl rfl G_hit rfl (sd rfl (E7 rfl) (sv rfl (A1 (A8 (lr (fun u6 hu6=>sv rfl (sv rfl (sv rfl (A1 (cc rfl hz2 (fun c2 hz2=> ?_) (fun c2 hz2=> ?_))))))))))))))))))))))
 refine lr (fun u7 hu7=>sv rfl (A1 (B3 ?_)))
 cases hz2
 obtain rfl:=ez2 _ rfl
 refine ⟨nofun,E1 ?_⟩
 rw [Sum.elim_inr]at h
 cases h
 exact A7 (.inr rfl) (B6 (B4 rfl) E0) (.refl _)
 refine lr (fun u8 hu8=>sv rfl (sv rfl (sv rfl (A1 (cc rfl hz2 (fun c3 hz2=> ?_) (fun c3 hz2=> ?_))))))
 refine lr (fun u9 hu9=>sv rfl (A1 (B3 ?_)))
 cases hz2
 obtain rfl:=ez2 _ rfl
 refine ⟨nofun,E1 ?_⟩
 rw [Sum.elim_inr]at h
 cases h
 exact A7 (.inr rfl) (B6 (B4 rfl) E0) (.refl _)
 refine lr (fun u10 hu10=>sp rfl rfl (sl rfl G_hit rfl (bs hz2 fun v2 hv2 hz2=>B0 rfl rfl A2 (A3c _ _ _ _ hv2) (.inl rfl) (C1 (.d (bo (!v2))) rfl rfl (sv rfl (A1 (cc rfl hz2 (fun c4 hz2=> ?_) (fun c4 hz2=> ?_))))))))
 refine lr (fun u11 hu11=>sv rfl (A1 (B3 ?_)))
 cases hz2
 obtain rfl:=ez2 _ rfl
 refine ⟨nofun,E1 ?_⟩
 rw [Sum.elim_inr]at h
 cases h
 exact A7 (.inr rfl) (B6 (B4 rfl) E0) (.refl _)
 refine lr (fun u12 hu12=>sp rfl rfl (sl rfl G_hit rfl (bs hz2 fun v3 hv3 hz2=>B0 rfl rfl A2 (A0t _ _ hv3) (.inl rfl) (sv rfl (A1 (cc rfl hz2 (fun c5 hz2=> ?_) (fun c5 hz2=> ?_)))))))
 refine lr (fun u13 hu13=>sv rfl (A1 (B3 ?_)))
 cases hz2
 obtain rfl:=ez2 _ rfl
 refine ⟨nofun,E1 ?_⟩
 rw [Sum.elim_inr]at h
 cases h
 exact A7 (.inr rfl) (B6 (B4 rfl) E0) (.refl _)
 refine lr (fun u14 hu14=>sp rfl rfl (sl rfl G_hit rfl (C1 (.fn _ _ _) rfl rfl (bs hz2 fun v4 hv4 hz2=>B0 rfl (rD (D3 (C2s F2 (D3 (A38 (gq rfl) (rD (rD (rD (rD (rD F2)))))) F2)) F2)) A2 (A0m _ _ _ hv4) (.inr rfl) (sv rfl (A1 (cc rfl hz2 (fun c6 hz2=> ?_) (fun c6 hz2=> ?_))))))))
 refine lr (fun u15 hu15=>sv rfl (A1 (B3 ?_)))
 cases hz2
 obtain rfl:=ez2 _ rfl
 refine ⟨nofun,E1 ?_⟩
 rw [Sum.elim_inr]at h
 cases h
 exact A7 (.inr rfl) (B6 (B4 rfl) E0) (.refl _)
 refine A9 (G3 (G3 (C8 fun u16 hu16=>sv rfl (sv rfl (A1 (G4 ?_))))))
 cases hz2
 exact ⟨rfl,(),(sbr rfl rfl)⟩
 refine C2 rfl ?_
 cases hz2
 obtain rfl:=ez2 _ rfl
 refine ⟨nofun,B9 rfl (l_j ?_)⟩
 exact ⟨_,(),rfl,(sbr rfl rfl)⟩
 rintro _ ⟨y1,g1,rfl,q1⟩
 rw [Sum.elim_inl]at h
 refine B5 q1 (lr (fun u17 hu17=>sv rfl (A1 (B3 ?_))))
 cases h
 exact A7 (.inr rfl) (B6 (B4 rfl) E0) (.refl _)
/-- kerbstone/curve.pieces$1 -/
def B3e:AC:=(.seq (.reg [oo 3 (.mv (ci 0))]) (.seq (.reg [oo 8 (.fieldA 0 (.t 1)),oo 9 (.load 1 false (.t 8)),oo 10 (.len (.t 9)),oo 11 (.bin .sub (.t 10) (ci 1)),oo 12 (.mv (ci 0))]) (.block 0 (.loop (.seq (.reg [oo 13 (.bin .lss (.t 12) (.t 11))]) (.seq (.cond (.t 13) .skip (.exit 0)) (.seq (.block 1 (.seq (.reg [oo 14 (.mv (.t 12)),oo 4 (.mv (.t 14))]) (.seq (.draw [oo 15 (.fieldA 0 (.t 1)),oo 16 (.load 1 false (.t 15)),oo 17 (.mv (.t 4)),oo 18 (.idxS 2 (.t 16) (.t 17)),oo 19 (.load 2 true (.t 18)),oo 20 (.fieldA 0 (.t 1)),oo 21 (.load 1 false (.t 20)),oo 22 (.mv (.t 4)),oo 23 (.bin .add (.t 22) (ci 1)),oo 24 (.idxS 2 (.t 21) (.t 23)),oo 25 (.load 2 true (.t 24)),oo 26 (.call (cf 238) [(.t 19),(.t 25)]),oo 5 (.alloc 253 [z0,z0]),oe (.store 2 (.t 5) (.t 26))] []) (.seq (.reg [oo 28 (.load 2 true (.t 5)),oo 29 (.load 2 true (.t 5)),oo 30 (.call (cf 240) [(.t 28),(.t 29)]),oo 31 (.call (cf 239) [(.t 30)]),oo 27 (.mv (.t 31)),oo 32 (.ext (.t 27) 0),oo 33 (.ext (.t 27) 1),oo 6 (.mv (.t 32)),oo 7 (.mv (.t 33))]) (.seq (.seq (.drawB [oo 34 (.mv (.t 0)),oo 35 (.mv (.t 4)),oo 36 (.fieldA 0 (.t 1)),oo 37 (.load 1 false (.t 36)),oo 38 (.mv (.t 4)),oo 39 (.idxS 2 (.t 37) (.t 38)),oo 40 (.load 2 true (.t 39)),oo 41 (.load 2 true (.t 5)),oo 42 (.mv (.t 6)),oo 43 (.mv (.t 3)),oo 44 (.build [z0,z0,z0,z0,z0,z0] [(0,2,(.t 40)),(2,2,(.t 41)),(4,1,(.t 42)),(5,1,(.t 43))]),oo 45 (.icall (.t 34) [(.t 35),(.t 44)]),oo 46 (.un .not (.t 45))] 11 []) (.cond (.t 46) .ret .skip)) (.reg [oo 47 (.mv (.t 3)),oo 48 (.mv (.t 6)),oo 49 (.bin .add (.t 47) (.t 48)),oo 3 (.mv (.t 49))])))))) (.reg [oo 50 (.bin .add (.t 12) (ci 1)),oo 12 (.mv (.t 50))]))))))))
theorem B94:FnOK Tryz.prog 260 51 [] B3e:=⟨_,_,Tryz.func260,rfl,Tryz.ntmps260,by kernel_rfl,⟨fun r=>if r==6 then [11]else [],by kernel_rfl⟩,by kernel_rfl⟩
/-- The pieces of a chain of points, from a number on. -/
noncomputable def A7w (pts:List Spot):Nat→Nat→Int→Option (List (Int×CurvePiece))
  |0,_,_=>some []
  |n+1,i,start=>(pts[i]?).bind fun p=>(pts[i+1]?).bind fun q=>(A7c p q).bind fun v=>(X6 v v).bind fun d=>(A5w d).bind fun r=>
   (A7w pts n (i+1) (w64 (start+r.1))).bind fun l=>some (((i:Int),CurvePiece.mk p v r.1 start)::l)
noncomputable def B6t (pts:List Spot):Option (List (Int×CurvePiece)):=if pts.length≤1000000 then A7w pts (pts.length - 1) 0 0 else none
/-- kerbstone/curve.pieces -/
def B4w:AC:=(.seq (.reg [oo 1 (.box 61 true (.t 0)),oo 2 (.mv (.c (.v .nilFunc)))]) (.seq (.reg [oo 3 (.mkfn (.func 260) [] [(.t 1)]),oo 2 (.mv (.t 3))]) .ret))
theorem C1s:FnOK Tryz.prog 241 4 [.t 2] B4w:=⟨_,_,Tryz.func241,rfl,Tryz.ntmps241,by kernel_rfl,⟨fun _=> [],by kernel_rfl⟩,by kernel_rfl⟩
abbrev C9s (a:Int×CurvePiece):List D:= [i64 a.1, .agg [i64 a.2.p.X,i64 a.2.p.Y,i64 a.2.v.x,i64 a.2.v.y,i64 a.2.l,i64 a.2.start]]
theorem C87 (c:Curve):PCall Tryz.prog 241 [.agg [.list (List.map A5v c.Pts)]] (.fn (.func 260) [] [.bp [.list (List.map A5v c.Pts)] 0]):=by
  refine D5t C1s (by simp) ?_
  unfold B4w
  refine B3a (B4s fun u hu=> ?_)
  refine D2o (.ptr _ _) _ rfl rfl ?_
  refine F4 (.d _) rfl rfl ?_
  refine A37 ?_
  refine B3a (B4s fun u' hu'=> ?_)
  refine F4 (.fn _ _ _) rfl rfl ?_
  refine F4 (.fn _ _ _) rfl rfl ?_
  refine A37 ?_
  refine D2h ⟨.inr rfl,?_⟩
  refine B6 (B4 (v:= .fn _ _ _) rfl) ?_
  exact C2s F2 (D3 (A38 (by simp only [upd,if_true];rfl) (D3 E0 F2)) F2)
theorem D6a (ps:List Spot)(n:Int)(i:Nat)(p:Spot)(hn:n=i)(h:ps[i]? =some p):(List.map A5v ps)[n.toNat]? =some (A5v p):=by
  subst hn
  rw [Int.toNat_natCast,List.getElem?_map,h];rfl
theorem D3m {n:Int}(h: -9223372036854775808≤n∧n≤9223372036854775807):w64 n=n:=Go.IntWalk.i64_in n h
theorem C1t (pts:List Spot): ∀n i s L,A7w pts n i s=some L→L.length=n:=by
  intro n
  induction n with
  |zero=>intro i s L h;cases h;rfl
  |succ n ih=>
   intro i s L h
   rw [A7w]at h
   obtain ⟨p,hp,h⟩:=bind_some h
   obtain ⟨q,hq,h⟩:=bind_some h
   obtain ⟨v,hv,h⟩:=bind_some h
   obtain ⟨d,hd,h⟩:=bind_some h
   obtain ⟨r,hr,h⟩:=bind_some h
   obtain ⟨l,hl,h⟩:=bind_some h
   cases h
   rw [List.length_cons,ih _ _ _ hl]
theorem C88 {pts:List Spot}{L:List (Int×CurvePiece)}(h:B6t pts=some L):D7c Tryz.prog (.fn (.func 260) [] [.bp [.list (List.map A5v pts)] 0]) (L.map C9s):=by
  unfold B6t at h
  split at h
  case isFalse=>cases h
  rename_i hlen
  refine ⟨260,[],_,rfl,?_⟩
  intro k h0 Inv Stop hi0 hy
  refine C4e B94 (by simp) ?_
  unfold B3e
  refine B3a (B4s fun u hu=> ?_)
  refine F4 (.d _) rfl rfl ?_
  refine A37 ?_
  refine B3a (B4s fun u hu=> ?_)
  refine F4 (.d _) rfl rfl ?_
  refine F4 (.d _) rfl rfl ?_
  refine F4 (.d (i64 pts.length)) rfl (E7 (f:=A5v) rfl) ?_
  refine F4 (.d _) rfl rfl ?_
  refine F4 (.d _) rfl rfl ?_
  refine A37 ?_
  refine C4c ?_
  refine C98 (α:=Nat×Int×K3) (fun x=>⟨T [(0, .yld k),(1, .d (.bp [.list (List.map A5v pts)] 0)),(3, .d (i64 x.2.1)),(11, .d (i64 (w64 (pts.length - 1)))),(12, .d (i64 x.1))],x.2.2⟩) (fun x=>pts.length - x.1)
    (fun x=>Inv x.1 x.2.2∧x.1≤pts.length - 1∧A7w pts (pts.length - 1 - x.1) x.1 x.2.1=some (L.drop x.1)) (0,0,h0) ⟨hi0,by omega,h⟩ (B9r ⟨rfl,rfl,rfl,rfl,rfl,trivial⟩ fun _ _ h=>h) ?_
  rintro ⟨i,start,hh⟩ ⟨hinv,hi,hgo⟩
  dsimp only at hinv hi hgo ⊢
  refine B3a (B4s fun u hu=> ?_)
  refine F4 (.d _) rfl rfl ?_
  refine A37 ?_
  refine B3a ?_
  refine D5u rfl (fun hlt=> ?_) (fun hlt=> ?_)
  ·refine C7r ?_
   have hlen1:w64 ((pts.length:Int) - 1)=pts.length - 1:=D3m (by omega)
   rw [hlen1]at hlt
   have hi1:i+1<pts.length:=by omega
   have hw1:IntKind.i64.wrap ((i:Int)+1)=(i:Int)+1:=D3m (by omega)
   obtain ⟨m,hm⟩: ∃m,pts.length - 1 - i=m+1:=⟨pts.length - 1 - i - 1,by omega⟩
   rw [hm,A7w]at hgo
   obtain ⟨p,hp,hgo⟩:=bind_some hgo
   obtain ⟨q,hq,hgo⟩:=bind_some hgo
   obtain ⟨v,hv,hgo⟩:=bind_some hgo
   obtain ⟨d,hd,hgo⟩:=bind_some hgo
   obtain ⟨r,hr,hgo⟩:=bind_some hgo
   obtain ⟨l,hl,hgo⟩:=bind_some hgo
   have hgo:((i:Int),CurvePiece.mk p v r.1 start)::l=L.drop i:=Option.some.inj hgo
   have hLi:L[i]? =some ((i:Int),CurvePiece.mk p v r.1 start):=by
     have:=congrArg (fun z=>z[0]?) hgo
     simpa using this.symm
   have hLd:L.drop (i+1)=l:=by
     have:=congrArg (fun z=>z.drop 1) hgo
     simpa using this.symm
   have hin: ∀(p:Spot) (n:Int) (j:Nat),n=j→pts[j]? =some p→(List.map A5v pts)[n.toNat]? =some (A5v p):=fun p n j=>D6a pts n j p
   refine B3a ?_
   refine C4c ?_
   refine B3a (B4s fun u hu=> ?_)
   refine F4 (.d _) rfl rfl ?_
   refine F4 (.d _) rfl rfl ?_
   refine A37 ?_
   refine B3a (D2k rfl fun u hu=> ?_)
   refine F4 (.d _) rfl rfl ?_
   refine F4 (.d _) rfl rfl ?_
   refine F4 (.d _) rfl rfl ?_
   refine D2q _ _ _ _ rfl rfl (Int.natCast_nonneg i) (hin p _ i rfl hp) rfl ?_
   refine C1c _ _ _ _ _ rfl (hin p _ i rfl hp) (by simp) rfl ?_
   refine F4 (.d _) rfl rfl ?_
   refine F4 (.d _) rfl rfl ?_
   refine F4 (.d _) rfl rfl ?_
   refine F4 (.d _) rfl rfl ?_
   refine D2q _ _ _ _ rfl rfl (by rw [hw1];omega) (hin q _ (i+1) (by rw [hw1];rfl) hq) rfl ?_
   refine C1c _ _ _ _ _ rfl (hin q _ (i+1) (by rw [hw1];rfl) hq) (by simp) rfl ?_
   refine B8w rfl rfl (B7v p q _ hv) (.inl rfl) ?_
   refine D2o (.ptr _ _) _ rfl rfl ?_
   refine C9b _ _ _ _ _ rfl rfl rfl (by simp only [upd,if_true];rfl) (by simp) ?_
   refine A37 ?_
   refine B3a (B4s fun u' hu'=> ?_)
   refine C4g _ _ _ _ (.d (.agg [i64 v.x,i64 v.y])) rfl (by simp only [upd,if_true];rfl) (by simp [B5l]) rfl ?_
   refine C4g _ _ _ _ (.d (.agg [i64 v.x,i64 v.y])) rfl (by simp only [upd,if_true];rfl) (by simp [B5l]) rfl ?_
   refine B8w rfl rfl (A6y v v _ hd) (.inl rfl) ?_
   refine B8w rfl rfl (B7w d _ hr) (.inl rfl) ?_
   refine F4 (.d _) rfl rfl ?_
   refine F4 (.d _) rfl rfl ?_
   refine F4 (.d _) rfl rfl ?_
   refine F4 (.d _) rfl rfl ?_
   refine F4 (.d _) rfl rfl ?_
   refine A37 ?_
   refine B3a (B3a ?_)
   refine D5r rfl fun u2 hu2=> ?_
   simp only [List.take,List.drop]
   refine F4 (.yld _) rfl rfl ?_
   refine F4 (.d _) rfl rfl ?_
   refine F4 (.d _) rfl rfl ?_
   refine F4 (.d _) rfl rfl ?_
   refine F4 (.d _) rfl rfl ?_
   refine D2q _ _ _ _ rfl rfl (Int.natCast_nonneg i) (hin p _ i rfl hp) rfl ?_
   refine C1c _ _ _ _ _ rfl (hin p _ i rfl hp) (by simp) rfl ?_
   refine C4g _ _ _ _ (.d (.agg [i64 v.x,i64 v.y])) rfl (by simp only [upd,if_true];rfl) (by simp [B5l]) rfl ?_
   refine F4 (.d _) rfl rfl ?_
   refine F4 (.d _) rfl rfl ?_
   refine F4 (.d _) rfl rfl ?_
   refine A37 ?_
   intro u3 hu3
   refine D5x k ((C9s ((i:Int),CurvePiece.mk p v r.1 start)).map .d) rfl rfl ?_
   refine YCall.weak (D2s hu (D2s hu fun _ _ h=>h)) ((hy i hh _ (by rw [List.getElem?_map,hLi];rfl) hinv).mono ?_)
   rintro v' h' (⟨rfl,hin⟩|⟨rfl,hst⟩)
   ·intro u4 hu4
    refine F4 (.d _) rfl rfl ?_
    refine A37 ?_
    refine C0m (t:=false) rfl (fun h=>by cases h) (fun _=> ?_)
    refine C7r ?_
    refine B4s fun u hu=> ?_
    refine F4 (.d _) rfl rfl ?_
    refine F4 (.d _) rfl rfl ?_
    refine F4 (.d _) rfl rfl ?_
    refine F4 (.d _) rfl rfl ?_
    refine A37 ?_
    refine B4s fun u hu=> ?_
    refine F4 (.d _) rfl rfl ?_
    refine F4 (.d _) rfl rfl ?_
    refine A37 ?_
    refine ⟨(i+1,w64 (start+r.1),h'),⟨hin,by dsimp only;omega,?_⟩,by dsimp only;omega,B9r ⟨rfl,rfl,rfl,rfl,?_,trivial⟩ fun _ _ h=>h⟩
    ·dsimp only
     rw [hLd,show pts.length - 1 - (i+1)=m by omega];exact hl
    ·show AV.d (i64 (IntKind.i64.wrap ((i:Int)+1)))=_
     rw [hw1];rfl
   ·intro u4 hu4
    refine F4 (.d _) rfl rfl ?_
    refine A37 ?_
    refine C0m (t:=true) rfl (fun _=> ?_) (fun h=>by cases h)
    refine D2h ?_
    dsimp only
    exact ⟨Or.inr trivial,AV.tup [],rfl,Or.inr hst⟩
  ·refine C7s ?_
   have hlen1:1≤pts.length→w64 ((pts.length:Int) - 1)=pts.length - 1:=fun _=>D3m (by omega)
   have:i=pts.length - 1:=by
     by_cases h:1≤pts.length
     ·rw [hlen1 h]at hlt;omega
     ·omega
   subst this
   rw [Nat.sub_self,A7w]at hgo
   have hL:(L.map C9s).length=pts.length - 1:=by
     have h1:L.drop (pts.length - 1)= []:=(Option.some.inj hgo).symm
     have h2:=List.drop_eq_nil_iff.1 h1
     rw [List.length_map]
     refine Nat.le_antisymm h2 ?_
     exact Nat.le_of_eq (C1t _ _ _ _ _ h).symm
   exact ⟨.inl rfl,_,rfl, .inl (by rw [hL];exact hinv)⟩
noncomputable def A0n (x1:(List Int))(a1:(Int×CurvePiece)):Option (Stp (List Int) (List Int)):=
  (A7p x1 [a1.2.l]).bind fun v3=>some (.go v3)
noncomputable def A56 (p1:Curve):Option (List Int):=
  (A55 p1).bind fun v1=>cond (v1 !=0) (some []) (((B6t p1.Pts).bind fun v2=>loopL (A0n) (fun (x1:(List Int))=>x1) v2 []).bind fun y1=>some y1)
theorem C1u (p1:Curve)(r:(List Int))(h:A56 p1=some r):PCall Tryz.prog 261 [(.agg [(.list (List.map A5v p1.Pts))])] (.list (List.map A4 r)):=by
 refine B7 (fk Tryz.func261 Tryz.ntmps261 (fun r=>if r==6 then [1003]else []) (by with_unfolding_all rfl)) (nl rfl) ?_
 unfold A56 at h
 refine B5 (s0:=⟨T [(0,(.d _))],G []⟩) (sbr rfl rfl) ?_
 refine lr (fun u1 hu1=>sn rfl rfl (sv rfl (A1 (A6 (lr (fun u2 hu2=>sd rfl (B2 rfl G_hit rfl rfl) (bs h fun v1 hv1 h=>B0 rfl rfl A2 (B6c _ _ hv1) (.inl rfl) (sv rfl (A1 (cc rfl h (fun c1 h=> ?_) (fun c1 h=> ?_)))))))))))
 refine lr (fun u3 hu3=>sv rfl (A1 (B3 ?_)))
 cases h
 exact A7 (.inr rfl) (B6 (B4 rfl) E0) DLe.nil
 refine A9 (lr (fun u4 hu4=>sn rfl rfl (A1 (A6 (lr (fun u5 hu5=>sd rfl (B2 rfl (gq rfl) rfl rfl) (B0 rfl rfl A2 (C87 p1) (.inl rfl) (A1 (bs h fun y1 hy1 h=>D7 (fun s=> ∃g1:Nat,Sb ⟨T [(3,(.ptr (3,u4) 0))],G [((3,u4),some (.box 48 [(oS y1 (17,g1))])),((17,g1),oB 2 1 A4 y1)]⟩ s) ?_ ?_)))))))))
 refine A8 (bs hy1 fun v2 hv2 hy1=>B5 (s0:=⟨T [(3,(.ptr _ _)),(10,(.d _))],G [((3,u4),some (.box 48 _))]⟩) (sbr rfl rfl) ?_)
 refine D5z (.fn (.func 260) [] [(.bp [(.list (List.map A5v p1.Pts))] 0)]) C9s v2 (A0n) (fun (x1:(List Int))=>x1) (fun (x1:(List Int)) (g2:Nat)=> [((3,u4),some (.box 48 [(oS x1 (17,g2))])),((17,g2),oB 2 1 A4 x1)]) [] 0 _ rfl (C88 hv2) (fun _=>rfl) hy1 (H9 trivial (B1 G_hit (.of rfl) (A04 trivial))) nofun ?_ ?_
 intro u7 hu7 hku7
 refine ⟨fun x1 g2=>(A5 rfl (A5 rfl rfl)),?_⟩
 intro r1 x1 g2 a1 z1 hrr1 hz1 ez1
 unfold A0n at hz1
 show AWL _ _ _ _ _ _ ⟨T [(12,(.d (.agg (C85 a1.2)))),(11,(di a1.1)),(3,(.ptr (3,u4) 0)),(10,(.d (.fn (.func 260) [] [(.bp [(.list (List.map A5v p1.Pts))] 0)])))],G [((1000000,u7),some (.obj (T [(3,(.ptr (3,u4) 0)),(10,(.d (.fn (.func 260) [] [(.bp [(.list (List.map A5v p1.Pts))] 0)])))]) r1)),((3,u4),some (.box 48 [(oS x1 (17,g2))])),((17,g2),oB 2 1 A4 x1)]⟩
 refine C8 fun u8 hu8=>sn rfl rfl (sst rfl G_hit (C86 a1.2) rfl (A1 (l_j (D2x (gq rfl) ?_))))
 refine A8 (C8 fun u9 hu9=>C1 (oS x1 (17,g2)) rfl (Z4 rfl (gq rfl) rfl) (sp rfl rfl (sl rfl (gq rfl) rfl (C1 (dl A4 [a1.2.l]) rfl rfl (bs hz1 fun v3 hv3 hz1=>Z3 A4 (17,g2) x1 a1.2.l [] _ (O0 (fun _=>rfl)) rfl (gq rfl) hv3 (sst rfl (gq rfl) [(.sl (17,u9))] rfl (A1 (G3 (G4 ?_)))))))))
 cases hz1
 exact D7d (gq rfl) u9 (B1 G_hit (.box (.cons (.of (A3p (A21 hv3)).symm) .nil)) (U5 (gq rfl) trivial))
 rintro x1 g2 _ rfl qx1
 refine G3 (l_j ?_)
 exact ⟨g2,(Sb.after qx1 (H9 ⟨.of rfl,trivial⟩ (B1 G_hit (.of rfl) (B8 (gq rfl) trivial))))⟩
 rintro _ ⟨g1,q1⟩
 refine B5 q1 (lr (fun u10 hu10=>C1 (oS y1 (17,g1)) rfl (Z4 rfl G_hit rfl) (C1 (oS y1 (17,g1)) rfl rfl (A1 (B3 ?_)))))
 cases h
 exact A7 (.inr rfl) (B6 (B4 rfl) (A2r (gq rfl))) A2q
noncomputable def W8 (v1:(List Int))(x1:(Int×Int)):Option (Stp (Int×Int) Int):=
  cond (decide (x1.2< (v1.length:Int))) ((D4 v1 x1.2).bind fun v2=>some (.go ((w64 (x1.1+v2)),(w64 (x1.2+1))))) (some (.out x1.1))
noncomputable def A57 (p1:Curve):Option Int:=
  (A56 p1).bind fun v1=>(loop (W8 v1) (0,0)).bind fun y1=>some y1
theorem C1v (p1:Curve)(r:Int)(h:A57 p1=some r):PCall Tryz.prog 242 [(.agg [(.list (List.map A5v p1.Pts))])] (i64 r):=by
 refine B7 (fk Tryz.func242 Tryz.ntmps242 m0 (by with_unfolding_all rfl)) (nl rfl) ?_
 unfold A57 at h
 refine B5 (s0:=⟨T [(0,(.d _))],G []⟩) (sbr rfl rfl) ?_
 refine lr (fun u1 hu1=>sn rfl rfl (sv rfl (A1 (lr (fun u2 hu2=>sv rfl (A1 (A6 (lr (fun u3 hu3=>sd rfl (B2 rfl G_hit rfl rfl) (bs h fun v1 hv1 h=>B0 rfl rfl A2 (C1u _ _ hv1) (.inl rfl) (sd rfl (E7 rfl) (sv rfl (A1 (bs h fun y1 hy1 h=>D7 (fun s=> ∃g1:Unit,Sb ⟨T [(3,(di y1))],G []⟩ s) ?_ ?_))))))))))))))
 refine A8 (F1 (W8 v1) (fun (x1:(Int×Int)) (g2:Unit)=>⟨T [(3,(di x1.1)),(7,(dl A4 v1)),(8,(di (v1.length:Int))),(9,(di x1.2))],G []⟩) (0,0) () _ hy1 (sbr rfl rfl) ?_)
 intro x1 g2 z1 hz1 ez1
 unfold W8 at hz1
 refine lr (fun u4 hu4=>sv rfl (A1 (A6 (cc rfl hz1 (fun c1 hz1=> ?_) (fun c1 hz1=> ?_)))))
 refine A9 (A6 (A8 (lr (fun u5 hu5=>bs hz1 fun v2 hv2 hz1=>sd rfl (E2 rfl rfl hv2 rfl) (sd rfl (D9 rfl hv2 rfl) (sv rfl (A1 (C8 fun u6 hu6=>sv rfl (sv rfl (sv rfl (sv rfl (A1 (G3 (C8 fun u7 hu7=>sv rfl (sv rfl (A1 (G4 ?_)))))))))))))))))
 cases hz1
 exact ⟨rfl,(),(sbr rfl rfl)⟩
 refine C2 rfl ?_
 cases hz1
 obtain rfl:=ez1 _ rfl
 refine ⟨nofun,B9 rfl (l_j ?_)⟩
 exact ⟨(),(sbr rfl rfl)⟩
 rintro _ ⟨g1,q1⟩
 refine B5 q1 (lr (fun u8 hu8=>sv rfl (sv rfl (A1 (B3 ?_)))))
 cases h
 exact A7 (.inr rfl) (B6 (B4 rfl) E0) (.refl _)
noncomputable def A3d (p1:Map)(p2:Int):Option Int:=
  (D4 p1.Lanes p2).bind fun v1=>(A57 v1.Curve_).bind fun v2=>some v2
theorem B07 (p1:Map)(p2:Int)(r:Int)(h:A3d p1 p2=some r):PCall Tryz.prog 207 [(.agg (A3b p1)),(i64 p2)] (i64 r):=by
 refine B7 (fk Tryz.func207 Tryz.ntmps207 m0 (by with_unfolding_all rfl)) (nl rfl) ?_
 unfold A3d at h
 refine B5 (s0:=⟨T [(0,(.d _)),(1,(.d _))],G []⟩) (sbr rfl rfl) ?_
 refine lr (fun u1 hu1=>sn rfl rfl (sv rfl (A1 (lr (fun u2 hu2=>sp rfl rfl (sl rfl G_hit rfl (sv rfl (bs h fun v1 hv1 h=>sd rfl (E2 rfl rfl hv1 rfl) (sv rfl (sd rfl (C3 rfl hv1 rfl rfl) (bs h fun v2 hv2 h=>B0 rfl rfl A2 (C1v _ _ hv2) (.inl rfl) (sv rfl (A1 (B3 ?_))))))))))))))
 cases h
 exact A7 (.inr rfl) (B6 (B4 rfl) E0) (.refl _)
noncomputable def S8 (p1:RoadsCheck)(v1:Zone)(x3:Int):Option (Stp Int (Sum Unit Int)):=
  cond (decide (x3< (v1.Parts.length:Int))) ((D4 v1.Parts x3).bind fun v5=>((cond (!((decide (v5.From<0))||(decide (v5.From≥v5.To)))) (A3d p1.Map_ v5.Lane_) (some default))).bind fun v6=>cond (((((decide (v5.From<0))||(decide (v5.From≥v5.To)))||(decide (v5.To>v6)))||(decide (v5.Rank<0)))||(decide (v5.Rank>100))) (some (.out (.inr 2))) (some (.go (w64 (x3+1))))) (some (.out (.inl ())))
noncomputable def A00 (v1:Zone)(x2:((List Int)×Int)):Option (Stp ((List Int)×Int) (List Int)):=
  cond (decide (x2.2< (v1.Parts.length:Int))) ((D4 v1.Parts x2.2).bind fun v2=>(A7p x2.1 [v2.Lane_]).bind fun v3=>some (.go (v3,(w64 (x2.2+1))))) (some (.out x2.1))
noncomputable def S9 (p1:RoadsCheck)(x1:Int):Option (Stp Int (Sum Unit Int)):=
  cond (decide (x1< (p1.Map_.Zones.length:Int))) ((D4 p1.Map_.Zones x1).bind fun v1=>cond (decide ((v1.Parts.length:Int)<2)) (some (.out (.inr 6))) (cond (decide ((v1.Parts.length:Int)>6)) (some (.out (.inr 8))) (cond ((decide (v1.Signal_<0))||(decide (v1.Signal_>(p1.Map_.Signals.length:Int)))) (some (.out (.inr 2))) ((loop (A00 v1) ([],0)).bind fun y2=>(A2d y2 0 (p1.Map_.Lanes.length:Int)).bind fun v4=>cond (!v4) (some (.out (.inr 11))) (thenS (loop (S8 p1 v1) 0) (fun _=>some (.go (w64 (x1+1)))) (fun r=>some (.out (.inr r)))))))) (some (.out (.inl ())))
noncomputable def Y1 (p1:RoadsCheck):Option Int:=
  thenS (loop (S9 p1) 0) (fun _=>some 0) (fun r=>some r)
theorem B5z (p1:RoadsCheck)(r:Int)(h:Y1 p1=some r):PCall Tryz.prog 152 [(.agg (A3b p1.Map_))] (i64 r):=by
 refine B7 (fk Tryz.func152 Tryz.ntmps152 (fun r=>if r==15 then [1003]else []) (by with_unfolding_all rfl)) (nl rfl) ?_
 unfold Y1 at h
 refine B5 (s0:=⟨T [(0,(.d _))],G []⟩) (sbr rfl rfl) ?_
 refine lr (fun u1 hu1=>sn rfl rfl (sv rfl (A1 (A6 (lr (fun u2 hu2=>sp rfl rfl (sp rfl rfl (sl rfl G_hit rfl (sd rfl (E7 rfl) (sv rfl (A1 (js h fun z1 hz1 h=>D7 (fun s=> ∃(y1:Unit) (g1:Unit),z1= .inl y1∧Sb ⟨T [],G []⟩ s) ?_ ?_))))))))))))
 refine A8 (F1 (S9 p1) (fun (x1:Int) (g2:Unit)=>⟨T [(1,(.ptr (1,u1) 0)),(13,(dl A8i p1.Map_.Zones)),(14,(di (p1.Map_.Zones.length:Int))),(15,(di x1))],G [((1,u1),some (.box 212 (A09 p1.Map_)))]⟩) 0 () _ hz1 (sbr rfl rfl) ?_)
 intro x1 g2 z2 hz2 ez2
 unfold S9 at hz2
 refine lr (fun u3 hu3=>sv rfl (A1 (A6 (cc rfl hz2 (fun c1 hz2=> ?_) (fun c1 hz2=> ?_)))))
 refine A9 (A6 (A8 (lr (fun u4 hu4=>bs hz2 fun v1 hv1 hz2=>sd rfl (E2 rfl rfl hv1 rfl) (sd rfl (C3 rfl hv1 rfl rfl) (sn rfl rfl (sst rfl G_hit [(dl A53 v1.Parts),(di v1.Signal_)] rfl (A1 (A6 (lr (fun u5 hu5=>sp rfl rfl (sl rfl G_hit rfl (sd rfl (E7 rfl) (sv rfl (A1 (A8 (lr (fun u6 hu6=>sv rfl (sv rfl (sv rfl (A1 (cc rfl hz2 (fun c2 hz2=> ?_) (fun c2 hz2=> ?_)))))))))))))))))))))))
 refine lr (fun u7 hu7=>sv rfl (A1 (B3 ?_)))
 cases hz2
 obtain rfl:=ez2 _ rfl
 refine ⟨nofun,E1 ?_⟩
 rw [Sum.elim_inr]at h
 cases h
 exact A7 (.inr rfl) (B6 (B4 rfl) E0) (.refl _)
 refine lr (fun u8 hu8=>sv rfl (sv rfl (sv rfl (A1 (cc rfl hz2 (fun c3 hz2=> ?_) (fun c3 hz2=> ?_))))))
 refine lr (fun u9 hu9=>sv rfl (A1 (B3 ?_)))
 cases hz2
 obtain rfl:=ez2 _ rfl
 refine ⟨nofun,E1 ?_⟩
 rw [Sum.elim_inr]at h
 cases h
 exact A7 (.inr rfl) (B6 (B4 rfl) E0) (.refl _)
 refine lr (fun u10 hu10=>sp rfl rfl (sl rfl G_hit rfl (sv rfl (sv rfl (gp rfl (T8 rfl) (fun _=>rfl) (gf rfl (vl rfl G_hit rfl) (gp rfl (T8 rfl) (fun _=>rfl) ?_)))))))
 refine A01 _ (.ptr _ _) rfl (T8 rfl) (fun w4=>(by simp only [A3 w4];rfl)) ?_
 refine gf rfl (vl rfl (gq rfl) rfl) (gf rfl (fun w6=>(E7 (A3 w6))) (gf rfl (fun w7=>(S3 (A3 w7) (A3 w7) rfl)) (sd rfl (A0s rfl rfl (fun hc=>A3 (K9 hc))) (sv rfl (A1 (cc rfl hz2 (fun c4 hz2=> ?_) (fun c4 hz2=> ?_)))))))
 refine lr (fun u11 hu11=>sv rfl (A1 (B3 ?_)))
 cases hz2
 obtain rfl:=ez2 _ rfl
 refine ⟨nofun,E1 ?_⟩
 rw [Sum.elim_inr]at h
 cases h
 exact A7 (.inr rfl) (B6 (B4 rfl) E0) (.refl _)
 refine A9 (G3 (lr (fun u12 hu12=>sv rfl (A1 (A6 (lr (fun u13 hu13=>sp rfl rfl (sl rfl G_hit rfl (sd rfl (E7 rfl) (sv rfl (A1 (bs hz2 fun y2 hy2 hz2=>D7 (fun s=> ∃g3:Nat,Sb ⟨T [(1,(.ptr (1,u1) 0)),(4,(.ptr (4,u4) 0)),(6,(oS y2 (52,g3))),(13,(dl A8i p1.Map_.Zones)),(14,(di (p1.Map_.Zones.length:Int))),(15,(di x1))],G [((1,u1),some (.box 212 (A09 p1.Map_))),((4,u4),some (.box 117 [(dl A53 v1.Parts),(di v1.Signal_)])),((52,g3),oB 3 1 A4 y2)]⟩ s) ?_ ?_))))))))))))
 refine A8 (F1 (A00 v1) (fun (x2:((List Int)×Int)) (g4:Nat)=>⟨T [(1,(.ptr (1,u1) 0)),(4,(.ptr (4,u4) 0)),(6,(oS x2.1 (52,g4))),(13,(dl A8i p1.Map_.Zones)),(14,(di (p1.Map_.Zones.length:Int))),(15,(di x1)),(42,(dl A53 v1.Parts)),(43,(di (v1.Parts.length:Int))),(44,(di x2.2))],G [((1,u1),some (.box 212 (A09 p1.Map_))),((4,u4),some (.box 117 [(dl A53 v1.Parts),(di v1.Signal_)])),((52,g4),oB 3 1 A4 x2.1)]⟩) ([],0) 0 _ hy2 (H9 ⟨.of rfl, .of rfl, .of rfl, .of rfl, .of rfl, .of rfl, .of rfl, .of rfl, .of rfl,trivial⟩ (sg rfl (B1 G_hit (.of rfl) (A04 trivial)))) ?_)
 intro x2 g4 z3 hz3 ez3
 unfold A00 at hz3
 refine lr (fun u14 hu14=>sv rfl (A1 (A6 (cc rfl hz3 (fun c5 hz3=> ?_) (fun c5 hz3=> ?_)))))
 refine A9 (A6 (A8 (lr (fun u15 hu15=>bs hz3 fun v2 hv2 hz3=>sd rfl (E2 rfl rfl hv2 rfl) (sd rfl (C3 rfl hv2 rfl rfl) (sn rfl rfl (sst rfl G_hit (C04 v2) rfl (A1 (C8 fun u16 hu16=>C1 (oS x2.1 (52,g4)) rfl rfl (sp rfl rfl (sl rfl G_hit rfl (C1 (dl A4 [v2.Lane_]) rfl rfl (bs hz3 fun v3 hv3 hz3=>Z3 A4 (52,g4) x2.1 v2.Lane_ [] _ (O0 (fun _=>rfl)) rfl (gq rfl) hv3 (ss rfl (A1 (G3 (C8 fun u17 hu17=>sv rfl (sv rfl (A1 (G4 ?_))))))))))))))))))))
 cases hz3
 exact ⟨rfl,u16,(H9 ⟨.of rfl, .of rfl,(.of (A3p (A21 hv3)).symm), .of rfl, .of rfl, .of rfl, .of rfl, .of rfl, .of rfl,trivial⟩ (sg rfl (sg rfl (U5 G_hit trivial))))⟩
 refine C2 rfl ?_
 cases hz3
 obtain rfl:=ez3 _ rfl
 refine ⟨nofun,B9 rfl (l_j ?_)⟩
 exact ⟨g4,(H9 ⟨.of rfl, .of rfl, .of rfl, .of rfl, .of rfl, .of rfl,trivial⟩ (B1 G_hit (.of rfl) (sg rfl (B8 (gq rfl) trivial))))⟩
 rintro _ ⟨g3,q1⟩
 refine B5 q1 (A6 (lr (fun u18 hu18=>C1 (oS y2 (52,g3)) rfl rfl (sp rfl rfl (sp rfl rfl (sl rfl G_hit rfl (sd rfl (E7 rfl) (bs hz2 fun v4 hv4 hz2=>B0 rfl (D3 (A2r (gq rfl)) (rD (rD F2))) (.cons A2q (.cons (.refl _) A2)) (B0y _ _ _ _ hv4) (.inr rfl) (C1 (.d (bo (!v4))) rfl rfl (A1 (cc rfl hz2 (fun c6 hz2=> ?_) (fun c6 hz2=> ?_))))))))))))
 refine lr (fun u19 hu19=>sv rfl (A1 (B3 ?_)))
 cases hz2
 obtain rfl:=ez2 _ rfl
 refine ⟨nofun,E1 ?_⟩
 rw [Sum.elim_inr]at h
 cases h
 exact A7 (.inr rfl) (B6 (B4 rfl) E0) (.refl _)
 refine A9 (lr (fun u20 hu20=>sp rfl rfl (sl rfl (gq rfl) rfl (sd rfl (E7 rfl) (sv rfl (A1 (js hz2 fun z4 hz4 hz2=>D7 (fun s=> ∃(y3:Unit) (g5:Unit),z4= .inl y3∧Sb ⟨T [(1,(.ptr (1,u1) 0)),(13,(dl A8i p1.Map_.Zones)),(14,(di (p1.Map_.Zones.length:Int))),(15,(di x1))],G [((1,u1),some (.box 212 (A09 p1.Map_)))]⟩ s) ?_ ?_)))))))
 refine A8 (F1 (S8 p1 v1) (fun (x3:Int) (g6:Unit)=>⟨T [(1,(.ptr (1,u1) 0)),(13,(dl A8i p1.Map_.Zones)),(14,(di (p1.Map_.Zones.length:Int))),(15,(di x1)),(62,(dl A53 v1.Parts)),(63,(di (v1.Parts.length:Int))),(64,(di x3))],G [((1,u1),some (.box 212 (A09 p1.Map_)))]⟩) 0 () _ hz4 (sbr rfl rfl) ?_)
 intro x3 g6 z5 hz5 ez5
 unfold S8 at hz5
 refine lr (fun u21 hu21=>sv rfl (A1 (A6 (cc rfl hz5 (fun c7 hz5=> ?_) (fun c7 hz5=> ?_)))))
 refine A9 (A6 (A8 (lr (fun u22 hu22=>bs hz5 fun v5 hv5 hz5=>sd rfl (E2 rfl rfl hv5 rfl) (sd rfl (C3 rfl hv5 rfl rfl) (sn rfl rfl (sst rfl G_hit (C04 v5) rfl (A1 (A6 (I0 rfl fun u23 hu23=>sp rfl rfl (sl rfl G_hit rfl (sv rfl (sv rfl (gp rfl (T8 rfl) (fun _=>rfl) (gf rfl (vl rfl G_hit rfl) (gp rfl (T8 rfl) (fun _=>rfl) (gf rfl (vl rfl G_hit rfl) (gf rfl (fun w12=>(S3 (A3 w12) (A3 w12) rfl)) (sd rfl (A0s rfl rfl (fun hc=>A3 (K9 hc))) (sv rfl (gp rfl (T8 rfl) (fun _=>rfl) (gf rfl (vl rfl G_hit rfl) (gp rfl (T8 rfl) (fun _=>rfl) (gf rfl (fun w16=>(B2 (A3 w16) (gq rfl) rfl rfl)) (gp rfl (T8 rfl) (fun _=>rfl) (gf rfl (vl rfl G_hit rfl) (bs hz5 fun v6 hv6 hz5=> ?_)))))))))))))))))))))))))))
 refine S4 _ (i64 v6) (T8 rfl) (fun w19=>⟨_,[(.d (.agg (A3b p1.Map_))),(di v5.Lane_)],_,_,(by simp only [A3 w19];rfl),rfl,A2,B07 _ _ _ (C0 w19 hv6),(.inl rfl)⟩) ?_
 refine gf rfl (fun w20=>(S3 (A3 w20) (A3 w20) rfl)) (sd rfl (A0s rfl rfl (fun hc=>A3 (K9 hc))) (sv rfl (gp rfl (T8 rfl) (fun _=>rfl) (gf rfl (vl rfl G_hit rfl) (gf rfl (vb rfl rfl rfl) (sd rfl (A0s rfl rfl (fun hc=>A3 (K9 hc))) (sv rfl (gp rfl (T8 rfl) (fun _=>rfl) (gf rfl (vl rfl G_hit rfl) (gf rfl (vb rfl rfl rfl) (sd rfl (A0s rfl rfl (fun hc=>A3 (K9 hc))) (A1 (cc rfl hz5 (fun c8 hz5=> ?_) (fun c8 hz5=> ?_))))))))))))))
 refine lr (fun u24 hu24=>sv rfl (A1 (B3 ?_)))
 cases hz5
 obtain rfl:=ez5 _ rfl
 refine ⟨nofun,E1 ?_⟩
 rw [Sum.elim_inr]at hz2
 cases hz2
 obtain rfl:=ez2 _ rfl
 refine ⟨nofun,E1 ?_⟩
 rw [Sum.elim_inr]at h
 cases h
 exact A7 (.inr rfl) (B6 (B4 rfl) E0) (.refl _)
 refine A9 (G3 (C8 fun u25 hu25=>sv rfl (sv rfl (A1 (G4 ?_)))))
 cases hz5
 exact ⟨rfl,(),(sbr rfl rfl)⟩
 refine C2 rfl ?_
 cases hz5
 obtain rfl:=ez5 _ rfl
 refine ⟨nofun,B9 rfl (l_j ?_)⟩
 exact ⟨_,(),rfl,(sbr rfl rfl)⟩
 rintro _ ⟨y3,g5,rfl,q2⟩
 rw [Sum.elim_inl]at hz2
 refine G3 (B5 q2 (C8 fun u26 hu26=>sv rfl (sv rfl (A1 (G4 ?_)))))
 cases hz2
 exact ⟨rfl,(),(sbr rfl rfl)⟩
 refine C2 rfl ?_
 cases hz2
 obtain rfl:=ez2 _ rfl
 refine ⟨nofun,B9 rfl (l_j ?_)⟩
 exact ⟨_,(),rfl,(sbr rfl rfl)⟩
 rintro _ ⟨y1,g1,rfl,q3⟩
 rw [Sum.elim_inl]at h
 refine B5 q3 (lr (fun u27 hu27=>sv rfl (A1 (B3 ?_))))
 cases h
 exact A7 (.inr rfl) (B6 (B4 rfl) E0) (.refl _)
noncomputable def T0 (p1:RoadsCheck)(x1:Int):Option (Stp Int (Sum Unit Int)):=
  cond (decide (x1< (p1.Map_.Works.length:Int))) ((D4 p1.Map_.Works x1).bind fun v1=>cond ((decide (v1.Lane_<0))||(decide (v1.Lane_≥(p1.Map_.Lanes.length:Int)))) (some (.out (.inr 7))) ((D4 p1.Map_.Lanes v1.Lane_).bind fun v2=>(A1a v2.Kind).bind fun v3=>((cond (!((decide (v1.From<0))||(decide (v1.From>v1.To)))) (A3d p1.Map_ v1.Lane_) (some default))).bind fun v4=>((cond (!((((((decide (v1.From<0))||(decide (v1.From>v1.To)))||(decide (v1.To>v4)))||(decide (v1.Begin<0)))||(decide (v1.Begin≥v1.End)))||(decide (v1.End>1099511627776)))) (A0l v1.Limit 0 v3.1) (some default))).bind fun v5=>cond (((((((decide (v1.From<0))||(decide (v1.From>v1.To)))||(decide (v1.To>v4)))||(decide (v1.Begin<0)))||(decide (v1.Begin≥v1.End)))||(decide (v1.End>1099511627776)))||(!v5)) (some (.out (.inr 2))) (some (.go (w64 (x1+1)))))) (some (.out (.inl ())))
noncomputable def Y2 (p1:RoadsCheck):Option Int:=
  thenS (loop (T0 p1) 0) (fun _=>some 0) (fun r=>some r)
theorem B60 (p1:RoadsCheck)(r:Int)(h:Y2 p1=some r):PCall Tryz.prog 153 [(.agg (A3b p1.Map_))] (i64 r):=by
 refine B7 (fk Tryz.func153 Tryz.ntmps153 m0 (by with_unfolding_all rfl)) (nl rfl) ?_
 unfold Y2 at h
 refine B5 (s0:=⟨T [(0,(.d _))],G []⟩) (sbr rfl rfl) ?_
 refine lr (fun u1 hu1=>sn rfl rfl (sv rfl (A1 (A6 (lr (fun u2 hu2=>sp rfl rfl (sp rfl rfl (sl rfl G_hit rfl (sd rfl (E7 rfl) (sv rfl (A1 (js h fun z1 hz1 h=>D7 (fun s=> ∃(y1:Unit) (g1:Unit),z1= .inl y1∧Sb ⟨T [],G []⟩ s) ?_ ?_))))))))))))
 refine A8 (F1 (T0 p1) (fun (x1:Int) (g2:Unit)=>⟨T [(1,(.ptr (1,u1) 0)),(10,(dl B93 p1.Map_.Works)),(11,(di (p1.Map_.Works.length:Int))),(12,(di x1))],G [((1,u1),some (.box 212 (A09 p1.Map_)))]⟩) 0 () _ hz1 (sbr rfl rfl) ?_)
 intro x1 g2 z2 hz2 ez2
 unfold T0 at hz2
 refine lr (fun u3 hu3=>sv rfl (A1 (A6 (cc rfl hz2 (fun c1 hz2=> ?_) (fun c1 hz2=> ?_)))))
 refine A9 (A6 (A8 (lr (fun u4 hu4=>bs hz2 fun v1 hv1 hz2=>sd rfl (E2 rfl rfl hv1 rfl) (sd rfl (C3 rfl hv1 rfl rfl) (sn rfl rfl (sst rfl G_hit (E22 v1) rfl (A1 (A6 (lr (fun u5 hu5=>sp rfl rfl (sl rfl G_hit rfl (sv rfl (sv rfl (gp rfl (T8 rfl) (fun _=>rfl) (gf rfl (vl rfl G_hit rfl) (gp rfl (T8 rfl) (fun _=>rfl) ?_)))))))))))))))))
 refine A01 _ (.ptr _ _) rfl (T8 rfl) (fun w4=>(by simp only [A3 w4];rfl)) ?_
 refine gf rfl (vl rfl (gq rfl) rfl) (gf rfl (fun w6=>(E7 (A3 w6))) (gf rfl (fun w7=>(S3 (A3 w7) (A3 w7) rfl)) (sd rfl (A0s rfl rfl (fun hc=>A3 (K9 hc))) (A1 (cc rfl hz2 (fun c2 hz2=> ?_) (fun c2 hz2=> ?_))))))
 refine lr (fun u6 hu6=>sv rfl (A1 (B3 ?_)))
 cases hz2
 obtain rfl:=ez2 _ rfl
 refine ⟨nofun,E1 ?_⟩
 rw [Sum.elim_inr]at h
 cases h
 exact A7 (.inr rfl) (B6 (B4 rfl) E0) (.refl _)
 refine A9 (lr (fun u7 hu7=>sp rfl rfl (sp rfl rfl (sl rfl (gq rfl) rfl (sp rfl rfl (sl rfl G_hit rfl (bs hz2 fun v2 hv2 hz2=>sd rfl (E2 rfl rfl hv2 rfl) (sv rfl (sd rfl (D9 rfl hv2 rfl) (bs hz2 fun v3 hv3 hz2=>B0 rfl rfl A2 (A7v _ _ hv3) (.inl rfl) (sv rfl (sv rfl (sv rfl (sv rfl (sv rfl (sv rfl (sv rfl (A1 (A6 (I0 rfl fun u8 hu8=>sp rfl rfl (sl rfl G_hit rfl (sv rfl (sv rfl (gp rfl (T8 rfl) (fun _=>rfl) (gf rfl (vl rfl G_hit rfl) (gp rfl (T8 rfl) (fun _=>rfl) (gf rfl (vl rfl G_hit rfl) (gf rfl (fun w12=>(S3 (A3 w12) (A3 w12) rfl)) (sd rfl (A0s rfl rfl (fun hc=>A3 (K9 hc))) (sv rfl (gp rfl (T8 rfl) (fun _=>rfl) (gf rfl (vl rfl G_hit rfl) (gp rfl (T8 rfl) (fun _=>rfl) (gf rfl (fun w16=>(B2 (A3 w16) (gq rfl) rfl rfl)) (gp rfl (T8 rfl) (fun _=>rfl) (gf rfl (vl rfl G_hit rfl) (bs hz2 fun v4 hv4 hz2=> ?_)))))))))))))))))))))))))))))))))))))
 refine S4 _ (i64 v4) (T8 rfl) (fun w19=>⟨_,[(.d (.agg (A3b p1.Map_))),(di v1.Lane_)],_,_,(by simp only [A3 w19];rfl),rfl,A2,B07 _ _ _ (C0 w19 hv4),(.inl rfl)⟩) ?_
 refine gf rfl (fun w20=>(S3 (A3 w20) (A3 w20) rfl)) (sd rfl (A0s rfl rfl (fun hc=>A3 (K9 hc))) (sv rfl (gp rfl (T8 rfl) (fun _=>rfl) (gf rfl (vl rfl G_hit rfl) (gf rfl (vb rfl rfl rfl) (sd rfl (A0s rfl rfl (fun hc=>A3 (K9 hc))) (sv rfl (gp rfl (T8 rfl) (fun _=>rfl) (gf rfl (vl rfl G_hit rfl) (gp rfl (T8 rfl) (fun _=>rfl) (gf rfl (vl rfl G_hit rfl) (gf rfl (fun w28=>(S3 (A3 w28) (A3 w28) rfl)) (sd rfl (A0s rfl rfl (fun hc=>A3 (K9 hc))) (sv rfl (gp rfl (T8 rfl) (fun _=>rfl) (gf rfl (vl rfl G_hit rfl) (gf rfl (vb rfl rfl rfl) (sd rfl (A0s rfl rfl (fun hc=>A3 (K9 hc))) (sv rfl (gp rfl (T8 rfl) (fun _=>rfl) (gf rfl (vl rfl G_hit rfl) (gf rfl (fun _=>rfl) (bs hz2 fun v5 hv5 hz2=> ?_)))))))))))))))))))))))
 refine S4 _ (bo v5) (T8 rfl) (fun w35=>⟨_,[(di v1.Limit),(di 0),(di v3.1)],_,_,(by simp only [A3 w35];rfl),rfl,A2,A3c _ _ _ _ (C0 w35 hv5),(.inl rfl)⟩) ?_
 refine A01 _ (.d (bo (!v5))) rfl (T8 rfl) (fun w36=>(by simp only [A3 w36];rfl)) ?_
 refine sd rfl (A0s rfl rfl (fun hc=>A3 (K9 hc))) (A1 (cc rfl hz2 (fun c3 hz2=> ?_) (fun c3 hz2=> ?_)))
 refine A6 (B5 (s0:=⟨T [],G []⟩) (sbr rfl rfl) ?_)
 refine C8 fun u9 hu9=>sv rfl (A1 (B3 ?_))
 cases hz2
 obtain rfl:=ez2 _ rfl
 refine ⟨nofun,E1 ?_⟩
 rw [Sum.elim_inr]at h
 cases h
 exact A7 (.inr rfl) (B6 (B4 rfl) E0) (.refl _)
 refine A9 (G3 (B5 (s0:=⟨T [(1,(.ptr _ _)),(10,(.d _)),(11,(.d _)),(12,(.d _))],G [((1,u1),some (.box 212 _))]⟩) (sbr rfl rfl) ?_))
 refine C8 fun u10 hu10=>sv rfl (sv rfl (A1 (G4 ?_)))
 cases hz2
 exact ⟨rfl,(),(sbr rfl rfl)⟩
 refine C2 rfl ?_
 cases hz2
 obtain rfl:=ez2 _ rfl
 refine ⟨nofun,B9 rfl (l_j ?_)⟩
 exact ⟨_,(),rfl,(sbr rfl rfl)⟩
 rintro _ ⟨y1,g1,rfl,q1⟩
 rw [Sum.elim_inl]at h
 refine B5 q1 (lr (fun u11 hu11=>sv rfl (A1 (B3 ?_))))
 cases h
 exact A7 (.inr rfl) (B6 (B4 rfl) E0) (.refl _)
noncomputable def V8 (v:Nat)(p1:RoadsCheck):Option Int:=
  cond (Nat.beq v 148) (U7 p1) (cond (Nat.beq v 149) (X9 p1) (cond (Nat.beq v 150) (W5 p1) (cond (Nat.beq v 151) (U8 p1) (cond (Nat.beq v 152) (Y1 p1) (cond (Nat.beq v 153) (Y2 p1) (none))))))
theorem A9q (v:Nat)(p1:RoadsCheck)(r:Int)(h:V8 v p1=some r):PCall Tryz.prog v [(.agg [(i64 p1.Map_.Version),(.list (List.map A8h p1.Map_.Lanes)),(.list (List.map A8i p1.Map_.Zones)),(.list (List.map B0t p1.Map_.Signals)),(.list (List.map B93 p1.Map_.Works))])] (i64 r):=by
  unfold V8 at h
  rcases C3n h with ⟨rfl,h⟩|⟨_,h⟩
  ·exact B4k _ r h
  rcases C3n h with ⟨rfl,h⟩|⟨_,h⟩
  ·exact B5y _ r h
  rcases C3n h with ⟨rfl,h⟩|⟨_,h⟩
  ·exact B4v _ r h
  rcases C3n h with ⟨rfl,h⟩|⟨_,h⟩
  ·exact B4l _ r h
  rcases C3n h with ⟨rfl,h⟩|⟨_,h⟩
  ·exact B5z _ r h
  rcases C3n h with ⟨rfl,h⟩|⟨_,h⟩
  ·exact B60 _ r h
  cases h
noncomputable def O7 (p1:Map)(x1:Int):Option (Stp Int (Sum Unit Int)):=
  cond (decide (x1< ([148,149,150,151,152,153].length:Int))) ((D4 [148,149,150,151,152,153] x1).bind fun v1=>(V8 v1 (RoadsCheck.mk p1)).bind fun v2=>cond (v2 !=0) (some (.out (.inr v2))) (some (.go (w64 (x1+1))))) (some (.out (.inl ())))
noncomputable def A3v (p1:Map):Option Int:=
  thenS (loop (O7 p1) 0) (fun _=>some 0) (fun r=>some r)
theorem B2e (p1:Map)(r:Int)(h:A3v p1=some r):PCall Tryz.prog 71 [(.agg (A3b p1))] (i64 r):=by
 refine B7 (fk Tryz.func71 Tryz.ntmps71 (fun r=>if r==1 then [1000]else []) (by with_unfolding_all rfl)) (nl rfl) ?_
 unfold A3v at h
 refine B5 (s0:=⟨T [(0,(.d _))],G []⟩) (sbr rfl rfl) ?_
 refine lr (fun u1 hu1=>sn rfl rfl (sv rfl (A1 (A6 (lr (fun u2 hu2=>C1 (dl eFn [148,149,150,151,152,153]) rfl rfl (sd rfl (E7 rfl) (sv rfl (A1 (js h fun z1 hz1 h=>D7 (fun s=> ∃(y1:Unit) (g1:Unit),z1= .inl y1∧Sb ⟨T [],G []⟩ s) ?_ ?_))))))))))
 refine A8 (F1 (O7 p1) (fun (x1:Int) (g2:Unit)=>⟨T [(1,(.ptr (1,u1) 0)),(6,(dl eFn [148,149,150,151,152,153])),(7,(di ([148,149,150,151,152,153].length:Int))),(8,(di x1))],G [((1,u1),some (.box 33 (A09 p1)))]⟩) 0 () _ hz1 (sbr rfl rfl) ?_)
 intro x1 g2 z2 hz2 ez2
 unfold O7 at hz2
 refine lr (fun u3 hu3=>sv rfl (A1 (A6 (cc rfl hz2 (fun c1 hz2=> ?_) (fun c1 hz2=> ?_)))))
 refine A9 (A6 (A8 (lr (fun u4 hu4=>bs hz2 fun v1 hv1 hz2=>sd rfl (E2 rfl rfl hv1 rfl) (sd rfl (D9 rfl hv1 rfl) (sv rfl (A1 (lr (fun u5 hu5=>sv rfl (sd rfl (B2 rfl G_hit rfl rfl) (sv rfl (bs hz2 fun v2 hv2 hz2=>B0 rfl rfl A2 (A9q _ _ _ hv2) (.inl rfl) (sv rfl (A1 (lr (fun u6 hu6=>sv rfl (sv rfl (A1 (cc rfl hz2 (fun c2 hz2=> ?_) (fun c2 hz2=> ?_))))))))))))))))))))
 refine lr (fun u7 hu7=>sv rfl (sv rfl (A1 (B3 ?_))))
 cases hz2
 obtain rfl:=ez2 _ rfl
 refine ⟨nofun,E1 ?_⟩
 rw [Sum.elim_inr]at h
 cases h
 exact A7 (.inr rfl) (B6 (B4 rfl) E0) (.refl _)
 refine A9 (G3 (C8 fun u8 hu8=>sv rfl (sv rfl (A1 (G4 ?_)))))
 cases hz2
 exact ⟨rfl,(),(sbr rfl rfl)⟩
 refine C2 rfl ?_
 cases hz2
 obtain rfl:=ez2 _ rfl
 refine ⟨nofun,B9 rfl (l_j ?_)⟩
 exact ⟨_,(),rfl,(sbr rfl rfl)⟩
 rintro _ ⟨y1,g1,rfl,q1⟩
 rw [Sum.elim_inl]at h
 refine B5 q1 (lr (fun u9 hu9=>sv rfl (A1 (B3 ?_))))
 cases h
 exact A7 (.inr rfl) (B6 (B4 rfl) E0) (.refl _)
noncomputable def R5 (p1:(List Int))(p2:Int)(x1:Int):Option (Stp Int (Sum Unit Int)):=
  cond (decide (x1< (p1.length:Int))) ((D4 p1 x1).bind fun v1=>cond (p2==v1) (some (.out (.inr x1))) (some (.go (w64 (x1+1))))) (some (.out (.inl ())))
noncomputable def W0 (p1:(List Int))(p2:Int):Option Int:=
  thenS (loop (R5 p1 p2) 0) (fun _=>some (-1)) (fun r=>some r)
theorem A7x (p1:(List Int))(p2:Int)(r:Int)(h:W0 p1 p2=some r):PCall Tryz.prog 244 [(.list (List.map A4 p1)),(i64 p2)] (i64 r):=by
 refine B7 (fk Tryz.func244 Tryz.ntmps244 m0 (by with_unfolding_all rfl)) (nl rfl) ?_
 unfold W0 at h
 refine B5 (s0:=⟨T [(0,(.d _)),(1,(.d _))],G []⟩) (sbr rfl rfl) ?_
 refine lr (fun u1 hu1=>sv rfl (A1 (A6 (lr (fun u2 hu2=>sv rfl (sd rfl (E7 rfl) (sv rfl (A1 (js h fun z1 hz1 h=>D7 (fun s=> ∃(y1:Unit) (g1:Unit),z1= .inl y1∧Sb ⟨T [],G []⟩ s) ?_ ?_)))))))))
 refine A8 (F1 (R5 p1 p2) (fun (x1:Int) (g2:Unit)=>⟨T [(0,(dl A4 p1)),(1,(di p2)),(7,(di (p1.length:Int))),(8,(di x1))],G []⟩) 0 () _ hz1 (sbr rfl rfl) ?_)
 intro x1 g2 z2 hz2 ez2
 unfold R5 at hz2
 refine lr (fun u3 hu3=>sv rfl (A1 (A6 (cc rfl hz2 (fun c1 hz2=> ?_) (fun c1 hz2=> ?_)))))
 refine A9 (A6 (A8 (lr (fun u4 hu4=>sv rfl (sv rfl (A1 (lr (fun u5 hu5=>sv rfl (sv rfl (sv rfl (bs hz2 fun v1 hv1 hz2=>sd rfl (E2 rfl rfl hv1 rfl) (sd rfl (D9 rfl hv1 rfl) (sv rfl (A1 (cc rfl hz2 (fun c2 hz2=> ?_) (fun c2 hz2=> ?_))))))))))))))))
 refine lr (fun u6 hu6=>sv rfl (sv rfl (A1 (B3 ?_))))
 cases hz2
 obtain rfl:=ez2 _ rfl
 refine ⟨nofun,E1 ?_⟩
 rw [Sum.elim_inr]at h
 cases h
 exact A7 (.inr rfl) (B6 (B4 rfl) E0) (.refl _)
 refine A9 (G3 (C8 fun u7 hu7=>sv rfl (sv rfl (A1 (G4 ?_)))))
 cases hz2
 exact ⟨rfl,(),(sbr rfl rfl)⟩
 refine C2 rfl ?_
 cases hz2
 obtain rfl:=ez2 _ rfl
 refine ⟨nofun,B9 rfl (l_j ?_)⟩
 exact ⟨_,(),rfl,(sbr rfl rfl)⟩
 rintro _ ⟨y1,g1,rfl,q1⟩
 rw [Sum.elim_inl]at h
 refine B5 q1 (lr (fun u8 hu8=>sv rfl (A1 (B3 ?_))))
 cases h
 exact A7 (.inr rfl) (B6 (B4 rfl) E0) (.refl _)
noncomputable def M2 (p1:(List Int))(p2:Int):Option Bool:=
  (W0 p1 p2).bind fun v1=>some (decide (v1≥0))
theorem A22 (p1:(List Int))(p2:Int)(r:Bool)(h:M2 p1 p2=some r):PCall Tryz.prog 215 [(.list (List.map A4 p1)),(i64 p2)] (bo r):=by
 refine B7 (fk Tryz.func215 Tryz.ntmps215 m0 (by with_unfolding_all rfl)) (nl rfl) ?_
 unfold M2 at h
 refine B5 (s0:=⟨T [(0,(.d _)),(1,(.d _))],G []⟩) (sbr rfl rfl) ?_
 refine lr (fun u1 hu1=>sv rfl (A1 (lr (fun u2 hu2=>sv rfl (sv rfl (bs h fun v1 hv1 h=>B0 rfl rfl A2 (A7x _ _ _ hv1) (.inl rfl) (sv rfl (sv rfl (A1 (B3 ?_))))))))))
 cases h
 exact A7 (.inr rfl) (B6 (B4 rfl) E0) (.refl _)
noncomputable def A1q (p1:Map)(p2:Int)(x1:((List Int)×Int)):Option (Stp ((List Int)×Int) (List Int)):=
  cond (decide (x1.2< (p1.Lanes.length:Int))) ((D4 p1.Lanes x1.2).bind fun v1=>(M2 v1.Next p2).bind fun v2=>cond v2 ((A7p x1.1 [x1.2]).bind fun v3=>some (.go (v3,(w64 (x1.2+1))))) (some (.go (x1.1,(w64 (x1.2+1)))))) (some (.out x1.1))
noncomputable def A58 (p1:Map)(p2:Int):Option (List Int):=
  (loop (A1q p1 p2) ([],0)).bind fun y1=>some y1
theorem C1w (p1:Map)(p2:Int)(r:(List Int))(h:A58 p1 p2=some r):PCall Tryz.prog 214 [(.agg (A3b p1)),(i64 p2)] (.list (List.map A4 r)):=by
 refine B7 (fk Tryz.func214 Tryz.ntmps214 (fun r=>if r==6 then [1002]else []) (by with_unfolding_all rfl)) (nl rfl) ?_
 unfold A58 at h
 refine B5 (s0:=⟨T [(0,(.d _)),(1,(.d _))],G []⟩) (sbr rfl rfl) ?_
 refine lr (fun u1 hu1=>sn rfl rfl (sv rfl (A1 (lr (fun u2 hu2=>sv rfl (A1 (A6 (lr (fun u3 hu3=>sp rfl rfl (sl rfl G_hit rfl (sd rfl (E7 rfl) (sv rfl (A1 (bs h fun y1 hy1 h=>D7 (fun s=> ∃g1:Nat,Sb ⟨T [(5,(oS y1 (23,g1)))],G [((23,g1),oB 3 1 A4 y1)]⟩ s) ?_ ?_))))))))))))))
 refine A8 (F1 (A1q p1 p2) (fun (x1:((List Int)×Int)) (g2:Nat)=>⟨T [(1,(di p2)),(5,(oS x1.1 (23,g2))),(9,(dl A8h p1.Lanes)),(10,(di (p1.Lanes.length:Int))),(11,(di x1.2))],G [((23,g2),oB 3 1 A4 x1.1)]⟩) ([],0) 0 _ hy1 (H9 ⟨.of rfl, .of rfl, .of rfl, .of rfl, .of rfl,trivial⟩ (A04 trivial)) ?_)
 intro x1 g2 z1 hz1 ez1
 unfold A1q at hz1
 refine lr (fun u4 hu4=>sv rfl (A1 (A6 (cc rfl hz1 (fun c1 hz1=> ?_) (fun c1 hz1=> ?_)))))
 refine A9 (A6 (A8 (lr (fun u5 hu5=>sv rfl (bs hz1 fun v1 hv1 hz1=>sd rfl (E2 rfl rfl hv1 rfl) (sd rfl (C3 rfl hv1 rfl rfl) (sn rfl rfl (sv rfl (sst rfl G_hit (C4v v1) rfl (A1 (lr (fun u6 hu6=>sp rfl rfl (sl rfl G_hit rfl (sv rfl (bs hz1 fun v2 hv2 hz1=>B0 rfl rfl A2 (A22 _ _ _ hv2) (.inl rfl) (A1 (cc rfl hz1 (fun c2 hz1=> ?_) (fun c2 hz1=> ?_))))))))))))))))))
 refine C8 fun u7 hu7=>C1 (oS x1.1 (23,g2)) rfl rfl (sv rfl (C1 (dl A4 [x1.2]) rfl rfl (bs hz1 fun v3 hv3 hz1=>Z3 A4 (23,g2) x1.1 x1.2 [] _ (O0 (fun _=>rfl)) rfl (gq rfl) hv3 (ss rfl (A1 (G3 (C8 fun u8 hu8=>sv rfl (sv rfl (A1 (G4 ?_))))))))))
 cases hz1
 exact ⟨rfl,u7,(H9 ⟨.of rfl,(.of (A3p (A21 hv3)).symm), .of rfl, .of rfl, .of rfl,trivial⟩ (U5 G_hit trivial))⟩
 refine A9 (G3 (C8 fun u9 hu9=>sv rfl (sv rfl (A1 (G4 ?_)))))
 cases hz1
 exact ⟨rfl,g2,(H9 ⟨.of rfl, .of rfl, .of rfl, .of rfl, .of rfl,trivial⟩ (B8 (gq rfl) trivial))⟩
 refine C2 rfl ?_
 cases hz1
 obtain rfl:=ez1 _ rfl
 refine ⟨nofun,B9 rfl (l_j ?_)⟩
 exact ⟨g2,(H9 ⟨.of rfl,trivial⟩ (B8 G_hit trivial))⟩
 rintro _ ⟨g1,q1⟩
 refine B5 q1 (lr (fun u10 hu10=>C1 (oS y1 (23,g1)) rfl rfl (C1 (oS y1 (23,g1)) rfl rfl (A1 (B3 ?_)))))
 cases h
 exact A7 (.inr rfl) (B6 (B4 rfl) (A2r G_hit)) A2q
noncomputable def R6 (p1:Map)(v7:List Int)(x1:(Int×Int)):Option (Stp (Int×Int) (Sum Unit Int)):=
  cond (decide (x1.2< (v7.length:Int))) ((D4 v7 x1.2).bind fun v8=>(D4 p1.Lanes x1.1).bind fun v9=>(M2 v9.Next v8).bind fun v10=>cond (!v10) (some (.out (.inr 13))) (some (.go (v8,(w64 (x1.2+1)))))) (some (.out (.inl ())))
noncomputable def A02 (p1:Map)(p2:(List Int)):Option Int:=
  (A3v p1).bind fun v1=>cond (v1 !=0) (some v1) (((cond (!(((p2.length:Int)==0)||(decide ((p2.length:Int)>8)))) (D4 p2 0) (some default))).bind fun v2=>((cond (!((((p2.length:Int)==0)||(decide ((p2.length:Int)>8)))||(decide (v2<0)))) (D4 p2 0) (some default))).bind fun v3=>((cond (!(((((p2.length:Int)==0)||(decide ((p2.length:Int)>8)))||(decide (v2<0)))||(decide (v3≥(p1.Lanes.length:Int))))) (D4 p2 0) (some default))).bind fun v4=>((cond (!(((((p2.length:Int)==0)||(decide ((p2.length:Int)>8)))||(decide (v2<0)))||(decide (v3≥(p1.Lanes.length:Int))))) (A58 p1 v4) (some default))).bind fun v5=>cond ((((((p2.length:Int)==0)||(decide ((p2.length:Int)>8)))||(decide (v2<0)))||(decide (v3≥(p1.Lanes.length:Int))))||(decide ((v5.length:Int)>0))) (some 13) ((D4 p2 0).bind fun v6=>(C6e p2 1 (p2.length:Int)).bind fun v7=>thenS (loop (R6 p1 v7) (v6,0)) (fun _=>some 0) (fun r=>some r)))
theorem B0z (p1:Map)(p2:(List Int))(r:Int)(h:A02 p1 p2=some r):PCall Tryz.prog 154 [(.agg (A3b p1)),(.list (List.map A4 p2))] (i64 r):=by
 refine B7 (fk Tryz.func154 Tryz.ntmps154 m0 (by with_unfolding_all rfl)) (nl rfl) ?_
 unfold A02 at h
 refine B5 (s0:=⟨T [(0,(.d _)),(1,(.d _))],G []⟩) (sbr rfl rfl) ?_
 refine lr (fun u1 hu1=>sn rfl rfl (sv rfl (A1 (A6 (lr (fun u2 hu2=>sd rfl (B2 rfl G_hit rfl rfl) (bs h fun v1 hv1 h=>B0 rfl rfl A2 (B2e _ _ hv1) (.inl rfl) (sv rfl (A1 (lr (fun u3 hu3=>sv rfl (sv rfl (A1 (cc rfl h (fun c1 h=> ?_) (fun c1 h=> ?_)))))))))))))))
 refine lr (fun u4 hu4=>sv rfl (sv rfl (A1 (B3 ?_))))
 cases h
 exact A7 (.inr rfl) (B6 (B4 rfl) E0) (.refl _)
 refine A9 (A6 (A6 (I0 rfl fun u5 hu5=>sv rfl (sd rfl (E7 rfl) (sv rfl (sv rfl (gf rfl (fun _=>rfl) (gf rfl (fun w2=>(E7 (A3 w2))) (gf rfl (vb rfl rfl rfl) (sd rfl (A0s rfl rfl (fun hc=>A3 (K9 hc))) (sv rfl (gf rfl (fun _=>rfl) (bs h fun v2 hv2 h=>gf rfl (fun w5=>(E2 (A3 w5) rfl (C0 w5 hv2) rfl)) (gf rfl (fun w6=>(D9 (A3 w6) (C0 w6 hv2) rfl)) (gf rfl (vb rfl rfl rfl) (sd rfl (A0s rfl rfl (fun hc=>A3 (K9 hc))) (sv rfl (gf rfl (fun _=>rfl) (bs h fun v3 hv3 h=>gf rfl (fun w9=>(E2 (A3 w9) rfl (C0 w9 hv3) rfl)) (gf rfl (fun w10=>(D9 (A3 w10) (C0 w10 hv3) rfl)) (gp rfl (T8 rfl) (fun _=>rfl) (gf rfl (vl rfl G_hit rfl) (gf rfl (fun w13=>(E7 (A3 w13))) (gf rfl (fun w14=>(S3 (A3 w14) (A3 w14) rfl)) (sd rfl (A0s rfl rfl (fun hc=>A3 (K9 hc))) (sv rfl (gf rfl (fun w15=>(B2 rfl G_hit rfl rfl)) (gf rfl (fun _=>rfl) (bs h fun v4 hv4 h=>gf rfl (fun w17=>(E2 (A3 w17) rfl (C0 w17 hv4) rfl)) (gf rfl (fun w18=>(D9 (A3 w18) (C0 w18 hv4) rfl)) (bs h fun v5 hv5 h=> ?_)))))))))))))))))))))))))))))))
 refine S4 _ (.list (List.map A4 v5)) (T8 rfl) (fun w19=>⟨_,[(.d (.agg (A3b p1))),(di v4)],_,_,(by simp only [A3 w19];rfl),rfl,A2,C1w _ _ _ (C0 w19 hv5),(.inl rfl)⟩) ?_
 refine gf rfl (fun w20=>(E7 (A3 w20))) (gf rfl (vb rfl rfl rfl) (sd rfl (A0s rfl rfl (fun hc=>A3 (K9 hc))) (A1 (cc rfl h (fun c2 h=> ?_) (fun c2 h=> ?_)))))
 refine lr (fun u6 hu6=>sv rfl (A1 (B3 ?_)))
 cases h
 exact A7 (.inr rfl) (B6 (B4 rfl) E0) (.refl _)
 refine A9 (lr (fun u7 hu7=>sv rfl (bs h fun v6 hv6 h=>sd rfl (E2 rfl rfl hv6 rfl) (sd rfl (D9 rfl hv6 rfl) (sv rfl (A1 (A6 (lr (fun u8 hu8=>sv rfl (bs h fun v7 hv7 h=>sd rfl (D8t rfl (fun _=>rfl) (E1t rfl) D7f hv7) (sd rfl (E7 rfl) (sv rfl (A1 (js h fun z1 hz1 h=>D7 (fun s=> ∃(y1:Unit) (g1:Unit),z1= .inl y1∧Sb ⟨T [],G []⟩ s) ?_ ?_))))))))))))))
 refine A8 (F1 (R6 p1 v7) (fun (x1:(Int×Int)) (g2:Unit)=>⟨T [(2,(.ptr (2,u1) 0)),(6,(di x1.1)),(50,(dl A4 v7)),(51,(di (v7.length:Int))),(52,(di x1.2))],G [((2,u1),some (.box 33 (A09 p1)))]⟩) (v6,0) () _ hz1 (sbr rfl rfl) ?_)
 intro x1 g2 z2 hz2 ez2
 unfold R6 at hz2
 refine lr (fun u9 hu9=>sv rfl (A1 (A6 (cc rfl hz2 (fun c3 hz2=> ?_) (fun c3 hz2=> ?_)))))
 refine A9 (A6 (A8 (lr (fun u10 hu10=>bs hz2 fun v8 hv8 hz2=>sd rfl (E2 rfl rfl hv8 rfl) (sd rfl (D9 rfl hv8 rfl) (sv rfl (A1 (A6 (lr (fun u11 hu11=>sp rfl rfl (sl rfl G_hit rfl (sv rfl (bs hz2 fun v9 hv9 hz2=>sd rfl (E2 rfl rfl hv9 rfl) (sv rfl (sd rfl (D9 rfl hv9 rfl) (sv rfl (bs hz2 fun v10 hv10 hz2=>B0 rfl rfl A2 (A22 _ _ _ hv10) (.inl rfl) (C1 (.d (bo (!v10))) rfl rfl (A1 (cc rfl hz2 (fun c4 hz2=> ?_) (fun c4 hz2=> ?_)))))))))))))))))))))
 refine lr (fun u12 hu12=>sv rfl (A1 (B3 ?_)))
 cases hz2
 obtain rfl:=ez2 _ rfl
 refine ⟨nofun,E1 ?_⟩
 rw [Sum.elim_inr]at h
 cases h
 exact A7 (.inr rfl) (B6 (B4 rfl) E0) (.refl _)
 refine A9 (C8 fun u13 hu13=>sv rfl (sv rfl (A1 (G3 (C8 fun u14 hu14=>sv rfl (sv rfl (A1 (G4 ?_))))))))
 cases hz2
 exact ⟨rfl,(),(sbr rfl rfl)⟩
 refine C2 rfl ?_
 cases hz2
 obtain rfl:=ez2 _ rfl
 refine ⟨nofun,B9 rfl (l_j ?_)⟩
 exact ⟨_,(),rfl,(sbr rfl rfl)⟩
 rintro _ ⟨y1,g1,rfl,q1⟩
 rw [Sum.elim_inl]at h
 refine B5 q1 (lr (fun u15 hu15=>sv rfl (A1 (B3 ?_))))
 cases h
 exact A7 (.inr rfl) (B6 (B4 rfl) E0) (.refl _)
noncomputable def Z6 (p1:Map)(p2:(List Int))(x1:(Int× ((List Int)×Int))):Option (Stp (Int× ((List Int)×Int)) ((List Int)×Int)):=
  cond (decide (x1.1< (p2.length:Int))) ((D4 p2 x1.1).bind fun v2=>(A7p x1.2.1 [x1.2.2]).bind fun v3=>(A3d p1 v2).bind fun v4=>some (.go ((w64 (x1.1+1)),(v3,(w64 (x1.2.2+v4)))))) (some (.out x1.2))
noncomputable def A1b (p1:Map)(p2:(List Int)):Option RoadsWay:=
  (A02 p1 p2).bind fun v1=>cond (v1 !=0) (some (RoadsWay.mk (Map.mk 0 [] [] [] []) [] [] 0)) ((loop (Z6 p1 p2) (0,([],0))).bind fun y1=>some (RoadsWay.mk p1 p2 y1.1 y1.2))
theorem A7y (p1:Map)(p2:(List Int))(r:RoadsWay)(h:A1b p1 p2=some r):PCall Tryz.prog 205 [(.agg (A3b p1)),(.list (List.map A4 p2))] (.agg (D3l r)):=by
 refine B7 (fk Tryz.func205 Tryz.ntmps205 (fun r=>if r==7 then [1004]else []) (by with_unfolding_all rfl)) (nl rfl) ?_
 unfold A1b at h
 refine B5 (s0:=⟨T [(0,(.d _)),(1,(.d _))],G []⟩) (sbr rfl rfl) ?_
 refine lr (fun u1 hu1=>sn rfl rfl (sn rfl rfl (A1 (A6 (lr (fun u2 hu2=>sd rfl (B2 rfl (gq rfl) rfl rfl) (sv rfl (bs h fun v1 hv1 h=>B0 rfl rfl A2 (B0z _ _ _ hv1) (.inl rfl) (sv rfl (A1 (cc rfl h (fun c1 h=> ?_) (fun c1 h=> ?_))))))))))))
 refine lr (fun u3 hu3=>sv rfl (sst rfl G_hit [(di 0),(.d .nilS),(.d .nilS),(.d .nilS),(.d .nilS),(.d .nilS),(.d .nilS),(di 0)] rfl (A1 (B3 ?_))))
 cases h
 exact A7 (.inr rfl) (B6 (K0 rfl G_hit (nl rfl) rfl) E0) (.agg (ca rfl (.cons ⟨DLe.nil,rfl⟩ (.cons ⟨DLe.nil,rfl⟩ (.cons ⟨DLe.nil,rfl⟩ (.cons ⟨DLe.nil,rfl⟩ (.cons ⟨DLe.nil,rfl⟩ (.cons ⟨DLe.nil,rfl⟩ (cz rfl)))))))))
 refine A9 (lr (fun u4 hu4=>sd rfl (B2 rfl (gq rfl) rfl rfl) (sv rfl (sv rfl (sn rfl rfl (sst rfl G_hit ((A09 p1)++ [(dl A4 p2),(.d .nilS),(di 0)]) rfl (A1 (A6 (lr (fun u5 hu5=>sv rfl (sd rfl (E7 rfl) (sv rfl (A1 (bs h fun y1 hy1 h=>D7 (fun s=> ∃g1:Nat,Sb ⟨T [(4,(.ptr (4,u1) 0)),(5,(.ptr (5,u4) 0))],G [((4,u1),some (.box 260 [(di 0),(.d .nilS),(.d .nilS),(.d .nilS),(.d .nilS),(.d .nilS),(.d .nilS),(di 0)])),((5,u4),some (.box 260 ((A09 p1)++ [(dl A4 p2),(oS y1.1 (27,g1)),(di y1.2)]))),((27,g1),oB 2 1 A4 y1.1)]⟩ s) ?_ ?_))))))))))))))
 refine A8 (F1 (Z6 p1 p2) (fun (x1:(Int× ((List Int)×Int))) (g2:Nat)=>⟨T [(2,(.ptr (2,u1) 0)),(4,(.ptr (4,u1) 0)),(5,(.ptr (5,u4) 0)),(16,(dl A4 p2)),(17,(di (p2.length:Int))),(18,(di x1.1))],G [((2,u1),some (.box 33 (A09 p1))),((4,u1),some (.box 260 [(di 0),(.d .nilS),(.d .nilS),(.d .nilS),(.d .nilS),(.d .nilS),(.d .nilS),(di 0)])),((5,u4),some (.box 260 ((A09 p1)++ [(dl A4 p2),(oS x1.2.1 (27,g2)),(di x1.2.2)]))),((27,g2),oB 2 1 A4 x1.2.1)]⟩) (0,([],0)) 0 _ hy1 (H9 ⟨.of rfl, .of rfl, .of rfl, .of rfl, .of rfl, .of rfl,trivial⟩ (sg rfl (sg rfl (B1 G_hit (.of rfl) (A04 trivial))))) ?_)
 intro x1 g2 z1 hz1 ez1
 unfold Z6 at hz1
 refine lr (fun u6 hu6=>sv rfl (A1 (A6 (cc rfl hz1 (fun c2 hz1=> ?_) (fun c2 hz1=> ?_)))))
 refine A9 (A6 (A8 (lr (fun u7 hu7=>bs hz1 fun v2 hv2 hz1=>sd rfl (E2 rfl rfl hv2 rfl) (sd rfl (D9 rfl hv2 rfl) (sv rfl (A1 (lr (fun u8 hu8=>sp rfl rfl (C1 (oS x1.2.1 (27,g2)) rfl (Z4 rfl (gq rfl) rfl) (sp rfl rfl (sl rfl (gq rfl) rfl (C1 (dl A4 [x1.2.2]) rfl rfl (bs hz1 fun v3 hv3 hz1=>Z3 A4 (27,g2) x1.2.1 x1.2.2 [] _ (O0 (fun _=>rfl)) rfl (gq rfl) hv3 (sp rfl rfl (sst rfl (gq rfl) ((A09 p1)++ [(dl A4 p2),(.sl (27,u8)),(di x1.2.2)]) rfl (A1 (I0 rfl fun u9 hu9=>sp rfl rfl (sl rfl G_hit rfl (sd rfl (B2 rfl (gq rfl) rfl rfl) (sv rfl (bs hz1 fun v4 hv4 hz1=>B0 rfl rfl A2 (B07 _ _ _ hv4) (.inl rfl) (sv rfl (sp rfl rfl (sst rfl G_hit ((A09 p1)++ [(dl A4 p2),(.sl (27,u8)),(di (w64 (x1.2.2+v4)))]) rfl (A1 (G3 (C8 fun u10 hu10=>sv rfl (sv rfl (A1 (G4 ?_)))))))))))))))))))))))))))))))
 cases hz1
 exact ⟨rfl,u8,(H9 ⟨.of rfl, .of rfl, .of rfl, .of rfl, .of rfl, .of rfl,trivial⟩ (sg rfl (sg rfl (B1 G_hit (.box (cv (cv (cv (cv (cv (cv (.cons (.of (A3p (A21 hv3)).symm) cw)))))))) (U5 (gq rfl) trivial)))))⟩
 refine C2 rfl ?_
 cases hz1
 obtain rfl:=ez1 _ rfl
 refine ⟨nofun,B9 rfl (l_j ?_)⟩
 exact ⟨g2,(H9 ⟨.of rfl, .of rfl,trivial⟩ (sg rfl (sg rfl (B8 (gq rfl) trivial))))⟩
 rintro _ ⟨g1,q1⟩
 refine B5 q1 (lr (fun u11 hu11=>C1 (A4b ((A09 p1)++ [(dl A4 p2),(oS y1.1 (27,g1)),(di y1.2)])) rfl (B2 rfl (gq rfl) rfl rfl) (A9o _ _ _ _ _ (A0j _) rfl rfl G_hit (nl rfl) ((A09 p1)++ [(dl A4 p2),(oS y1.1 (27,g1)),(di y1.2)]) rfl (A1 (B3 ?_)))))
 cases h
 exact A7 (.inr rfl) (B6 (K0 rfl G_hit (nl rfl) rfl) (B27 (rD (rD (rD (rD (rD (rD (D3 (A2r (gq rfl)) (rD F2)))))))))) (.agg (ca rfl (ca rfl (ca rfl (ca rfl (ca rfl (ca rfl (.cons ⟨A2q,rfl⟩ (cz rfl)))))))))
noncomputable def Y3 (p1:Map)(p2:(List Int)):Option Int:=
  (A1b p1 p2).bind fun v1=>some v1.length
theorem B04 (p1:Map)(p2:(List Int))(r:Int)(h:Y3 p1 p2=some r):PCall Tryz.prog 155 [(.agg (A3b p1)),(.list (List.map A4 p2))] (i64 r):=by
 refine B7 (fk Tryz.func155 Tryz.ntmps155 m0 (by with_unfolding_all rfl)) (nl rfl) ?_
 unfold Y3 at h
 refine B5 (s0:=⟨T [(0,(.d _)),(1,(.d _))],G []⟩) (sbr rfl rfl) ?_
 refine lr (fun u1 hu1=>sn rfl rfl (sv rfl (A1 (lr (fun u2 hu2=>sd rfl (B2 rfl G_hit rfl rfl) (sv rfl (bs h fun v1 hv1 h=>B0 rfl rfl A2 (A7y _ _ _ hv1) (.inl rfl) (sv rfl (sv rfl (A1 (B3 ?_)))))))))))
 cases h
 exact A7 (.inr rfl) (B6 (B4 rfl) E0) (.refl _)
noncomputable def A2e (p1:Map)(p2:(List Int)):Option (List Int):=
  (A1b p1 p2).bind fun v1=>some v1.starts
theorem B10 (p1:Map)(p2:(List Int))(r:(List Int))(h:A2e p1 p2=some r):PCall Tryz.prog 139 [(.agg (A3b p1)),(.list (List.map A4 p2))] (.list (List.map A4 r)):=by
 refine B7 (fk Tryz.func139 Tryz.ntmps139 m0 (by with_unfolding_all rfl)) (nl rfl) ?_
 unfold A2e at h
 refine B5 (s0:=⟨T [(0,(.d _)),(1,(.d _))],G []⟩) (sbr rfl rfl) ?_
 refine lr (fun u1 hu1=>sn rfl rfl (sv rfl (A1 (lr (fun u2 hu2=>sd rfl (B2 rfl G_hit rfl rfl) (sv rfl (bs h fun v1 hv1 h=>B0 rfl rfl A2 (A7y _ _ _ hv1) (.inl rfl) (sv rfl (sv rfl (A1 (B3 ?_)))))))))))
 cases h
 exact A7 (.inr rfl) (B6 (B4 rfl) E0) (.refl _)
noncomputable def A2f (p2:Agent)(v1:(List Int))(x1:Int):Option (Stp Int Int):=
  (D4 v1 x1).bind fun v2=>cond (decide (v2>p2.S)) (some (.go (w64 (x1 - 1)))) (some (.out x1))
noncomputable def A7d (p1:Map)(p2:Agent):Option (Int×Int):=
  (A2e p1 p2.Route).bind fun v1=>(loop (A2f p2 v1) (w64 ((v1.length:Int) - 1))).bind fun y1=>(D4 p2.Route y1).bind fun v3=>(D4 v1 y1).bind fun v4=>some (v3,(w64 (p2.S - v4)))
theorem B7x (p1:Map)(p2:Agent)(r:(Int×Int))(h:A7d p1 p2=some r):PCall Tryz.prog 156 [(.agg (A3b p1)),(.agg (D8 p2))] (.tup [(i64 r.1),(i64 r.2)]):=by
 refine B7 (fk Tryz.func156 Tryz.ntmps156 m0 (by with_unfolding_all rfl)) (nl rfl) ?_
 unfold A7d at h
 refine B5 (s0:=⟨T [(0,(.d _)),(1,(.d _))],G []⟩) (sbr rfl rfl) ?_
 refine lr (fun u1 hu1=>sn rfl rfl (sn rfl rfl (sv rfl (sv rfl (A1 (lr (fun u2 hu2=>sd rfl (B2 rfl (gq rfl) rfl rfl) (sp rfl rfl (sl rfl G_hit rfl (bs h fun v1 hv1 h=>B0 rfl rfl A2 (B10 _ _ _ hv1) (.inl rfl) (sv rfl (A1 (lr (fun u3 hu3=>sv rfl (sd rfl (E7 rfl) (sv rfl (sv rfl (A1 (A6 (bs h fun y1 hy1 h=>D7 (fun s=> ∃g1:Unit,Sb ⟨T [(3,(.ptr (3,u1) 0)),(6,(dl A4 v1)),(7,(di y1))],G [((3,u1),some (.box 45 (V4 p2)))]⟩ s) ?_ ?_))))))))))))))))))))
 refine A8 (F1 (A2f p2 v1) (fun (x1:Int) (g2:Unit)=>⟨T [(3,(.ptr (3,u1) 0)),(6,(dl A4 v1)),(7,(di x1))],G [((3,u1),some (.box 45 (V4 p2)))]⟩) (w64 ((v1.length:Int) - 1)) () _ hy1 (sbr rfl rfl) ?_)
 intro x1 g2 z1 hz1 ez1
 unfold A2f at hz1
 refine A6 (A6 (I0 rfl fun u4 hu4=>sv rfl (sv rfl (bs hz1 fun v2 hv2 hz1=>sd rfl (E2 rfl rfl hv2 rfl) (sd rfl (D9 rfl hv2 rfl) (sp rfl rfl (sl rfl G_hit rfl (sv rfl (A1 (cc rfl hz1 (fun c1 hz1=> ?_) (fun c1 hz1=> ?_)))))))))))
 refine A9 (A8 (C8 fun u5 hu5=>sv rfl (sv rfl (sv rfl (A1 (G3 (G4 ?_)))))))
 cases hz1
 exact ⟨rfl,(),(sbr rfl rfl)⟩
 refine C2 rfl ?_
 cases hz1
 obtain rfl:=ez1 _ rfl
 refine ⟨nofun,B9 rfl (l_j ?_)⟩
 exact ⟨(),(sbr rfl rfl)⟩
 rintro _ ⟨g1,q1⟩
 refine B5 q1 (A6 (I0 rfl fun u6 hu6=>sp rfl rfl (sl rfl G_hit rfl (sv rfl (bs h fun v3 hv3 h=>sd rfl (E2 rfl rfl hv3 rfl) (sd rfl (D9 rfl hv3 rfl) (sp rfl rfl (sl rfl G_hit rfl (sv rfl (sv rfl (bs h fun v4 hv4 h=>sd rfl (E2 rfl rfl hv4 rfl) (sd rfl (D9 rfl hv4 rfl) (sv rfl (sv rfl (sv rfl (A1 (B3 ?_)))))))))))))))))
 cases h
 exact A7 (.inr rfl) (B5w (B4 rfl) (B4 rfl) E0 E0) (.refl _)
noncomputable def A3e (p1:Agent):Option WorldSpan:=
  some (WorldSpan.mk (w64 (p1.S - p1.Len)) p1.S)
theorem A5x (p1:Agent)(r:WorldSpan)(h:A3e p1=some r):PCall Tryz.prog 140 [(.agg (D8 p1))] (.agg [(i64 r.from_),(i64 r.to)]):=by
 refine B7 (fk Tryz.func140 Tryz.ntmps140 m0 (by with_unfolding_all rfl)) (nl rfl) ?_
 unfold A3e at h
 refine B5 (s0:=⟨T [(0,(.d _))],G []⟩) (sbr rfl rfl) ?_
 refine lr (fun u1 hu1=>sn rfl rfl (sn rfl rfl (A1 (lr (fun u2 hu2=>sp rfl rfl (sl rfl (gq rfl) rfl (sp rfl rfl (sl rfl (gq rfl) rfl (sv rfl (sp rfl rfl (sl rfl (gq rfl) rfl (sv rfl (sst rfl G_hit [(di (w64 (p1.S - p1.Len))),(di p1.S)] rfl (A1 (B3 ?_)))))))))))))))
 cases h
 exact A7 (.inr rfl) (B6 (K0 rfl G_hit (nl rfl) rfl) E0) (.refl _)
noncomputable def A5y (p1:Map)(p2:Agent):Option Bool:=
  (A3e p2).bind fun v1=>(Y3 p1 p2.Route).bind fun v2=>some (decide (v1.from_>v2))
theorem B7y (p1:Map)(p2:Agent)(r:Bool)(h:A5y p1 p2=some r):PCall Tryz.prog 158 [(.agg (A3b p1)),(.agg (D8 p2))] (bo r):=by
 refine B7 (fk Tryz.func158 Tryz.ntmps158 m0 (by with_unfolding_all rfl)) (nl rfl) ?_
 unfold A5y at h
 refine B5 (s0:=⟨T [(0,(.d _)),(1,(.d _))],G []⟩) (sbr rfl rfl) ?_
 refine lr (fun u1 hu1=>sn rfl rfl (sn rfl rfl (sv rfl (A1 (A6 (I0 rfl fun u2 hu2=>sd rfl (B2 rfl G_hit rfl rfl) (bs h fun v1 hv1 h=>B0 rfl rfl A2 (A5x _ _ hv1) (.inl rfl) (sv rfl (sd rfl (B2 rfl (gq rfl) rfl rfl) (sp rfl rfl (sl rfl G_hit rfl (bs h fun v2 hv2 h=>B0 rfl rfl A2 (B04 _ _ _ hv2) (.inl rfl) (sv rfl (sv rfl (A1 (B3 ?_))))))))))))))))
 cases h
 exact A7 (.inr rfl) (B6 (B4 rfl) E0) (.refl _)
noncomputable def A10 (p1:Map)(p2:State)(p3:Int):Option Int:=
  (D4 p2.Agents p3).bind fun v1=>(A02 p1 v1.Route).bind fun v2=>cond (v2 !=0) (some 13) (((cond (!(((((decide (v1.Len<300))||(decide (v1.Len>20000)))||(decide (v1.Begin<0)))||(decide (v1.Begin>1099511627776)))||(decide (v1.S<0)))) (Y3 p1 v1.Route) (some default))).bind fun v3=>cond ((((((decide (v1.Len<300))||(decide (v1.Len>20000)))||(decide (v1.Begin<0)))||(decide (v1.Begin>1099511627776)))||(decide (v1.S<0)))||(decide (v1.S>(w64 ((w64 (v3+v1.Len))+2000))))) (some 2) ((A7d p1 v1).bind fun v4=>(D4 p1.Lanes v4.1).bind fun v5=>(A1a v5.Kind).bind fun v6=>cond ((decide (v1.V<0))||(decide (v1.V>v6.1))) (some 2) ((A5y p1 v1).bind fun v7=>cond ((!(v1.Gone==v7))||(((decide (v1.Begin>p2.Tick))&& (v1.S !=0))||((p3==0)&& (v1.Begin !=0)))) (some 10) (some 0))))
theorem B6u (p1:Map)(p2:State)(p3:Int)(r:Int)(h:A10 p1 p2 p3=some r):PCall Tryz.prog 72 [(.agg (A3b p1)),(.agg (A30 p2)),(i64 p3)] (i64 r):=by
 refine B7 (fk Tryz.func72 Tryz.ntmps72 m0 (by with_unfolding_all rfl)) (nl rfl) ?_
 unfold A10 at h
 refine B5 (s0:=⟨T [(0,(.d _)),(1,(.d _)),(2,(.d _))],G []⟩) (sbr rfl rfl) ?_
 refine lr (fun u1 hu1=>sn rfl rfl (sn rfl rfl (sv rfl (A1 (lr (fun u2 hu2=>sp rfl rfl (sl rfl G_hit rfl (sv rfl (bs h fun v1 hv1 h=>sd rfl (E2 rfl rfl hv1 rfl) (sd rfl (C3 rfl hv1 rfl rfl) (sn rfl rfl (sst rfl G_hit (V4 v1) rfl (A1 (A6 (lr (fun u3 hu3=>sd rfl (B2 rfl (gq rfl) rfl rfl) (sp rfl rfl (sl rfl G_hit rfl (bs h fun v2 hv2 h=>B0 rfl rfl A2 (B0z _ _ _ hv2) (.inl rfl) (sv rfl (A1 (cc rfl h (fun c1 h=> ?_) (fun c1 h=> ?_)))))))))))))))))))))))
 refine lr (fun u4 hu4=>sv rfl (A1 (B3 ?_)))
 cases h
 exact A7 (.inr rfl) (B6 (B4 rfl) E0) (.refl _)
 refine A9 (A6 (A6 (I0 rfl fun u5 hu5=>sp rfl rfl (sl rfl G_hit rfl (sv rfl (sv rfl (gp rfl (T8 rfl) (fun _=>rfl) (gf rfl (vl rfl G_hit rfl) (gf rfl (vb rfl rfl rfl) (sd rfl (A0s rfl rfl (fun hc=>A3 (K9 hc))) (sv rfl (gp rfl (T8 rfl) (fun _=>rfl) (gf rfl (vl rfl G_hit rfl) (gf rfl (vb rfl rfl rfl) (sd rfl (A0s rfl rfl (fun hc=>A3 (K9 hc))) (sv rfl (gp rfl (T8 rfl) (fun _=>rfl) (gf rfl (vl rfl G_hit rfl) (gf rfl (vb rfl rfl rfl) (sd rfl (A0s rfl rfl (fun hc=>A3 (K9 hc))) (sv rfl (gp rfl (T8 rfl) (fun _=>rfl) (gf rfl (vl rfl G_hit rfl) (gf rfl (vb rfl rfl rfl) (sd rfl (A0s rfl rfl (fun hc=>A3 (K9 hc))) (sv rfl (gp rfl (T8 rfl) (fun _=>rfl) (gf rfl (vl rfl G_hit rfl) (gf rfl (fun w15=>(B2 rfl (gq rfl) rfl rfl)) (gp rfl (T8 rfl) (fun _=>rfl) (gf rfl (vl rfl G_hit rfl) (bs h fun v3 hv3 h=> ?_))))))))))))))))))))))))))))))))
 refine S4 _ (i64 v3) (T8 rfl) (fun w18=>⟨_,[(.d (.agg (A3b p1))),(dl A4 v1.Route)],_,_,(by simp only [A3 w18];rfl),rfl,A2,B04 _ _ _ (C0 w18 hv3),(.inl rfl)⟩) ?_
 refine gp rfl (T8 rfl) (fun _=>rfl) (gf rfl (vl rfl G_hit rfl) (gf rfl (fun w21=>(S3 (A3 w21) (A3 w21) rfl)) (gf rfl (vb rfl rfl rfl) (gf rfl (fun w23=>(S3 (A3 w23) (A3 w23) rfl)) (sd rfl (A0s rfl rfl (fun hc=>A3 (K9 hc))) (A1 (cc rfl h (fun c2 h=> ?_) (fun c2 h=> ?_))))))))
 refine lr (fun u6 hu6=>sv rfl (A1 (B3 ?_)))
 cases h
 exact A7 (.inr rfl) (B6 (B4 rfl) E0) (.refl _)
 refine A9 (lr (fun u7 hu7=>sd rfl (B2 rfl (gq rfl) rfl rfl) (sd rfl (B2 rfl G_hit rfl rfl) (bs h fun v4 hv4 h=>B0 rfl rfl A2 (B7x _ _ _ hv4) (.inl rfl) (sv rfl (sv rfl (sv rfl (sv rfl (sv rfl (A1 (A6 (lr (fun u8 hu8=>sp rfl rfl (sl rfl (gq rfl) rfl (sv rfl (bs h fun v5 hv5 h=>sd rfl (E2 rfl rfl hv5 rfl) (sv rfl (sd rfl (D9 rfl hv5 rfl) (bs h fun v6 hv6 h=>B0 rfl rfl A2 (A7v _ _ hv6) (.inl rfl) (sv rfl (sv rfl (sv rfl (sv rfl (sv rfl (sv rfl (sv rfl (A1 (lr (fun u9 hu9=>sp rfl rfl (sl rfl G_hit rfl (sv rfl (sv rfl (gp rfl (T8 rfl) (fun _=>rfl) (gf rfl (vl rfl G_hit rfl) (gf rfl (fun _=>rfl) (gf rfl (fun w27=>(S3 (A3 w27) (A3 w27) rfl)) (sd rfl (A0s rfl rfl (fun hc=>A3 (K9 hc))) (A1 (cc rfl h (fun c3 h=> ?_) (fun c3 h=> ?_))))))))))))))))))))))))))))))))))))))))
 refine A6 (B5 (s0:=⟨T [],G []⟩) (sbr rfl rfl) ?_)
 refine C8 fun u10 hu10=>sv rfl (A1 (B3 ?_))
 cases h
 exact A7 (.inr rfl) (B6 (B4 rfl) E0) (.refl _)
 refine A9 (A6 (B5 (s0:=⟨T [(2,(.d _)),(3,(.ptr _ _)),(4,(.ptr _ _)),(7,(.ptr _ _))],G [((3,u1),some (.box 33 _)),((4,u1),some (.box 25 _)),((7,u2),some (.box 45 _))]⟩) (sbr rfl rfl) ?_))
 refine C8 fun u11 hu11=>sp rfl rfl (sl rfl (gq rfl) rfl (sp rfl rfl (sl rfl (gq rfl) rfl (sv rfl (sv rfl (gp rfl (A0d rfl) (fun _=>rfl) (gt rfl (vl rfl (gq rfl) rfl) (gt rfl (vb rfl rfl rfl) (sa rfl rfl rfl (sv rfl (gf rfl (fun _=>rfl) (gf rfl (vb rfl rfl rfl) (gf rfl (fun w33=>(D8s (A3 w33))) (A01 _ (.ptr _ _) rfl (A4c rfl) (fun _=>rfl) (gv rfl (A4c rfl) (vl rfl (gq rfl) rfl) (gv rfl (A4c rfl) (vb rfl rfl rfl) (gf rfl (fun w37=>(C7z (A3 w37) (fun hc=>A3 (C80 w37 hc)) rfl)) (sd rfl (A0s rfl rfl (fun hc=>A3 (K9 hc))) (sv rfl (A1 (A6 (A6 (I0 rfl fun u12 hu12=>sp rfl rfl (sl rfl (gq rfl) rfl (sd rfl (B2 rfl G_hit rfl rfl) (sd rfl (B2 rfl (gq rfl) rfl rfl) (bs h fun v7 hv7 h=>B0 rfl rfl A2 (B7y _ _ _ hv7) (.inl rfl) (C1 (.d (bo (!(v1.Gone==v7)))) rfl rfl (sv rfl (gf rfl (fun _=>rfl) (sd rfl (A0s rfl rfl (fun hc=>A3 (K9 hc))) (A1 (cc rfl h (fun c4 h=> ?_) (fun c4 h=> ?_))))))))))))))))))))))))))))))))))
 refine lr (fun u13 hu13=>sv rfl (A1 (B3 ?_)))
 cases h
 exact A7 (.inr rfl) (B6 (B4 rfl) E0) (.refl _)
 refine A9 (lr (fun u14 hu14=>sv rfl (A1 (B3 ?_))))
 cases h
 exact A7 (.inr rfl) (B6 (B4 rfl) E0) (.refl _)
noncomputable def A2g (p1:Int):Option Bool:=
  some (p1 !=p1)
theorem B4h (p1:Int)(r:Bool)(h:A2g p1=some r):PCall Tryz.prog 216 [(i64 p1)] (bo r):=by
 refine B7 (fk Tryz.func216 Tryz.ntmps216 m0 (by with_unfolding_all rfl)) (nl rfl) ?_
 unfold A2g at h
 refine B5 (s0:=⟨T [(0,(.d _))],G []⟩) (sbr rfl rfl) ?_
 refine lr (fun u1 hu1=>sv rfl (A1 (lr (fun u2 hu2=>sv rfl (sv rfl (sv rfl (sv rfl (A1 (B3 ?_)))))))))
 cases h
 exact A7 (.inr rfl) (B6 (B4 rfl) E0) (.refl _)
noncomputable def W9 (p1:Int)(p2:Int):Option Int:=
  (A2g p1).bind fun v1=>(A2g p2).bind fun v2=>cond v1 (cond v2 (some 0) (some (-1))) (cond v2 (some 1) (cond (decide (p1<p2)) (some (-1)) (cond (decide (p1>p2)) (some 1) (some 0))))
theorem A4x (p1:Int)(p2:Int)(r:Int)(h:W9 p1 p2=some r):PCall Tryz.prog 160 [(i64 p1),(i64 p2)] (i64 r):=by
 refine B7 (fk Tryz.func160 Tryz.ntmps160 m0 (by with_unfolding_all rfl)) (nl rfl) ?_
 unfold W9 at h
 refine B5 (s0:=⟨T [(0,(.d _)),(1,(.d _))],G []⟩) (sbr rfl rfl) ?_
 refine lr (fun u1 hu1=>sv rfl (A1 (lr (fun u2 hu2=>sv rfl (bs h fun v1 hv1 h=>B0 rfl rfl A2 (B4h _ _ hv1) (.inl rfl) (sv rfl (A1 (lr (fun u3 hu3=>sv rfl (bs h fun v2 hv2 h=>B0 rfl rfl A2 (B4h _ _ hv2) (.inl rfl) (sv rfl (A1 (A6 (lr (fun u4 hu4=>sv rfl (A1 (cc rfl h (fun c1 h=> ?_) (fun c1 h=> ?_))))))))))))))))))
 refine A6 (lr (fun u5 hu5=>sv rfl (A1 (cc rfl h (fun c2 h=> ?_) (fun c2 h=> ?_)))))
 refine lr (fun u6 hu6=>sv rfl (A1 (B3 ?_)))
 cases h
 exact A7 (.inr rfl) (B6 (B4 rfl) E0) (.refl _)
 refine A9 (lr (fun u7 hu7=>sv rfl (A1 (B3 ?_))))
 cases h
 exact A7 (.inr rfl) (B6 (B4 rfl) E0) (.refl _)
 refine A9 (A6 (lr (fun u8 hu8=>sv rfl (A1 (cc rfl h (fun c3 h=> ?_) (fun c3 h=> ?_))))))
 refine lr (fun u9 hu9=>sv rfl (A1 (B3 ?_)))
 cases h
 exact A7 (.inr rfl) (B6 (B4 rfl) E0) (.refl _)
 refine A9 (A6 (lr (fun u10 hu10=>sv rfl (sv rfl (sv rfl (A1 (cc rfl h (fun c4 h=> ?_) (fun c4 h=> ?_))))))))
 refine lr (fun u11 hu11=>sv rfl (A1 (B3 ?_)))
 cases h
 exact A7 (.inr rfl) (B6 (B4 rfl) E0) (.refl _)
 refine A9 (A6 (lr (fun u12 hu12=>sv rfl (sv rfl (sv rfl (A1 (cc rfl h (fun c5 h=> ?_) (fun c5 h=> ?_))))))))
 refine lr (fun u13 hu13=>sv rfl (A1 (B3 ?_)))
 cases h
 exact A7 (.inr rfl) (B6 (B4 rfl) E0) (.refl _)
 refine A9 (lr (fun u14 hu14=>sv rfl (A1 (B3 ?_))))
 cases h
 exact A7 (.inr rfl) (B6 (B4 rfl) E0) (.refl _)
noncomputable def A3w (p1:(List Int))(x1:Int):Option (Stp Int (Sum Unit Int)):=
  cond (decide (x1< (p1.length:Int))) ((D4 p1 x1).bind fun v1=>cond (v1 !=0) (some (.out (.inr v1))) (some (.go (w64 (x1+1))))) (some (.out (.inl ())))
noncomputable def A5z (p1:(List Int)):Option Int:=
  thenS (loop (A3w p1) 0) (fun _=>some 0) (fun r=>some r)
theorem B3v (p1:(List Int))(r:Int)(h:A5z p1=some r):PCall Tryz.prog 159 [(.list (List.map A4 p1))] (i64 r):=by
 refine B7 (fk Tryz.func159 Tryz.ntmps159 m0 (by with_unfolding_all rfl)) (nl rfl) ?_
 unfold A5z at h
 refine B5 (s0:=⟨T [(0,(.d _))],G []⟩) (sbr rfl rfl) ?_
 refine lr (fun u1 hu1=>sv rfl (A1 (lr (fun u2 hu2=>sv rfl (A1 (A6 (lr (fun u3 hu3=>sv rfl (sd rfl (E7 rfl) (sv rfl (A1 (js h fun z1 hz1 h=>D7 (fun s=> ∃(y1:Unit) (g1:Unit),z1= .inl y1∧Sb ⟨T [(3,(di 0))],G []⟩ s) ?_ ?_))))))))))))
 refine A8 (F1 (A3w p1) (fun (x1:Int) (g2:Unit)=>⟨T [(3,(di 0)),(6,(dl A4 p1)),(7,(di (p1.length:Int))),(8,(di x1))],G []⟩) 0 () _ hz1 (sbr rfl rfl) ?_)
 intro x1 g2 z2 hz2 ez2
 unfold A3w at hz2
 refine lr (fun u4 hu4=>sv rfl (A1 (A6 (cc rfl hz2 (fun c1 hz2=> ?_) (fun c1 hz2=> ?_)))))
 refine A9 (A6 (A8 (lr (fun u5 hu5=>bs hz2 fun v1 hv1 hz2=>sd rfl (E2 rfl rfl hv1 rfl) (sd rfl (D9 rfl hv1 rfl) (sv rfl (A1 (lr (fun u6 hu6=>sv rfl (sv rfl (sv rfl (A1 (cc rfl hz2 (fun c2 hz2=> ?_) (fun c2 hz2=> ?_))))))))))))))
 refine lr (fun u7 hu7=>sv rfl (sv rfl (A1 (B3 ?_))))
 cases hz2
 obtain rfl:=ez2 _ rfl
 refine ⟨nofun,E1 ?_⟩
 rw [Sum.elim_inr]at h
 cases h
 exact A7 (.inr rfl) (B6 (B4 rfl) E0) (.refl _)
 refine A9 (G3 (C8 fun u8 hu8=>sv rfl (sv rfl (A1 (G4 ?_)))))
 cases hz2
 exact ⟨rfl,(),(sbr rfl rfl)⟩
 refine C2 rfl ?_
 cases hz2
 obtain rfl:=ez2 _ rfl
 refine ⟨nofun,B9 rfl (l_j ?_)⟩
 exact ⟨_,(),rfl,(sbr rfl rfl)⟩
 rintro _ ⟨y1,g1,rfl,q1⟩
 rw [Sum.elim_inl]at h
 refine B5 q1 (lr (fun u9 hu9=>sv rfl (sv rfl (A1 (B3 ?_)))))
 cases h
 exact A7 (.inr rfl) (B6 (B4 rfl) E0) (.refl _)
noncomputable def A3x (p1:Stay)(p2:Stay):Option Int:=
  (W9 p1.Agent_ p2.Agent_).bind fun v1=>(W9 p1.Zone_ p2.Zone_).bind fun v2=>(A5z [v1,v2]).bind fun v3=>some v3
theorem B2f (p1:Stay)(p2:Stay)(r:Int)(h:A3x p1 p2=some r):PCall Tryz.prog 73 [(.agg (N1 p1)),(.agg (N1 p2))] (i64 r):=by
 refine B7 (fk Tryz.func73 Tryz.ntmps73 (fun r=>if r==1 then [1010]else []) (by with_unfolding_all rfl)) (nl rfl) ?_
 unfold A3x at h
 refine B5 (s0:=⟨T [(0,(.d _)),(1,(.d _))],G []⟩) (sbr rfl rfl) ?_
 refine lr (fun u1 hu1=>sn rfl rfl (sn rfl rfl (sv rfl (A1 (A6 (I0 rfl fun u2 hu2=>sp rfl rfl (sl rfl (gq rfl) rfl (sp rfl rfl (sl rfl G_hit rfl (bs h fun v1 hv1 h=>B0 rfl rfl A2 (A4x _ _ _ hv1) (.inl rfl) (sp rfl rfl (sl rfl (gq rfl) rfl (sp rfl rfl (sl rfl G_hit rfl (bs h fun v2 hv2 h=>B0 rfl rfl A2 (A4x _ _ _ hv2) (.inl rfl) (C1 (dl A4 [v1,v2]) rfl rfl (bs h fun v3 hv3 h=>B0 rfl rfl A2 (B3v _ _ hv3) (.inl rfl) (sv rfl (A1 (B3 ?_))))))))))))))))))))
 cases h
 exact A7 (.inr rfl) (B6 (B4 rfl) E0) (.refl _)
noncomputable def A3f (p1:Stay)(p2:State):Option Bool:=
  some ((((decide (p1.Since<0))||(decide (p1.Since>p2.Tick)))||(decide (p1.Rank<0)))||(decide (p1.Rank>100)))
theorem B7z (p1:Stay)(p2:State)(r:Bool)(h:A3f p1 p2=some r):PCall Tryz.prog 75 [(.agg (N1 p1)),(.bp (A30 p2) 0)] (bo r):=by
 refine B7 (fk Tryz.func75 Tryz.ntmps75 m0 (by with_unfolding_all rfl)) (nl rfl) ?_
 unfold A3f at h
 refine B5 (s0:=⟨T [(0,(.d _)),(1,(.d _))],G []⟩) (sbr rfl rfl) ?_
 refine lr (fun u1 hu1=>sn rfl rfl (sv rfl (A1 (lr (fun u2 hu2=>sp rfl rfl (sl rfl G_hit rfl (sv rfl (sv rfl (gp rfl (T8 rfl) (fun _=>rfl) (gf rfl (vl rfl G_hit rfl) (gf rfl (fun _=>rfl) ?_)))))))))))
 refine gf rfl (fun w4=>(by simp only [A3 w4];rfl)) ?_
 refine gf rfl (fun w5=>(S3 (A3 w5) (A3 w5) rfl)) (sd rfl (A0s rfl rfl (fun hc=>A3 (K9 hc))) (sv rfl (gp rfl (T8 rfl) (fun _=>rfl) (gf rfl (vl rfl G_hit rfl) (gf rfl (vb rfl rfl rfl) (sd rfl (A0s rfl rfl (fun hc=>A3 (K9 hc))) (sv rfl (gp rfl (T8 rfl) (fun _=>rfl) (gf rfl (vl rfl G_hit rfl) (gf rfl (vb rfl rfl rfl) (sd rfl (A0s rfl rfl (fun hc=>A3 (K9 hc))) (sv rfl (A1 (B3 ?_))))))))))))))
 cases h
 exact A7 (.inr rfl) (B6 (B4 rfl) E0) (.refl _)
noncomputable def E5 (p1:(List Stay))(p2:State)(x1:Int):Option (Stp Int (Sum Unit Int)):=
  cond (decide (x1< (p1.length:Int))) ((D4 p1 x1).bind fun v1=>(A3f v1 p2).bind fun v2=>cond v2 (some (.out (.inr x1))) (some (.go (w64 (x1+1))))) (some (.out (.inl ())))
noncomputable def G9 (p1:(List Stay))(p2:State):Option Int:=
  thenS (loop (E5 p1 p2) 0) (fun _=>some (-1)) (fun r=>some r)
theorem A3q (p1:(List Stay))(p2:State)(r:Int)(h:G9 p1 p2=some r):PCall Tryz.prog 161 [(.list (List.map N1 p1)),(.fn (.func 75) [] [(.bp (A30 p2) 0)])] (i64 r):=by
 refine B7 (fk Tryz.func161 Tryz.ntmps161 m0 (by with_unfolding_all rfl)) (nl rfl) ?_
 unfold G9 at h
 refine B5 (s0:=⟨T [(0,(.d _)),(1,(.d _))],G []⟩) (sbr rfl rfl) ?_
 refine lr (fun u1 hu1=>sv rfl (A1 (A6 (lr (fun u2 hu2=>sv rfl (sd rfl (E7 rfl) (sv rfl (A1 (js h fun z1 hz1 h=>D7 (fun s=> ∃(y1:Unit) (g1:Unit),z1= .inl y1∧Sb ⟨T [],G []⟩ s) ?_ ?_)))))))))
 refine A8 (F1 (E5 p1 p2) (fun (x1:Int) (g2:Unit)=>⟨T [(0,(dl N1 p1)),(1,(.d (.fn (.func 75) [] [(.bp (A30 p2) 0)]))),(7,(di (p1.length:Int))),(8,(di x1))],G []⟩) 0 () _ hz1 (sbr rfl rfl) ?_)
 intro x1 g2 z2 hz2 ez2
 unfold E5 at hz2
 refine lr (fun u3 hu3=>sv rfl (A1 (A6 (cc rfl hz2 (fun c1 hz2=> ?_) (fun c1 hz2=> ?_)))))
 refine A9 (A6 (A8 (lr (fun u4 hu4=>sv rfl (sv rfl (A1 (lr (fun u5 hu5=>sv rfl (sv rfl (sv rfl (bs hz2 fun v1 hv1 hz2=>sd rfl (E2 rfl rfl hv1 rfl) (sd rfl (C3 rfl hv1 rfl rfl) (bs hz2 fun v2 hv2 hz2=>B0 rfl rfl A2 (B7z _ _ _ hv2) (.inl rfl) (A1 (cc rfl hz2 (fun c2 hz2=> ?_) (fun c2 hz2=> ?_))))))))))))))))
 refine lr (fun u6 hu6=>sv rfl (sv rfl (A1 (B3 ?_))))
 cases hz2
 obtain rfl:=ez2 _ rfl
 refine ⟨nofun,E1 ?_⟩
 rw [Sum.elim_inr]at h
 cases h
 exact A7 (.inr rfl) (B6 (B4 rfl) E0) (.refl _)
 refine A9 (G3 (C8 fun u7 hu7=>sv rfl (sv rfl (A1 (G4 ?_)))))
 cases hz2
 exact ⟨rfl,(),(sbr rfl rfl)⟩
 refine C2 rfl ?_
 cases hz2
 obtain rfl:=ez2 _ rfl
 refine ⟨nofun,B9 rfl (l_j ?_)⟩
 exact ⟨_,(),rfl,(sbr rfl rfl)⟩
 rintro _ ⟨y1,g1,rfl,q1⟩
 rw [Sum.elim_inl]at h
 refine B5 q1 (lr (fun u8 hu8=>sv rfl (A1 (B3 ?_))))
 cases h
 exact A7 (.inr rfl) (B6 (B4 rfl) E0) (.refl _)
noncomputable def D1 (p1:(List Stay))(p2:State):Option Bool:=
  (G9 p1 p2).bind fun v1=>some (decide (v1≥0))
theorem A2s (p1:(List Stay))(p2:State)(r:Bool)(h:D1 p1 p2=some r):PCall Tryz.prog 74 [(.list (List.map N1 p1)),(.fn (.func 75) [] [(.bp (A30 p2) 0)])] (bo r):=by
 refine B7 (fk Tryz.func74 Tryz.ntmps74 m0 (by with_unfolding_all rfl)) (nl rfl) ?_
 unfold D1 at h
 refine B5 (s0:=⟨T [(0,(.d _)),(1,(.d _))],G []⟩) (sbr rfl rfl) ?_
 refine lr (fun u1 hu1=>sv rfl (A1 (lr (fun u2 hu2=>sv rfl (sv rfl (bs h fun v1 hv1 h=>B0 rfl rfl A2 (A3q _ _ _ hv1) (.inl rfl) (sv rfl (sv rfl (A1 (B3 ?_))))))))))
 cases h
 exact A7 (.inr rfl) (B6 (B4 rfl) E0) (.refl _)
noncomputable def A1c (p1:Map)(p2:State)(x2:Int):Option (Stp Int (Sum Unit Int)):=
  cond (decide (x2< (p2.In.length:Int))) ((D4 p2.In x2).bind fun v3=>((cond ((!((((decide (v3.Agent_<0))||(decide (v3.Agent_≥(p2.Agents.length:Int))))||(decide (v3.Zone_<0)))||(decide (v3.Zone_≥(p1.Zones.length:Int)))))&& (decide (x2>0))) (D4 p2.In (w64 (x2 - 1))) (some default))).bind fun v4=>((cond ((!((((decide (v3.Agent_<0))||(decide (v3.Agent_≥(p2.Agents.length:Int))))||(decide (v3.Zone_<0)))||(decide (v3.Zone_≥(p1.Zones.length:Int)))))&& (decide (x2>0))) (A3x v4 v3) (some default))).bind fun v5=>cond (((((decide (v3.Agent_<0))||(decide (v3.Agent_≥(p2.Agents.length:Int))))||(decide (v3.Zone_<0)))||(decide (v3.Zone_≥(p1.Zones.length:Int))))||((decide (x2>0))&& (decide (v5≥0)))) (some (.out (.inr 11))) (some (.go (w64 (x2+1))))) (some (.out (.inl ())))
noncomputable def A1d (p1:Map)(p2:State)(x1:Int):Option (Stp Int (Sum Unit Int)):=
  cond (decide (x1< (p2.Agents.length:Int))) ((A10 p1 p2 x1).bind fun v2=>cond (v2 !=0) (some (.out (.inr v2))) (some (.go (w64 (x1+1))))) (some (.out (.inl ())))
noncomputable def A3y (p1:Map)(p2:State):Option Int:=
  (A3v p1).bind fun v1=>cond (v1 !=0) (some v1) (cond ((decide (p2.Tick<0))||(decide (p2.Tick>1099511627776))) (some 2) (cond ((p2.Agents.length:Int)==0) (some 6) (cond (decide ((p2.Agents.length:Int)>8)) (some 8) (thenS (loop (A1d p1 p2) 0) (fun _=>thenS (loop (A1c p1 p2) 0) (fun _=>(D1 p2.In p2).bind fun v6=>cond v6 (some 2) (some 0)) (fun r=>some r)) (fun r=>some r)))))
theorem B2g (p1:Map)(p2:State)(r:Int)(h:A3y p1 p2=some r):PCall Tryz.prog 24 [(.agg (A3b p1)),(.agg (A30 p2))] (i64 r):=by
 refine B7 (fk Tryz.func24 Tryz.ntmps24 m0 (by with_unfolding_all rfl)) (nl rfl) ?_
 unfold A3y at h
 refine B5 (s0:=⟨T [(0,(.d _)),(1,(.d _))],G []⟩) (sbr rfl rfl) ?_
 refine lr (fun u1 hu1=>sn rfl rfl (sn rfl rfl (sv rfl (A1 (A6 (lr (fun u2 hu2=>sd rfl (B2 rfl (gq rfl) rfl rfl) (bs h fun v1 hv1 h=>B0 rfl rfl A2 (B2e _ _ hv1) (.inl rfl) (sv rfl (A1 (lr (fun u3 hu3=>sv rfl (sv rfl (A1 (cc rfl h (fun c1 h=> ?_) (fun c1 h=> ?_))))))))))))))))
 refine lr (fun u4 hu4=>sv rfl (sv rfl (A1 (B3 ?_))))
 cases h
 exact A7 (.inr rfl) (B6 (B4 rfl) E0) (.refl _)
 refine A9 (A6 (lr (fun u5 hu5=>sp rfl rfl (sl rfl G_hit rfl (sd rfl (E7 rfl) (sv rfl (A1 (A8 (lr (fun u6 hu6=>sp rfl rfl (sl rfl G_hit rfl (sv rfl (sv rfl (gp rfl (T8 rfl) (fun _=>rfl) (gf rfl (vl rfl G_hit rfl) (gf rfl (vb rfl rfl rfl) (sd rfl (A0s rfl rfl (fun hc=>A3 (K9 hc))) (sv rfl (A1 (cc rfl h (fun c2 h=> ?_) (fun c2 h=> ?_)))))))))))))))))))))
 refine lr (fun u7 hu7=>sv rfl (A1 (B3 ?_)))
 cases h
 exact A7 (.inr rfl) (B6 (B4 rfl) E0) (.refl _)
 refine lr (fun u8 hu8=>sv rfl (sv rfl (sv rfl (A1 (cc rfl h (fun c3 h=> ?_) (fun c3 h=> ?_))))))
 refine lr (fun u9 hu9=>sv rfl (A1 (B3 ?_)))
 cases h
 exact A7 (.inr rfl) (B6 (B4 rfl) E0) (.refl _)
 refine lr (fun u10 hu10=>sv rfl (sv rfl (sv rfl (A1 (cc rfl h (fun c4 h=> ?_) (fun c4 h=> ?_))))))
 refine lr (fun u11 hu11=>sv rfl (A1 (B3 ?_)))
 cases h
 exact A7 (.inr rfl) (B6 (B4 rfl) E0) (.refl _)
 refine A9 (G3 (A6 (lr (fun u12 hu12=>sp rfl rfl (sl rfl G_hit rfl (sd rfl (E7 rfl) (sv rfl (A1 (js h fun z1 hz1 h=>D7 (fun s=> ∃(y1:Unit) (g1:Unit),z1= .inl y1∧Sb ⟨T [(2,(.ptr (2,u1) 0)),(3,(.ptr (3,u1) 0))],G [((2,u1),some (.box 33 (A09 p1))),((3,u1),some (.box 25 (N0 p2)))]⟩ s) ?_ ?_)))))))))
 refine A8 (F1 (A1d p1 p2) (fun (x1:Int) (g2:Unit)=>⟨T [(2,(.ptr (2,u1) 0)),(3,(.ptr (3,u1) 0)),(36,(di (p2.Agents.length:Int))),(37,(di x1))],G [((2,u1),some (.box 33 (A09 p1))),((3,u1),some (.box 25 (N0 p2)))]⟩) 0 () _ hz1 (sbr rfl rfl) ?_)
 intro x1 g2 z2 hz2 ez2
 unfold A1d at hz2
 refine lr (fun u13 hu13=>sv rfl (A1 (A6 (cc rfl hz2 (fun c5 hz2=> ?_) (fun c5 hz2=> ?_)))))
 refine A9 (A6 (A8 (lr (fun u14 hu14=>sv rfl (sv rfl (A1 (lr (fun u15 hu15=>sd rfl (B2 rfl G_hit rfl rfl) (sd rfl (B2 rfl (gq rfl) rfl rfl) (sv rfl (bs hz2 fun v2 hv2 hz2=>B0 rfl rfl A2 (B6u _ _ _ _ hv2) (.inl rfl) (sv rfl (A1 (lr (fun u16 hu16=>sv rfl (sv rfl (A1 (cc rfl hz2 (fun c6 hz2=> ?_) (fun c6 hz2=> ?_)))))))))))))))))))
 refine lr (fun u17 hu17=>sv rfl (sv rfl (A1 (B3 ?_))))
 cases hz2
 obtain rfl:=ez2 _ rfl
 refine ⟨nofun,E1 ?_⟩
 rw [Sum.elim_inr]at h
 cases h
 exact A7 (.inr rfl) (B6 (B4 rfl) E0) (.refl _)
 refine A9 (G3 (C8 fun u18 hu18=>sv rfl (sv rfl (A1 (G4 ?_)))))
 cases hz2
 exact ⟨rfl,(),(sbr rfl rfl)⟩
 refine C2 rfl ?_
 cases hz2
 obtain rfl:=ez2 _ rfl
 refine ⟨nofun,B9 rfl (l_j ?_)⟩
 exact ⟨_,(),rfl,(sbr rfl rfl)⟩
 rintro _ ⟨y1,g1,rfl,q1⟩
 rw [Sum.elim_inl]at h
 refine B5 q1 (A6 (lr (fun u19 hu19=>sp rfl rfl (sl rfl (gq rfl) rfl (sd rfl (E7 rfl) (sv rfl (A1 (js h fun z3 hz3 h=>D7 (fun s=> ∃(y2:Unit) (g3:Unit),z3= .inl y2∧Sb ⟨T [(3,(.ptr (3,u1) 0))],G [((3,u1),some (.box 25 (N0 p2)))]⟩ s) ?_ ?_))))))))
 refine A8 (F1 (A1c p1 p2) (fun (x2:Int) (g4:Unit)=>⟨T [(2,(.ptr (2,u1) 0)),(3,(.ptr (3,u1) 0)),(49,(dl N1 p2.In)),(50,(di (p2.In.length:Int))),(51,(di x2))],G [((2,u1),some (.box 33 (A09 p1))),((3,u1),some (.box 25 (N0 p2)))]⟩) 0 () _ hz3 (sbr rfl rfl) ?_)
 intro x2 g4 z4 hz4 ez4
 unfold A1c at hz4
 refine lr (fun u20 hu20=>sv rfl (A1 (A6 (cc rfl hz4 (fun c7 hz4=> ?_) (fun c7 hz4=> ?_)))))
 refine A9 (A6 (A8 (lr (fun u21 hu21=>sv rfl (bs hz4 fun v3 hv3 hz4=>sd rfl (E2 rfl rfl hv3 rfl) (sd rfl (C3 rfl hv3 rfl rfl) (sn rfl rfl (sv rfl (sst rfl G_hit (C05 v3) rfl (A1 (A6 (I0 rfl fun u22 hu22=>sp rfl rfl (sl rfl G_hit rfl (sv rfl (sv rfl (gp rfl (T8 rfl) (fun _=>rfl) (gf rfl (vl rfl G_hit rfl) (gp rfl (T8 rfl) (fun _=>rfl) (gf rfl (vl rfl (gq rfl) rfl) (gf rfl (fun w8=>(E7 (A3 w8))) (gf rfl (fun w9=>(S3 (A3 w9) (A3 w9) rfl)) (sd rfl (A0s rfl rfl (fun hc=>A3 (K9 hc))) (sv rfl (gp rfl (T8 rfl) (fun _=>rfl) (gf rfl (vl rfl G_hit rfl) (gf rfl (vb rfl rfl rfl) (sd rfl (A0s rfl rfl (fun hc=>A3 (K9 hc))) (sv rfl (gp rfl (T8 rfl) (fun _=>rfl) (gf rfl (vl rfl G_hit rfl) (gp rfl (T8 rfl) (fun _=>rfl) (gf rfl (vl rfl (gq rfl) rfl) (gf rfl (fun w17=>(E7 (A3 w17))) (gf rfl (fun w18=>(S3 (A3 w18) (A3 w18) rfl)) (sd rfl (A0s rfl rfl (fun hc=>A3 (K9 hc))) (sv rfl (gf rfl (fun _=>rfl) (gf rfl (vb rfl rfl rfl) (gf rfl (fun w21=>(D8s (A3 w21))) (A01 _ (.ptr _ _) rfl (A4c rfl) (fun _=>rfl) (gv rfl (A4c rfl) (vl rfl (gq rfl) rfl) (gv rfl (A4c rfl) (fun _=>rfl) (gv rfl (A4c rfl) (vb rfl rfl rfl) (bs hz4 fun v4 hv4 hz4=>gv rfl (A4c rfl) (fun w26=>(E2 (A3 w26) (A3 w26) (C0 w26 hv4) rfl)) (gv rfl (A4c rfl) (fun w27=>(C3 (A3 w27) (C0 w27 hv4) rfl rfl)) (gv rfl (A4c rfl) (fun w28=>(B2 rfl G_hit rfl rfl)) (bs hz4 fun v5 hv5 hz4=> ?_)))))))))))))))))))))))))))))))))))))))))))))))
 refine S4 _ (i64 v5) (A4c rfl) (fun w29=>⟨_,[(.d (.agg (N1 v4))),(.d (.agg (N1 v3)))],_,_,(by simp only [A3 w29];rfl),rfl,A2,B2f _ _ _ (C0 w29 hv5),(.inl rfl)⟩) ?_
 refine gv rfl (A4c rfl) (vb rfl rfl rfl) (gf rfl (fun w31=>(C7z (A3 w31) (fun hc=>A3 (C80 w31 hc)) rfl)) (sd rfl (A0s rfl rfl (fun hc=>A3 (K9 hc))) (A1 (cc rfl hz4 (fun c8 hz4=> ?_) (fun c8 hz4=> ?_)))))
 refine lr (fun u23 hu23=>sv rfl (A1 (B3 ?_)))
 cases hz4
 obtain rfl:=ez4 _ rfl
 refine ⟨nofun,E1 ?_⟩
 rw [Sum.elim_inr]at h
 cases h
 exact A7 (.inr rfl) (B6 (B4 rfl) E0) (.refl _)
 refine A9 (G3 (C8 fun u24 hu24=>sv rfl (sv rfl (A1 (G4 ?_)))))
 cases hz4
 exact ⟨rfl,(),(sbr rfl rfl)⟩
 refine C2 rfl ?_
 cases hz4
 obtain rfl:=ez4 _ rfl
 refine ⟨nofun,B9 rfl (l_j ?_)⟩
 exact ⟨_,(),rfl,(sbr rfl rfl)⟩
 rintro _ ⟨y2,g3,rfl,q2⟩
 rw [Sum.elim_inl]at h
 refine B5 q2 (A6 (lr (fun u25 hu25=>sp rfl rfl (sl rfl G_hit rfl (C1 (.fn _ _ _) rfl rfl (bs h fun v6 hv6 h=>B0 rfl (rD (D3 (C2s F2 (D3 (A38 G_hit (rD (rD (rD F2)))) F2)) F2)) A2 (A2s _ _ _ hv6) (.inr rfl) (A1 (cc rfl h (fun c9 h=> ?_) (fun c9 h=> ?_)))))))))
 refine lr (fun u26 hu26=>sv rfl (A1 (B3 ?_)))
 cases h
 exact A7 (.inr rfl) (B6 (B4 rfl) E0) (.refl _)
 refine A9 (lr (fun u27 hu27=>sv rfl (A1 (B3 ?_))))
 cases h
 exact A7 (.inr rfl) (B6 (B4 rfl) E0) (.refl _)
noncomputable def B11 (p1:Agent):Option Bool:=
  some p1.Gone
theorem C2w (p1:Agent)(r:Bool)(h:B11 p1=some r):PCall Tryz.prog 79 [(.agg (D8 p1))] (bo r):=by
 refine B7 (fk Tryz.func79 Tryz.ntmps79 m0 (by with_unfolding_all rfl)) (nl rfl) ?_
 unfold B11 at h
 refine B5 (s0:=⟨T [(0,(.d _))],G []⟩) (sbr rfl rfl) ?_
 refine lr (fun u1 hu1=>sn rfl rfl (sv rfl (A1 (lr (fun u2 hu2=>sp rfl rfl (sl rfl G_hit rfl (sv rfl (A1 (B3 ?_)))))))))
 cases h
 exact A7 (.inr rfl) (B6 (B4 rfl) E0) (.refl _)
noncomputable def J2 (p1:(List Agent))(x1:Int):Option (Stp Int (Sum Unit Int)):=
  cond (decide (x1< (p1.length:Int))) ((D4 p1 x1).bind fun v1=>(B11 v1).bind fun v2=>cond v2 (some (.out (.inr x1))) (some (.go (w64 (x1+1))))) (some (.out (.inl ())))
noncomputable def K5 (p1:(List Agent)):Option Int:=
  thenS (loop (J2 p1) 0) (fun _=>some (-1)) (fun r=>some r)
theorem A3z (p1:(List Agent))(r:Int)(h:K5 p1=some r):PCall Tryz.prog 170 [(.list (List.map D8 p1)),(.fn (.func 79) [] [])] (i64 r):=by
 refine B7 (fk Tryz.func170 Tryz.ntmps170 m0 (by with_unfolding_all rfl)) (nl rfl) ?_
 unfold K5 at h
 refine B5 (s0:=⟨T [(0,(.d _)),(1,(.d _))],G []⟩) (sbr rfl rfl) ?_
 refine lr (fun u1 hu1=>sv rfl (A1 (A6 (lr (fun u2 hu2=>sv rfl (sd rfl (E7 rfl) (sv rfl (A1 (js h fun z1 hz1 h=>D7 (fun s=> ∃(y1:Unit) (g1:Unit),z1= .inl y1∧Sb ⟨T [],G []⟩ s) ?_ ?_)))))))))
 refine A8 (F1 (J2 p1) (fun (x1:Int) (g2:Unit)=>⟨T [(0,(dl D8 p1)),(1,(.d (.fn (.func 79) [] []))),(7,(di (p1.length:Int))),(8,(di x1))],G []⟩) 0 () _ hz1 (sbr rfl rfl) ?_)
 intro x1 g2 z2 hz2 ez2
 unfold J2 at hz2
 refine lr (fun u3 hu3=>sv rfl (A1 (A6 (cc rfl hz2 (fun c1 hz2=> ?_) (fun c1 hz2=> ?_)))))
 refine A9 (A6 (A8 (lr (fun u4 hu4=>sv rfl (sv rfl (A1 (lr (fun u5 hu5=>sv rfl (sv rfl (sv rfl (bs hz2 fun v1 hv1 hz2=>sd rfl (E2 rfl rfl hv1 rfl) (sd rfl (C3 rfl hv1 rfl rfl) (bs hz2 fun v2 hv2 hz2=>B0 rfl rfl A2 (C2w _ _ hv2) (.inl rfl) (A1 (cc rfl hz2 (fun c2 hz2=> ?_) (fun c2 hz2=> ?_))))))))))))))))
 refine lr (fun u6 hu6=>sv rfl (sv rfl (A1 (B3 ?_))))
 cases hz2
 obtain rfl:=ez2 _ rfl
 refine ⟨nofun,E1 ?_⟩
 rw [Sum.elim_inr]at h
 cases h
 exact A7 (.inr rfl) (B6 (B4 rfl) E0) (.refl _)
 refine A9 (G3 (C8 fun u7 hu7=>sv rfl (sv rfl (A1 (G4 ?_)))))
 cases hz2
 exact ⟨rfl,(),(sbr rfl rfl)⟩
 refine C2 rfl ?_
 cases hz2
 obtain rfl:=ez2 _ rfl
 refine ⟨nofun,B9 rfl (l_j ?_)⟩
 exact ⟨_,(),rfl,(sbr rfl rfl)⟩
 rintro _ ⟨y1,g1,rfl,q1⟩
 rw [Sum.elim_inl]at h
 refine B5 q1 (lr (fun u8 hu8=>sv rfl (A1 (B3 ?_))))
 cases h
 exact A7 (.inr rfl) (B6 (B4 rfl) E0) (.refl _)
noncomputable def J3 (p1:(List Agent)):Option Bool:=
  (K5 p1).bind fun v1=>some (decide (v1≥0))
theorem A31 (p1:(List Agent))(r:Bool)(h:J3 p1=some r):PCall Tryz.prog 78 [(.list (List.map D8 p1)),(.fn (.func 79) [] [])] (bo r):=by
 refine B7 (fk Tryz.func78 Tryz.ntmps78 m0 (by with_unfolding_all rfl)) (nl rfl) ?_
 unfold J3 at h
 refine B5 (s0:=⟨T [(0,(.d _)),(1,(.d _))],G []⟩) (sbr rfl rfl) ?_
 refine lr (fun u1 hu1=>sv rfl (A1 (lr (fun u2 hu2=>sv rfl (sv rfl (bs h fun v1 hv1 h=>B0 rfl rfl A2 (A3z _ _ hv1) (.inl rfl) (sv rfl (sv rfl (A1 (B3 ?_))))))))))
 cases h
 exact A7 (.inr rfl) (B6 (B4 rfl) E0) (.refl _)
noncomputable def A2t (p1:State)(p2:Int):Option Bool:=
  ((cond ((decide (p2≥0))&& (decide (p2< (p1.Agents.length:Int)))) (D4 p1.Agents p2) (some default))).bind fun v1=>((cond (((decide (p2≥0))&& (decide (p2< (p1.Agents.length:Int))))&& (!v1.Gone)) (D4 p1.Agents p2) (some default))).bind fun v2=>some ((((decide (p2≥0))&& (decide (p2< (p1.Agents.length:Int))))&& (!v1.Gone))&& (decide (v2.Begin≤p1.Tick)))
theorem A90 (p1:State)(p2:Int)(r:Bool)(h:A2t p1 p2=some r):PCall Tryz.prog 36 [(.agg (A30 p1)),(i64 p2)] (bo r):=by
 refine B7 (fk Tryz.func36 Tryz.ntmps36 m0 (by with_unfolding_all rfl)) (nl rfl) ?_
 unfold A2t at h
 refine B5 (s0:=⟨T [(0,(.d _)),(1,(.d _))],G []⟩) (sbr rfl rfl) ?_
 refine lr (fun u1 hu1=>sn rfl rfl (sv rfl (A1 (A6 (I0 rfl fun u2 hu2=>sv rfl (sv rfl (sv rfl (gt rfl (fun _=>rfl) (gp rfl (A0d rfl) (fun _=>rfl) (gt rfl (vl rfl G_hit rfl) (gt rfl (fun w4=>(E7 (A3 w4))) (gt rfl (fun w5=>(S3 (A3 w5) (A3 w5) rfl)) (sa rfl rfl rfl (sv rfl (gp rfl (A0d rfl) (fun _=>rfl) (gt rfl (vl rfl G_hit rfl) (gt rfl (fun _=>rfl) (bs h fun v1 hv1 h=>gt rfl (fun w9=>(E2 (A3 w9) (A3 w9) (C0 w9 hv1) rfl)) ?_))))))))))))))))))
 refine gt rfl (fun w10=>(by simp only [A3 w10];rfl)) ?_
 refine gt rfl (fun w11=>(D9 (A3 w11) (C0 w11 hv1) rfl)) ?_
 refine A01 _ (.d (bo (!v1.Gone))) rfl (A0d rfl) (fun w12=>(by simp only [A3 w12];rfl)) ?_
 refine sa rfl rfl rfl (sv rfl (gp rfl (A0d rfl) (fun _=>rfl) (gt rfl (vl rfl G_hit rfl) (gt rfl (fun _=>rfl) (bs h fun v2 hv2 h=>gt rfl (fun w16=>(E2 (A3 w16) (A3 w16) (C0 w16 hv2) rfl)) ?_)))))
 refine gt rfl (fun w17=>(by simp only [A3 w17];rfl)) ?_
 refine gt rfl (fun w18=>(D9 (A3 w18) (C0 w18 hv2) rfl)) (gp rfl (A0d rfl) (fun _=>rfl) (gt rfl (vl rfl G_hit rfl) (gt rfl (fun w21=>(S3 (A3 w21) (A3 w21) rfl)) (sa rfl rfl rfl (sv rfl (A1 (B3 ?_)))))))
 cases h
 exact A7 (.inr rfl) (B6 (B4 rfl) E0) (.refl _)
noncomputable def A8q (p1:Agent):Option Bool:=
  some ((((decide (p1.S≥0))&& (decide (p1.S≤1099511627776)))&& (decide (p1.Len≥0)))&& (decide (p1.Len≤1099511627776)))
theorem B3w (p1:Agent)(r:Bool)(h:A8q p1=some r):PCall Tryz.prog 138 [(.agg (D8 p1))] (bo r):=by
 refine B7 (fk Tryz.func138 Tryz.ntmps138 m0 (by with_unfolding_all rfl)) (nl rfl) ?_
 unfold A8q at h
 refine B5 (s0:=⟨T [(0,(.d _))],G []⟩) (sbr rfl rfl) ?_
 refine lr (fun u1 hu1=>sn rfl rfl (sv rfl (A1 (lr (fun u2 hu2=>sp rfl rfl (sl rfl G_hit rfl (sv rfl (sv rfl (gp rfl (A0d rfl) (fun _=>rfl) (gt rfl (vl rfl G_hit rfl) (gt rfl (vb rfl rfl rfl) (sa rfl rfl rfl (sv rfl (gp rfl (A0d rfl) (fun _=>rfl) (gt rfl (vl rfl G_hit rfl) (gt rfl (vb rfl rfl rfl) (sa rfl rfl rfl (sv rfl (gp rfl (A0d rfl) (fun _=>rfl) (gt rfl (vl rfl G_hit rfl) (gt rfl (vb rfl rfl rfl) (sa rfl rfl rfl (sv rfl (A1 (B3 ?_)))))))))))))))))))))))))
 cases h
 exact A7 (.inr rfl) (B6 (B4 rfl) E0) (.refl _)
noncomputable def X0 (p1:Int):Option Bool:=
  some (p1 !=p1)
theorem A4y (p1:Int)(r:Bool)(h:X0 p1=some r):PCall Tryz.prog 255 [(i64 p1)] (bo r):=by
 refine B7 (fk Tryz.func255 Tryz.ntmps255 m0 (by with_unfolding_all rfl)) (nl rfl) ?_
 unfold X0 at h
 refine B5 (s0:=⟨T [(0,(.d _))],G []⟩) (sbr rfl rfl) ?_
 refine lr (fun u1 hu1=>sv rfl (A1 (lr (fun u2 hu2=>sv rfl (sv rfl (sv rfl (sv rfl (A1 (B3 ?_)))))))))
 cases h
 exact A7 (.inr rfl) (B6 (B4 rfl) E0) (.refl _)
end Go.Abs.World
