/-
  The Go functions that WorldObeys reaches, as plain Lean functions, and the proofs that the program computes them.
-/
import Derived.Test.YtgjdiioennhoeaaGreatCoreD
import Derived.Test.YtgjdiioennhoeaaGreatProg
import Derived.KernelRfl
import Derived.IntWalk
import Derived.Shelf.SlicesE.Compact
set_option maxRecDepth 20000
set_option maxHeartbeats 4000000
set_option linter.unusedVariables false
namespace Go.Abs.World
noncomputable section
open Go Go.Abs Go.Proofs Tryz
attribute [local irreducible] L8 Fb De
structure Spot where
  X:Int
  Y:Int
  deriving Inhabited
structure CurveVector where
  x:Int
  y:Int
  deriving Inhabited
structure CurvePiece where
  p:Spot
  v:CurveVector
  l:Int
  start:Int
  deriving Inhabited
abbrev Cp:Spot→List D:=fun x=> [(i64 x.X),(i64 x.Y)]
structure Curve where
  Pts:(List Spot)
  deriving Inhabited
abbrev rC:Curve→List D:=fun x=> [(.list (List.map Cp x.Pts))]
structure Stay where
  Agent_:Int
  Zone_:Int
  Since:Int
  Rank:Int
  deriving Inhabited
abbrev J7:Stay→List D:=fun x=> [(i64 x.Agent_),(i64 x.Zone_),(i64 x.Since),(i64 x.Rank)]
abbrev A4:Int→List D:=fun x=> [.v (.int .i64 x)]
structure KitActor where
  R:Int
  S:Int
  V:Int
  Len:Int
  Begin:Int
  Disobeys:Bool
  deriving Inhabited
abbrev Pb:KitActor→List D:=fun x=> [(i64 x.R),(i64 x.S),(i64 x.V),(i64 x.Len),(i64 x.Begin),(bo x.Disobeys)]
abbrev SN:(List KitActor)→List D:=fun x=> [.list (List.map Pb x)]
abbrev pZ:Bool→List D:=fun x=> [bo x]
abbrev VW:(List Int)→List D:=fun x=> [.list (List.map A4 x)]
structure Lane where
  Kind:Int
  Curve_:Curve
  Half:Int
  Limit:Int
  Next:(List Int)
  deriving Inhabited
structure Part where
  Lane_:Int
  From:Int
  To:Int
  Rank:Int
  deriving Inhabited
structure Zone where
  Parts:(List Part)
  Signal_:Int
  deriving Inhabited
structure Phase where
  Ticks:Int
  Green:(List Int)
  deriving Inhabited
structure Signal where
  Offset:Int
  Phases:(List Phase)
  deriving Inhabited
structure Work where
  Lane_:Int
  From:Int
  To:Int
  Begin:Int
  End:Int
  Limit:Int
  deriving Inhabited
structure Map where
  Version:Int
  Lanes:(List Lane)
  Zones:(List Zone)
  Signals:(List Signal)
  Works:(List Work)
  deriving Inhabited
abbrev Gr:Lane→List D:=fun x=> [(i64 x.Kind),(.list (List.map Cp x.Curve_.Pts)),(i64 x.Half),(i64 x.Limit),(.list (List.map A4 x.Next))]
abbrev Bf:Part→List D:=fun x=> [(i64 x.Lane_),(i64 x.From),(i64 x.To),(i64 x.Rank)]
abbrev Gs:Zone→List D:=fun x=> [(.list (List.map Bf x.Parts)),(i64 x.Signal_)]
abbrev Bb:Phase→List D:=fun x=> [(i64 x.Ticks),(.list (List.map A4 x.Green))]
abbrev Nv:Signal→List D:=fun x=> [(i64 x.Offset),(.list (List.map Bb x.Phases))]
abbrev Ut:Work→List D:=fun x=> [(i64 x.Lane_),(i64 x.From),(i64 x.To),(i64 x.Begin),(i64 x.End),(i64 x.Limit)]
structure Agent where
  Route:(List Int)
  S:Int
  V:Int
  Len:Int
  Begin:Int
  Obey:Bool
  Gone:Bool
  deriving Inhabited
abbrev D0:Agent→List D:=fun x=> [(.list (List.map A4 x.Route)),(i64 x.S),(i64 x.V),(i64 x.Len),(i64 x.Begin),(bo x.Obey),(bo x.Gone)]
structure State where
  Tick:Int
  Agents:(List Agent)
  In:(List Stay)
  deriving Inhabited
abbrev rO:Nat→List D:=fun x=> [.fn (.func x) [] []]
structure RoadsCheck where
  Map_:Map
  deriving Inhabited
abbrev qA:(Int×Int×Int)→List D:=fun x=> [(i64 x.1),(i64 x.2.1),(i64 x.2.2)]
structure RoadsWay where
  Map_:Map
  lanes:(List Int)
  starts:(List Int)
  length:Int
  deriving Inhabited
structure WorldSpan where
  from_:Int
  to:Int
  deriving Inhabited
structure Crash where
  Tick:Int
  A:Int
  B:Int
  Lane_:Int
  Zone_:Int
  Who:(List Int)
  deriving Inhabited
structure WorldScene where
  m:Map
  before:State
  after:State
  acts:(List Int)
  crashes:(List Crash)
  deriving Inhabited
abbrev Es:Crash→List D:=fun x=> [(i64 x.Tick),(i64 x.A),(i64 x.B),(i64 x.Lane_),(i64 x.Zone_),(.list (List.map A4 x.Who))]
structure Pass where
  Zone_:Int
  Part_:Int
  From:Int
  To:Int
  deriving Inhabited
abbrev Q6:Pass→List D:=fun x=> [(i64 x.Zone_),(i64 x.Part_),(i64 x.From),(i64 x.To)]
abbrev qB:(List Agent)→List D:=fun x=> [.list (List.map D0 x)]
abbrev qT:(List Stay)→List D:=fun x=> [.list (List.map J7 x)]
structure Span where
  Lane_:Int
  From:Int
  To:Int
  deriving Inhabited
abbrev Dc:Span→List D:=fun x=> [(i64 x.Lane_),(i64 x.From),(i64 x.To)]
structure Anon7 where
  x:Int
  y:Int
  signed:Bool
  code:Int
  deriving Inhabited
structure RuntimeBoundsError where
  x:Int
  y:Int
  signed:Bool
  code:Int
  deriving Inhabited
structure Anon13 where
  msg:ByteArray
  addr:Int
  deriving Inhabited
structure RuntimeErrorAddressString where
  msg:ByteArray
  addr:Int
  deriving Inhabited
structure Anon24 where
  Tick:Int
  Agents:(List Agent)
  In:(List Stay)
  deriving Inhabited
structure Anon32 where
  Version:Int
  Lanes:(List Lane)
  Zones:(List Zone)
  Signals:(List Signal)
  Works:(List Work)
  deriving Inhabited
structure Anon44 where
  Route:(List Int)
  S:Int
  V:Int
  Len:Int
  Begin:Int
  Obey:Bool
  Gone:Bool
  deriving Inhabited
structure Anon60 where
  Pts:(List Spot)
  deriving Inhabited
structure Anon62 where
  Kind:Int
  Curve_:Curve
  Half:Int
  Limit:Int
  Next:(List Int)
  deriving Inhabited
structure Anon72 where
  R:Int
  S:Int
  V:Int
  Len:Int
  Begin:Int
  Disobeys:Bool
  deriving Inhabited
structure Anon76 where
  Tick:Int
  A:Int
  B:Int
  Lane_:Int
  Zone_:Int
  Who:(List Int)
  deriving Inhabited
structure Anon82 where
  Stamp:Int
  Lo:Int
  Hi:Int
  deriving Inhabited
structure Mark where
  Stamp:Int
  Lo:Int
  Hi:Int
  deriving Inhabited
structure Anon92 where
  Lane_:Int
  From:Int
  To:Int
  deriving Inhabited
structure Point where
  X:Int
  Y:Int
  V:Int
  deriving Inhabited
structure Anon98 where
  Stamp:Int
  Seen:(List Span)
  Points:(List Point)
  deriving Inhabited
structure Scan where
  Stamp:Int
  Seen:(List Span)
  Points:(List Point)
  deriving Inhabited
structure Anon103 where
  X:Int
  Y:Int
  deriving Inhabited
structure Anon106 where
  X:Int
  Y:Int
  V:Int
  deriving Inhabited
structure Anon113 where
  Lane_:Int
  From:Int
  To:Int
  Rank:Int
  deriving Inhabited
structure Anon116 where
  Parts:(List Part)
  Signal_:Int
  deriving Inhabited
structure Anon119 where
  Offset:Int
  Phases:(List Phase)
  deriving Inhabited
structure Anon122 where
  Lane_:Int
  From:Int
  To:Int
  Begin:Int
  End:Int
  Limit:Int
  deriving Inhabited
structure Anon126 where
  Agent_:Int
  Zone_:Int
  Since:Int
  Rank:Int
  deriving Inhabited
structure Anon134 where
  m:Map
  before:State
  after:State
  acts:(List Int)
  crashes:(List Crash)
  deriving Inhabited
structure Anon164 where
  s:ByteArray
  bad:Bool
  deriving Inhabited
structure WorldReader where
  s:ByteArray
  bad:Bool
  deriving Inhabited
structure Anon171 where
  s:ByteArray
  bad:Bool
  deriving Inhabited
structure Ref04Reader where
  s:ByteArray
  bad:Bool
  deriving Inhabited
structure Anon190 where
  from_:Int
  to:Int
  deriving Inhabited
structure Anon207 where
  Ticks:Int
  Green:(List Int)
  deriving Inhabited
structure Anon211 where
  Map_:Map
  deriving Inhabited
structure Anon228 where
  Zone_:Int
  Part_:Int
  From:Int
  To:Int
  deriving Inhabited
structure WorldBar where
  front:Spot
  rear:Spot
  deriving Inhabited
structure Anon245 where
  m:Map
  eye:Spot
  view:Int
  bodies:(List (List Span))
  bars:(List WorldBar)
  deriving Inhabited
structure WorldLooks where
  m:Map
  eye:Spot
  view:Int
  bodies:(List (List Span))
  bars:(List WorldBar)
  deriving Inhabited
structure Anon247 where
  front:Spot
  rear:Spot
  deriving Inhabited
structure Anon252 where
  x:Int
  y:Int
  deriving Inhabited
structure Anon254 where
  p:Spot
  v:CurveVector
  l:Int
  start:Int
  deriving Inhabited
structure Anon259 where
  Map_:Map
  lanes:(List Int)
  starts:(List Int)
  length:Int
  deriving Inhabited
abbrev Qf:WorldScene→List D:=fun x=> [(i64 x.m.Version),(.list (List.map Gr x.m.Lanes)),(.list (List.map Gs x.m.Zones)),(.list (List.map Nv x.m.Signals)),(.list (List.map Ut x.m.Works)),(i64 x.before.Tick),(.list (List.map D0 x.before.Agents)),(.list (List.map J7 x.before.In)),(i64 x.after.Tick),(.list (List.map D0 x.after.Agents)),(.list (List.map J7 x.after.In)),(.list (List.map A4 x.acts)),(.list (List.map Es x.crashes))]
abbrev W4:WorldScene→List AV:=fun x=> [(.d (i64 x.m.Version)),(.d (.list (List.map Gr x.m.Lanes))),(.d (.list (List.map Gs x.m.Zones))),(.d (.list (List.map Nv x.m.Signals))),(.d (.list (List.map Ut x.m.Works))),(.d (i64 x.before.Tick)),(.d (.list (List.map D0 x.before.Agents))),(.d (.list (List.map J7 x.before.In))),(.d (i64 x.after.Tick)),(.d (.list (List.map D0 x.after.Agents))),(.d (.list (List.map J7 x.after.In))),(.d (.list (List.map A4 x.acts))),(.d (.list (List.map Es x.crashes)))]
abbrev ZZ:RoadsWay→List D:=fun x=> [(i64 x.Map_.Version),(.list (List.map Gr x.Map_.Lanes)),(.list (List.map Gs x.Map_.Zones)),(.list (List.map Nv x.Map_.Signals)),(.list (List.map Ut x.Map_.Works)),(.list (List.map A4 x.lanes)),(.list (List.map A4 x.starts)),(i64 x.length)]
abbrev Pc:RoadsWay→List AV:=fun x=> [(.d (i64 x.Map_.Version)),(.d (.list (List.map Gr x.Map_.Lanes))),(.d (.list (List.map Gs x.Map_.Zones))),(.d (.list (List.map Nv x.Map_.Signals))),(.d (.list (List.map Ut x.Map_.Works))),(.d (.list (List.map A4 x.lanes))),(.d (.list (List.map A4 x.starts))),(.d (i64 x.length))]
abbrev T0:Agent→List AV:=fun x=> [(.d (.list (List.map A4 x.Route))),(.d (i64 x.S)),(.d (i64 x.V)),(.d (i64 x.Len)),(.d (i64 x.Begin)),(.d (bo x.Obey)),(.d (bo x.Gone))]
abbrev NP:KitActor→List AV:=fun x=> [(.d (i64 x.R)),(.d (i64 x.S)),(.d (i64 x.V)),(.d (i64 x.Len)),(.d (i64 x.Begin)),(.d (bo x.Disobeys))]
abbrev qC:Work→List AV:=fun x=> [(.d (i64 x.Lane_)),(.d (i64 x.From)),(.d (i64 x.To)),(.d (i64 x.Begin)),(.d (i64 x.End)),(.d (i64 x.Limit))]
abbrev SO:CurvePiece→List D:=fun x=> [(i64 x.p.X),(i64 x.p.Y),(i64 x.v.x),(i64 x.v.y),(i64 x.l),(i64 x.start)]
abbrev SP:CurvePiece→List AV:=fun x=> [(.d (i64 x.p.X)),(.d (i64 x.p.Y)),(.d (i64 x.v.x)),(.d (i64 x.v.y)),(.d (i64 x.l)),(.d (i64 x.start))]
abbrev P7:Map→List D:=fun x=> [(i64 x.Version),(.list (List.map Gr x.Lanes)),(.list (List.map Gs x.Zones)),(.list (List.map Nv x.Signals)),(.list (List.map Ut x.Works))]
abbrev L4:Map→List AV:=fun x=> [(.d (i64 x.Version)),(.d (.list (List.map Gr x.Lanes))),(.d (.list (List.map Gs x.Zones))),(.d (.list (List.map Nv x.Signals))),(.d (.list (List.map Ut x.Works)))]
abbrev EG:Lane→List AV:=fun x=> [(.d (i64 x.Kind)),(.d (.list (List.map Cp x.Curve_.Pts))),(.d (i64 x.Half)),(.d (i64 x.Limit)),(.d (.list (List.map A4 x.Next)))]
abbrev Tn:Part→List AV:=fun x=> [(.d (i64 x.Lane_)),(.d (i64 x.From)),(.d (i64 x.To)),(.d (i64 x.Rank))]
abbrev Wx:Stay→List AV:=fun x=> [(.d (i64 x.Agent_)),(.d (i64 x.Zone_)),(.d (i64 x.Since)),(.d (i64 x.Rank))]
abbrev Bc:State→List D:=fun x=> [(i64 x.Tick),(.list (List.map D0 x.Agents)),(.list (List.map J7 x.In))]
abbrev J5:State→List AV:=fun x=> [(.d (i64 x.Tick)),(.d (.list (List.map D0 x.Agents))),(.d (.list (List.map J7 x.In)))]
def Yq (p4:(List Int))(x1:(Int× (List Spot))):Option (Stp (Int× (List Spot)) (List Spot)):=
  cond (decide ((D3 (x1.1+1))< (p4.length:Int))) ((C1 p4 x1.1).bind fun v1=>(C1 p4 (D3 (x1.1+1))).bind fun v2=>(X6 x1.2 [(Spot.mk v1 v2)]).bind fun v3=>some (.go ((D3 (x1.1+2)),v3))) (some (.out x1.2))
def U6 [Lp](p1:Int)(p2:Int)(p3:(List Int))(p4:(List Int)):Option Lane:=
  (loop (Yq p4) (0,[])).bind fun y1=>cond (p1==3) (some (Lane.mk p1 (Curve.mk y1) 500 p2 p3)) (some (Lane.mk p1 (Curve.mk y1) 1500 p2 p3))
theorem S4(p1 p2 p3 p4 r)(h:U6 p1 p2 p3 p4=some r):PCall prog 69 [(i64 p1),(i64 p2),(.list (List.map A4 p3)),(.list (List.map A4 p4))] (.agg (Gr r)):=by
 refine C4 (fk func69 ntmps69 (fun r=>if r==5 then [1013]else []) (by with_unfolding_all rfl)) (nl W) ?_
 unfold U6 at h
 refine B4 (s0:=⟨T [(0,(.d _)),(1,(.d _)),(2,(.d _)),(3,(.d _))],G []⟩) (F2 W W) ?_
 refine lr<|fun u1 _=>sm W<|A1<|lr<|fun u2 _=>sv W<|sv W<|sv W<|sv W<|sm W<|U0 W G_hit [(di p1),(.d .nilS),(di 1500),(di p2),(dl A4 p3)] W (A1<|A5<|B0<|sv W<|A1<|bs h fun y1 hy1 h=>D9 (fun s=> ∃g1:Nat,Sb ⟨T [(0,(di p1)),(8,(.ptr (8,u1) 0)),(9,(.ptr (9,u2) 0))],G [((8,u1),some<|.box 63 (((zs 4).set 1 (.d .nilS))++ [(.d .nilS)])),((9,u2),some<|.box 63 [(di p1),(oS y1 (36,g1)),(di 1500),(di p2),(dl A4 p3)]),((36,g1),oB 104 2 Cp y1)]⟩ s) ?_ ?_)
 refine A7<|E4 (Yq p4) (fun (x1:(Int× (List Spot))) (g2:Nat)=>⟨T [(0,(di p1)),(3,(dl A4 p4)),(8,(.ptr (8,u1) 0)),(9,(.ptr (9,u2) 0)),(10,(di x1.1))],G [((8,u1),some<|.box 63 (((zs 4).set 1 (.d .nilS))++ [(.d .nilS)])),((9,u2),some<|.box 63 [(di p1),(oS x1.2 (36,g2)),(di 1500),(di p2),(dl A4 p3)]),((36,g2),oB 104 2 Cp x1.2)]⟩) (0,[]) 0 _ hy1 (E0 (Z7 W)<|sg W<|B5 G_hit (.of W)<|S5 trivial) ?_
 intro x1 g2 z1 hz1 ez1
 unfold Yq at hz1
 refine A5<|B0<|sv W<|sv W<|sv W<|sd W (D7 W)<|sv W<|A1<|cc W hz1 (fun c1 hz1=> ?_)<|fun c1 hz1=> ?_
 refine A8<|A5<|A7<|Nr W fun u5 _=>sq W<|sq W<|C0 (oS x1.2 (36,g2)) W (Q8 W (gq W) W) (sv W<|sv W<|bs hz1 fun v1 hv1 hz1=>sd W (C5 W W hv1 W)<|sd W (C9 W hv1 W)<|sv W<|sv W<|sv W<|bs hz1 fun v2 hv2 hz1=>sd W (C5 W W hv2 W)<|sd W (C9 W hv2 W)<|sv W<|C0 (dl Cp [(Spot.mk v1 v2)]) W W (bs hz1 fun _ hv3 hz1=>Q3 Cp (36,g2) x1.2 (Spot.mk v1 v2) [] _ (K7<|fun _=>W) W (gq W) hv3 (sq W<|sp W W<|U0 W (gq W) [(di p1),(.sl (36,u5)),(di 1500),(di p2),(dl A4 p3)] W (A1<|E3<|B7<|sv W<|sv W<|sv W<|A1<|E2 ?_))))
 cases hz1
 exact ⟨W,u5,(E0 (Z7 W)<|sg W<|B5 G_hit (.box (cv<|.cons (.of (V1<|V4 hv3).symm) cw))<|N8 (gq W) trivial)⟩
 refine C8 W ?_
 cases hz1
 obtain rfl:=ez1 _ rfl
 refine ⟨nofun,C6 W<|U4 ?_⟩
 exact ⟨g2,(E0 (Z7 W)<|B5 G_hit (.of W)<|sg W<|B8 (gq W) trivial)⟩
 rintro _ ⟨g1,q1⟩
 refine B4 q1<|A5<|B0<|sv W<|sv W<|A1<|cc W h (fun c2 h=> ?_)<|fun c2 h=> ?_
 refine B7<|sq W<|U0 W (gq W) [(di p1),(oS y1 (36,g1)),(di 500),(di p2),(dl A4 p3)] W (A1<|B0<|C0 (X5 [(di p1),(oS y1 (36,g1)),(di 500),(di p2),(dl A4 p3)]) W (B1 W G_hit W W) (Jz _ _ _ _ _ (X1 _) W W (gq W) (nl W) [(di p1),(oS y1 (36,g1)),(di 500),(di p2),(dl A4 p3)] W (A1<|B2 ?_)))
 cases h
 exact A6 (.inr W) (B6 (K2 W G_hit (nl W) W)<|Ns<|rD<|E6 (T9<|gq W)<|rD<|rD<|rD G1) (.agg (ca W<|.cons ⟨T8,W⟩ (cz W)))
 refine A8<|B0<|C0 (X5 [(di p1),(oS y1 (36,g1)),(di 1500),(di p2),(dl A4 p3)]) W (B1 W (gq W) W W) (Jz _ _ _ _ _ (X1 _) W W G_hit (nl W) [(di p1),(oS y1 (36,g1)),(di 1500),(di p2),(dl A4 p3)] W (A1<|B2 ?_))
 cases h
 exact A6 (.inr W) (B6 (K2 W G_hit (nl W) W)<|Ns<|rD<|E6 (T9<|gq W)<|rD<|rD<|rD G1) (.agg (ca W<|.cons ⟨T8,W⟩ (cz W)))
def Rt [Lp]:Option Map:=
  (U6 1 1500 [] [0,0,100000,0]).bind fun v1=>(U6 1 1500 [] [50000,(-50000),50000,50000]).bind fun v2=>some (Map.mk 0 [v1,v2] [(Zone.mk [(Part.mk 0 48000 52000 1),(Part.mk 1 48000 52000 0)] 0)] [] [])
theorem PX(r)(h:Rt=some r):PCall prog 65 [] (.agg (P7 r)):=by
 refine C4 (fk func65 ntmps65 (fun r=>if r==1 then [1000,1002,1004,1007,1009]else []) (by with_unfolding_all rfl)) (nl W) ?_
 unfold Rt at h
 refine B4 (s0:=⟨T [],G []⟩) (F2 W W) ?_
 refine B0<|sm W<|A1<|B0<|C0 (dl A4 [0,0,100000,0]) W W (bs h fun v1 hv1 h=>A9 W W (.cons (.refl _) (.cons (.refl _) (.cons DLe.nil A3))) (S4 _ _ _ _ _ hv1) (.inl W) (C0 (dl A4 [50000,(-50000),50000,50000]) W W (bs h fun v2 hv2 h=>A9 W W (.cons (.refl _) (.cons (.refl _) (.cons DLe.nil A3))) (S4 _ _ _ _ _ hv2) (.inl W) (C0 (dl Gr [v1,v2]) W (FV Gr ([v1,v2]:List Lane) (fun _=>W) W W ⟨W,W,W,W,W,W,trivial⟩ (fun _=>W)) (sv W<|sv W<|C0 (dl Bf [(Part.mk 0 48000 52000 1),(Part.mk 1 48000 52000 0)]) W W (sv W<|C0 (dl Gs [(Zone.mk [(Part.mk 0 48000 52000 1),(Part.mk 1 48000 52000 0)] 0)]) W W (sv W<|U0 W G_hit [(di 0),(dl Gr [v1,v2]),(dl Gs [(Zone.mk [(Part.mk 0 48000 52000 1),(Part.mk 1 48000 52000 0)] 0)]),(.d .nilS),(.d .nilS)] W (A1<|B2 ?_))))))))
 cases h
 exact A6 (.inr W) (B6 (K2 W G_hit (nl W) W) C2) (.agg (ca W<|ca W<|ca W<|.cons ⟨DLe.nil,W⟩ (.cons ⟨DLe.nil,W⟩ .nil)))
def Tp (p1:Int)(p2:Int)(p3:Int):Option Agent:=
  some (Agent.mk [p1] p2 p3 4000 0 false false)
theorem Yr(p1 p2 p3 r)(h:Tp p1 p2 p3=some r):PCall prog 66 [(i64 p1),(i64 p2),(i64 p3)] (.agg (D0 r)):=by
 refine C4 (fk func66 ntmps66 (fun r=>if r==1 then [1001]else []) (by with_unfolding_all rfl)) (nl W) ?_
 unfold Tp at h
 refine B4 (s0:=⟨T [(0,(.d _)),(1,(.d _)),(2,(.d _))],G []⟩) (F2 W W) ?_
 refine B0<|sm W<|A1<|B0<|sv W<|C0 (dl A4 [p1]) W W (sv W<|sv W<|sv W<|U0 W G_hit [(dl A4 [p1]),(di p2),(di p3),(di 4000),(di 0),(.d (bo false)),(.d (bo false))] W (A1<|B2 ?_))
 cases h
 exact A6 (.inr W) (B6 (K2 W G_hit (nl W) W) C2) (.refl _)
def Ae (p1:List Stay):Option (List Stay):=X6 [] p1
theorem Kb (p1:List Stay)(a0:D)(hl:X6 ([]:List Stay) p1=some p1)(hn: ∀h,L6 (T [(3, .d a0),(2, .d .nilS),(0, .d a0)]) h (.isnil false (.t 3))=some (.d (bo false)))(he: ∀h,Bd h 4 (.d a0)=some (List.map J7 p1)):
    PCall prog 121 [a0] (.list (List.map J7 p1)):=by
  refine C4 (fk func121 ntmps121 m0 (by with_unfolding_all rfl)) (Nat.le_of_ble_eq_true W) ?_
  refine (B4 (s0:=⟨T [(0, .d a0)],G []⟩) (E0 ⟨.of W,trivial⟩ trivial) ?_)
  refine A5 ?_
  refine Br fun _ _=> ?_
  refine C0 (.d .nilS) W W ?_
  refine A1 ?_
  refine A5 ?_
  refine A5 ?_
  refine Br fun _ _=> ?_
  refine C0 (.d a0) W W ?_
  refine C0 (.d (bo false)) W (hn _) ?_
  refine A1 ?_
  refine Tm W ?_
  refine A8 ?_
  refine A5 ?_
  refine Br fun _ _=> ?_
  refine Ot (.sl _) (.arr 127 4 (List.map J7 ([]:List Stay))) W W ?_
  refine C0 (.d a0) W W ?_
  refine Yl J7 _ [] p1 _ (he _) W G_hit hl ?_
  refine C0 (.sl _) W W ?_
  refine A1 ?_
  refine B2 ?_
  exact A6 (.inr W) (B6 (B3 W)<|HE G_hit) (.refl _)
theorem Ln(p1 r)(h:Ae p1=some r):PCall prog 121 [.list (List.map J7 p1)] (.list (List.map J7 r)):=by
  have hr:r=p1:=by obtain ⟨_,rfl⟩:=Jn h;rfl
  subst hr
  cases r with
  |cons x xs=>exact Kb (x::xs) _ h (fun _=>rfl) fun _=>K7 (fun _=>rfl)
  |nil=>
   refine PCall.nil fun A cap=> ?_
   cases A with
   |some A=>exact Kb [] (.v (.slice (some A) 0 cap)) h (fun _=>rfl) fun _=>rfl
   |none=>
    refine C4 (fk func121 ntmps121 m0 (by with_unfolding_all rfl)) (Nat.le_of_ble_eq_true W) ?_
    refine (B4 (s0:=⟨T [(0, .d (.v (.slice none 0 cap)))],G []⟩) (E0 ⟨.of W,trivial⟩ trivial) ?_)
    refine A5 ?_
    refine Br fun _ _=> ?_
    refine C0 (.d .nilS) W W ?_
    refine A1 ?_
    refine A5 ?_
    refine A5 ?_
    refine Br fun _ _=> ?_
    refine C0 (.d _) W W ?_
    refine C0 (.d (bo true)) W W ?_
    refine A1 ?_
    refine Zv W ?_
    refine A5 ?_
    refine Br fun _ _=> ?_
    refine C0 (.d .nilS) W W ?_
    refine A1 ?_
    refine B2 ?_
    exact A6 (.inr W) (B6 (B3 W) C2) .nil
def Kh (p1:List Int):Option (List Int):=X6 [] p1
theorem Lq (p1:List Int)(a0:D)(hl:X6 ([]:List Int) p1=some p1)(hn: ∀h,L6 (T [(3, .d a0),(2, .d .nilS),(0, .d a0)]) h (.isnil false (.t 3))=some (.d (bo false)))(he: ∀h,Bd h 1 (.d a0)=some (List.map A4 p1)):
    PCall prog 178 [a0] (.list (List.map A4 p1)):=by
  refine C4 (fk func178 ntmps178 m0 (by with_unfolding_all rfl)) (Nat.le_of_ble_eq_true W) ?_
  refine (B4 (s0:=⟨T [(0, .d a0)],G []⟩) (E0 ⟨.of W,trivial⟩ trivial) ?_)
  refine A5 ?_
  refine Br fun _ _=> ?_
  refine C0 (.d .nilS) W W ?_
  refine A1 ?_
  refine A5 ?_
  refine A5 ?_
  refine Br fun _ _=> ?_
  refine C0 (.d a0) W W ?_
  refine C0 (.d (bo false)) W (hn _) ?_
  refine A1 ?_
  refine Tm W ?_
  refine A8 ?_
  refine A5 ?_
  refine Br fun _ _=> ?_
  refine Ot (.sl _) (.arr 3 1 (List.map A4 ([]:List Int))) W W ?_
  refine C0 (.d a0) W W ?_
  refine Yl A4 _ [] p1 _ (he _) W G_hit hl ?_
  refine C0 (.sl _) W W ?_
  refine A1 ?_
  refine B2 ?_
  exact A6 (.inr W) (B6 (B3 W)<|HE G_hit) (.refl _)
theorem Uu(p1 r)(h:Kh p1=some r):PCall prog 178 [.list (List.map A4 p1)] (.list (List.map A4 r)):=by
  have hr:r=p1:=by obtain ⟨_,rfl⟩:=Jn h;rfl
  subst hr
  cases r with
  |cons x xs=>exact Lq (x::xs) _ h (fun _=>rfl) fun _=>K7 (fun _=>rfl)
  |nil=>
   refine PCall.nil fun A cap=> ?_
   cases A with
   |some A=>exact Lq [] (.v (.slice (some A) 0 cap)) h (fun _=>rfl) fun _=>rfl
   |none=>
    refine C4 (fk func178 ntmps178 m0 (by with_unfolding_all rfl)) (Nat.le_of_ble_eq_true W) ?_
    refine (B4 (s0:=⟨T [(0, .d (.v (.slice none 0 cap)))],G []⟩) (E0 ⟨.of W,trivial⟩ trivial) ?_)
    refine A5 ?_
    refine Br fun _ _=> ?_
    refine C0 (.d .nilS) W W ?_
    refine A1 ?_
    refine A5 ?_
    refine A5 ?_
    refine Br fun _ _=> ?_
    refine C0 (.d _) W W ?_
    refine C0 (.d (bo true)) W W ?_
    refine A1 ?_
    refine Zv W ?_
    refine A5 ?_
    refine Br fun _ _=> ?_
    refine C0 (.d .nilS) W W ?_
    refine A1 ?_
    refine B2 ?_
    exact A6 (.inr W) (B6 (B3 W) C2) .nil
def Ea (p1:Agent):Option Agent:=
  (Kh p1.Route).bind fun v1=>some (Agent.mk v1 p1.S p1.V p1.Len p1.Begin p1.Obey p1.Gone)
theorem Nw(p1 r)(h:Ea p1=some r):PCall prog 87 [(.agg (D0 p1))] (.agg (D0 r)):=by
 refine C4 (fk func87 ntmps87 m0 (by with_unfolding_all rfl)) (nl W) ?_
 unfold Ea at h
 refine B4 (s0:=⟨T [(0,(.d _))],G []⟩) (F2 W W) ?_
 refine B0<|sm W<|sn W W<|A1<|B0<|sq W<|sl W (gq W) W (bs h fun v1 hv1 h=>A9 W W A3 (Uu _ _ hv1) (.inl W) (sq W<|U0 W (gq W) ((T0 p1).set 0 (dl A4 v1)) W (A1<|B0<|sd W (B1 W G_hit W W)<|U0 W (gq W) ((T0 p1).set 0 (dl A4 v1)) W (A1<|B2 ?_))))
 cases h
 exact A6 (.inr W) (B6 (K2 W G_hit (nl W) W) C2) (.refl _)
def Jo (p1:State)(x1:(Int×State)):Option (Stp (Int×State) State):=
  cond (decide (x1.1< (p1.Agents.length:Int))) ((C1 p1.Agents x1.1).bind fun v2=>(Ea v2).bind fun v3=>(X6 x1.2.Agents [v3]).bind fun v4=>some (.go ((D3 (x1.1+1)),(State.mk x1.2.Tick v4 x1.2.In)))) (some (.out x1.2))
def Ij [Lp](p1:State):Option State:=
  (Ae p1.In).bind fun v1=>(loop (Jo p1) (0,(State.mk p1.Tick [] v1))).bind fun y1=>some y1
theorem AY(p1 r)(h:Ij p1=some r):PCall prog 56 [(.agg (Bc p1))] (.agg (Bc r)):=by
 refine C4 (fk func56 ntmps56 (fun r=>if r==5 then [1004]else []) (by with_unfolding_all rfl)) (nl W) ?_
 unfold Ij at h
 refine B4 (s0:=⟨T [(0,(.d _))],G []⟩) (F2 W W) ?_
 refine lr<|fun u1 _=>sm W<|sm W<|A1<|A5<|Nr W fun u2 _=>sq W<|sl W (gq W) W (sq W<|sl W (gq W) W (bs h fun v1 hv1 h=>A9 W W A3 (Ln _ _ hv1) (.inl W) (sv W<|sm W<|U0 W G_hit [(di p1.Tick),(.d .nilS),(dl J7 v1)] W (A1<|A5<|B0<|sq W<|sl W (gq W) W (sd W (D7 W)<|sv W<|A1<|bs h fun y1 hy1 h=>D9 (fun s=> ∃g1:Nat,Sb ⟨T [(2,(.ptr (2,u1) 0)),(3,(.ptr (3,u2) 0))],G [((2,u1),some<|.box 25 [(di 0),(.d .nilS),(.d .nilS)]),((3,u2),some<|.box 25 [(di y1.Tick),(oS y1.Agents (24,g1)),(dl J7 y1.In)]),((24,g1),oB 45 7 D0 y1.Agents)]⟩ s) ?_ ?_)))))
 refine A7<|E4 (Jo p1) (fun (x1:(Int×State)) (g2:Nat)=>⟨T [(2,(.ptr (2,u1) 0)),(3,(.ptr (3,u2) 0)),(13,(dl D0 p1.Agents)),(14,(di (p1.Agents.length:Int))),(15,(di x1.1))],G [((2,u1),some<|.box 25 [(di 0),(.d .nilS),(.d .nilS)]),((3,u2),some<|.box 25 [(di x1.2.Tick),(oS x1.2.Agents (24,g2)),(dl J7 x1.2.In)]),((24,g2),oB 45 7 D0 x1.2.Agents)]⟩) (0,(State.mk p1.Tick [] v1)) 0 _ hy1 (E0 (Z7 W)<|sg W<|B5 G_hit (.of W)<|S5 trivial) ?_
 intro x1 g2 z1 hz1 ez1
 unfold Jo at hz1
 refine B0<|sv W<|A1<|A5<|cc W hz1 (fun c1 hz1=> ?_)<|fun c1 hz1=> ?_
 refine A8<|A5<|A7<|B0<|bs hz1 fun v2 hv2 hz1=>sd W (C5 W W hv2 W)<|sd W (D4 W hv2 W W)<|sm W<|U0 W G_hit (T0 v2) W (A1<|Nr W fun u6 _=>sq W<|C0 (oS x1.2.Agents (24,g2)) W (Q8 W (gq W) W) (sd W (B1 W G_hit W W)<|bs hz1 fun v3 hv3 hz1=>A9 W W A3 (Nw _ _ hv3) (.inl W) (C0 (dl D0 [v3]) W W (bs hz1 fun _ hv4 hz1=>Q3 D0 (24,g2) x1.2.Agents v3 [] _ (K7<|fun _=>W) W (gq W) hv4 (sq W<|U0 W (gq W) [(di x1.2.Tick),(.sl (24,u6)),(dl J7 x1.2.In)] W (A1<|E3<|B7<|sv W<|sv W<|A1<|E2 ?_))))))
 cases hz1
 exact ⟨W,u6,(E0 (Z7 W)<|sg W<|B5 G_hit (.box (cv<|.cons (.of (V1<|V4 hv4).symm) cw))<|N8 (gq W) trivial)⟩
 refine C8 W ?_
 cases hz1
 obtain rfl:=ez1 _ rfl
 refine ⟨nofun,C6 W<|U4 ?_⟩
 exact ⟨g2,(E0 (Z7 W)<|B5 G_hit (.of W)<|sg W<|B8 (gq W) trivial)⟩
 rintro _ ⟨g1,q1⟩
 refine B4 q1<|B0<|C0 (X5 [(di y1.Tick),(oS y1.Agents (24,g1)),(dl J7 y1.In)]) W (B1 W (gq W) W W) (Jz _ _ _ _ _ (X1 _) W W G_hit (nl W) [(di y1.Tick),(oS y1.Agents (24,g1)),(dl J7 y1.In)] W (A1<|B2 ?_))
 cases h
 exact A6 (.inr W) (B6 (K2 W G_hit (nl W) W)<|Ns<|rD<|E6 (T9<|gq W)<|rD G1) (.agg (ca W<|.cons ⟨T8,W⟩ (cz W)))
def Dg (p1:Int)(p2:Int)(p3:Int):Option Bool:=
  some ((decide (p2≤p1))&& (decide (p1≤p3)))
theorem Eu(p1 p2 p3 r)(h:Dg p1 p2 p3=some r):PCall prog 209 [(i64 p1),(i64 p2),(i64 p3)] (bo r):=by
 refine C4 (fk func209 ntmps209 m0 (by with_unfolding_all rfl)) (nl W) ?_
 unfold Dg at h
 refine B4 (s0:=⟨T [(0,(.d _)),(1,(.d _)),(2,(.d _))],G []⟩) (F2 W W) ?_
 refine B0<|sv W<|A1<|B0<|sv W<|sv W<|sv W<|sv W<|gt W (fun _=>W)<|gt W (fun _=>W)<|gt W (fun w3=>(M7 (A2 w3) (A2 w3) W))<|sa W W W<|sv W<|A1<|B2 ?_
 cases h
 exact A6 (.inr W) (B6 (B3 W) C2) (.refl _)
def As (p1:RoadsCheck):Option Int:=
  (Dg p1.Map_.Version 0 1099511627776).bind fun v1=>cond (!v1) (some 2) (cond ((p1.Map_.Lanes.length:Int)==0) (some 6) (cond ((((decide ((p1.Map_.Lanes.length:Int)>12))||(decide ((p1.Map_.Zones.length:Int)>12)))||(decide ((p1.Map_.Signals.length:Int)>4)))||(decide ((p1.Map_.Works.length:Int)>8))) (some 8) (some 0)))
theorem Vv(p1 r)(h:As p1=some r):PCall prog 148 [(.agg (P7 p1.Map_))] (i64 r):=by
 refine C4 (fk func148 ntmps148 m0 (by with_unfolding_all rfl)) (nl W) ?_
 unfold As at h
 refine B4 (s0:=⟨T [(0,(.d _))],G []⟩) (F2 W W) ?_
 refine B0<|sm W<|sv W<|A1<|A5<|A7<|B0<|sq W<|sp W W<|sl W G_hit W<|bs h fun v1 hv1 h=>A9 W W A3 (Eu _ _ _ _ hv1) (.inl W) (C0 (.d (bo (!v1))) W W (sv W<|A1<|cc W h (fun c1 h=> ?_)<|fun c1 h=> ?_))
 refine B0<|sv W<|A1<|B2 ?_
 cases h
 exact A6 (.inr W) (B6 (B3 W) C2) (.refl _)
 refine B0<|sq W<|sp W W<|sl W G_hit W<|sd W (D7 W)<|sv W<|sv W<|A1<|cc W h (fun c2 h=> ?_)<|fun c2 h=> ?_
 refine B0<|sv W<|A1<|B2 ?_
 cases h
 exact A6 (.inr W) (B6 (B3 W) C2) (.refl _)
 refine B0<|sq W<|sp W W<|sl W G_hit W<|sd W (D7 W)<|sv W<|sv W<|gp W (K6 W) (fun _=>W) ?_
 refine M8 _ (.ptr _ _) W (K6 W) (fun w2=>(by simp only [A2 w2];rfl)) ?_
 refine gf W (vl W G_hit W)<|gf W (fun w4=>(D7<|A2 w4))<|gf W (vb W W W)<|sd W (O2 W W<|fun hc=>A2<|J4 hc)<|sv W<|gp W (K6 W) (fun _=>W) ?_
 refine M8 _ (.ptr _ _) W (K6 W) (fun w7=>(by simp only [A2 w7];rfl)) ?_
 refine gf W (vl W G_hit W)<|gf W (fun w9=>(D7<|A2 w9))<|gf W (vb W W W)<|sd W (O2 W W<|fun hc=>A2<|J4 hc)<|sv W<|gp W (K6 W) (fun _=>W) ?_
 refine M8 _ (.ptr _ _) W (K6 W) (fun w12=>(by simp only [A2 w12];rfl)) ?_
 refine gf W (vl W G_hit W)<|gf W (fun w14=>(D7<|A2 w14))<|gf W (vb W W W)<|sd W (O2 W W<|fun hc=>A2<|J4 hc)<|sv W<|A1<|cc W h (fun c3 h=> ?_)<|fun c3 h=> ?_
 refine B0<|sv W<|A1<|B2 ?_
 cases h
 exact A6 (.inr W) (B6 (B3 W) C2) (.refl _)
 refine A8<|E3<|B0<|sv W<|A1<|B2 ?_
 cases h
 exact A6 (.inr W) (B6 (B3 W) C2) (.refl _)
def Fd (p1:Int):Option (Int×Int×Int):=
  cond ((decide (p1<0))||(decide (p1≥4))) (some (0,0,0)) ((C1 ([(0,0,0),(2000,30,90),(1000,20,60),(300,100,300)]:List (Int×Int×Int)) p1).bind fun v1=>some (v1.1,v1.2.1,v1.2.2))
theorem Mj(p1 r)(h:Fd p1=some r):PCall prog 157 [(i64 p1)] (.tup [(i64 r.1),(i64 r.2.1),(i64 r.2.2)]):=by
 refine C4 (fk func157 ntmps157 m0 (by with_unfolding_all rfl)) (nl W) ?_
 unfold Fd at h
 refine B4 (s0:=⟨T [(0,(.d _))],G []⟩) (F2 W W) ?_
 refine B0<|sv W<|sv W<|sv W<|A1<|B0<|sv W<|sv W<|sv W<|sv W<|sm W<|U0 W G_hit [(di 0),(di 0),(di 0),(di 2000),(di 30),(di 90),(di 1000),(di 20),(di 60),(di 300),(di 100),(di 300)] W (A1<|A5<|B0<|sv W<|sv W<|sv W<|gf W (fun _=>W)<|gf W (vb W W W)<|sd W (O2 W W<|fun hc=>A2<|J4 hc)<|A1<|cc W h (fun c1 h=> ?_)<|fun c1 h=> ?_)
 refine B0<|sv W<|sv W<|sv W<|A1<|B2 ?_
 cases h
 exact A6 (.inr W) (Yj (B3 W) (B3 W) (B3 W) C2 C2 C2) (.refl _)
 refine A8<|B0<|sv W<|bs h fun v1 hv1 h=>sp W (kI W W hv1 W)<|sd W (fU (f:=qA) W G_hit hv1 (fun _=>W) W W)<|sm W<|U0 W G_hit [(di v1.1),(di v1.2.1),(di v1.2.2)] W (A1<|A5<|E7 W<|sq W<|sl W G_hit W<|sq W<|sl W G_hit W<|sq W<|sl W G_hit W<|sv W<|sv W<|sv W<|A1<|B2 ?_)
 cases h
 exact A6 (.inr W) (Yj (B3 W) (B3 W) (B3 W) C2 C2 C2) (.refl _)
def Fy (p1:(List Spot))(x1:Int):Option (Stp Int (Sum Unit Bool)):=
  cond (decide (x1< (p1.length:Int))) ((C1 p1 x1).bind fun v1=>cond ((decide ((Mp false v1.X v1.Y)< (-16777216)))||(decide ((Mp true v1.X v1.Y)>16777216))) (some (.out (.inr false))) (some (.go (D3 (x1+1))))) (some (.out (.inl ())))
def Ki [Lp](p1:(List Spot)):Option Bool:=
  thenS (loop (Fy p1) 0) (fun _=>some true) (fun r=>some r)
theorem MJ(p1 r)(h:Ki p1=some r):PCall prog 237 [(.list (List.map Cp p1))] (bo r):=by
 refine C4 (fk func237 ntmps237 m0 (by with_unfolding_all rfl)) (nl W) ?_
 unfold Ki at h
 refine B4 (s0:=⟨T [(0,(.d _))],G []⟩) (F2 W W) ?_
 refine B0<|sv W<|A1<|A5<|B0<|sv W<|sd W (D7 W)<|sv W<|A1<|js h fun z1 hz1 h=>D9 (fun s=> ∃(y1:Unit) (g1:Unit),z1= .inl y1∧Sb ⟨T [],G []⟩ s) ?_ ?_
 refine A7<|E4 (Fy p1) (fun (x1:Int) (g2:Unit)=>⟨T [(5,(dl Cp p1)),(6,(di (p1.length:Int))),(7,(di x1))],G []⟩) 0 () _ hz1 (F2 W W) ?_
 intro x1 g2 z2 hz2 ez2
 unfold Fy at hz2
 refine B0<|sv W<|A1<|A5<|cc W hz2 (fun c1 hz2=> ?_)<|fun c1 hz2=> ?_
 refine A8<|A5<|A7<|B0<|bs hz2 fun v1 hv1 hz2=>sd W (C5 W W hv1 W)<|sd W (D4 W hv1 W W)<|sm W<|U0 W G_hit [(di v1.X),(di v1.Y)] W (A1<|B0<|sq W<|sl W G_hit W<|sq W<|sl W G_hit W<|sv W<|sv W<|sv W<|gp W (K6 W) (fun _=>W) (gf W (vl W G_hit W)<|gp W (K6 W) (fun _=>W) (gf W (vl W G_hit W) ?_)))
 refine gf W (fun w5=>(by simp only [A2 w5];rfl)) ?_
 refine gf W (vb W W W)<|sd W (O2 W W<|fun hc=>A2<|J4 hc)<|A1<|cc W hz2 (fun c2 hz2=> ?_)<|fun c2 hz2=> ?_
 refine B0<|sv W<|A1<|B2 ?_
 cases hz2
 obtain rfl:=ez2 _ rfl
 refine ⟨nofun,F4 ?_⟩
 rw [wE]at h
 cases h
 exact A6 (.inr W) (B6 (B3 W) C2) (.refl _)
 refine A8<|E3<|B7<|sv W<|sv W<|A1<|E2 ?_
 cases hz2
 exact ⟨W,(),(F2 W W)⟩
 refine C8 W ?_
 cases hz2
 obtain rfl:=ez2 _ rfl
 refine ⟨nofun,C6 W<|U4 ?_⟩
 exact ⟨_,(),W,(F2 W W)⟩
 rintro _ ⟨y1,g1,rfl,q1⟩
 rw [wD]at h
 refine B4 q1<|B0<|sv W<|A1<|B2 ?_
 cases h
 exact A6 (.inr W) (B6 (B3 W) C2) (.refl _)
def Pd (p1:Spot)(p2:Spot):Option CurveVector:=
  some (CurveVector.mk (D3 (p2.X - p1.X)) (D3 (p2.Y - p1.Y)))
theorem AZ(p1 p2 r)(h:Pd p1 p2=some r):PCall prog 238 [(.agg [(i64 p1.X),(i64 p1.Y)]),(.agg [(i64 p2.X),(i64 p2.Y)])] (.agg [(i64 r.x),(i64 r.y)]):=by
 refine C4 (fk func238 ntmps238 m0 (by with_unfolding_all rfl)) (nl W) ?_
 unfold Pd at h
 refine B4 (s0:=⟨T [(0,(.d _)),(1,(.d _))],G []⟩) (F2 W W) ?_
 refine B0<|sm W<|sn W W<|sm W<|A1<|B0<|sq W<|sl W (gq W) W (sq W<|sl W (gq W) W (sv W<|sq W<|sl W (gq W) W (sq W<|sl W (gq W) W (sv W<|sv W<|U0 W G_hit [(di<|D3 (p2.X - p1.X)),(di<|D3 (p2.Y - p1.Y))] W (A1<|B2 ?_)))))
 cases h
 exact A6 (.inr W) (B6 (K2 W G_hit (nl W) W) C2) (.refl _)
def Bj (p1:CurveVector)(p2:CurveVector):Option Int:=
  some (D3 ((D3 (p1.x*p2.x))+ (D3 (p1.y*p2.y))))
theorem Lu(p1 p2 r)(h:Bj p1 p2=some r):PCall prog 240 [(.agg [(i64 p1.x),(i64 p1.y)]),(.agg [(i64 p2.x),(i64 p2.y)])] (i64 r):=by
 refine C4 (fk func240 ntmps240 m0 (by with_unfolding_all rfl)) (nl W) ?_
 unfold Bj at h
 refine B4 (s0:=⟨T [(0,(.d _)),(1,(.d _))],G []⟩) (F2 W W) ?_
 refine B0<|sm W<|sn W W<|sv W<|A1<|B0<|sq W<|sl W (gq W) W (sq W<|sl W G_hit W<|sv W<|sq W<|sl W (gq W) W (sq W<|sl W G_hit W<|sv W<|sv W<|sv W<|A1<|B2 ?_))
 cases h
 exact A6 (.inr W) (B6 (B3 W) C2) (.refl _)
def Lz (p1:Int)(x1:(Int×Int)):Option (Stp (Int×Int) Int):=
  cond (decide (x1.1<x1.2)) (cond (decide ((D3 ((D3 ((D3 (x1.1+x1.2)).tdiv 2))* (D3 ((D3 (x1.1+x1.2)).tdiv 2))))<p1)) (some (.go ((D3 ((D3 ((D3 (x1.1+x1.2)).tdiv 2))+1)),x1.2))) (some (.go (x1.1,(D3 ((D3 (x1.1+x1.2)).tdiv 2)))))) (some (.out x1.1))
def Fz [Lp](p1:Int):Option (Int×Bool):=
  (loop (Lz p1) (0,67108864)).bind fun y1=>some (y1,((D3 (y1*y1))==p1))
theorem BA(p1 r)(h:Fz p1=some r):PCall prog 239 [(i64 p1)] (.tup [(i64 r.1),(bo r.2)]):=by
 refine C4 (fk func239 ntmps239 m0 (by with_unfolding_all rfl)) (nl W) ?_
 unfold Fz at h
 refine B4 (s0:=⟨T [(0,(.d _))],G []⟩) (F2 W W) ?_
 refine B0<|sv W<|sv W<|A1<|B0<|sv W<|sv W<|A1<|A5<|bs h fun y1 hy1 h=>D9 (fun s=> ∃g1:Unit,Sb ⟨T [(0,(di p1)),(4,(di y1))],G []⟩ s) ?_ ?_
 refine A7<|E4 (Lz p1) (fun (x1:(Int×Int)) (g2:Unit)=>⟨T [(0,(di p1)),(4,(di x1.1)),(5,(di x1.2))],G []⟩) (0,67108864) () _ hy1 (F2 W W) ?_
 intro x1 g2 z1 hz1 ez1
 unfold Lz at hz1
 refine A5<|B0<|sv W<|sv W<|sv W<|A1<|cc W hz1 (fun c1 hz1=> ?_)<|fun c1 hz1=> ?_
 refine A8<|A7<|B0<|sv W<|sv W<|sv W<|sv W<|sv W<|A1<|B0<|sv W<|sv W<|sv W<|sv W<|sv W<|A1<|cc W hz1 (fun c2 hz1=> ?_)<|fun c2 hz1=> ?_
 refine B7<|sv W<|sv W<|sv W<|A1<|E3<|E2 ?_
 cases hz1
 exact ⟨W,(),(F2 W W)⟩
 refine B7<|sv W<|sv W<|A1<|E3<|E2 ?_
 cases hz1
 exact ⟨W,(),(F2 W W)⟩
 refine C8 W ?_
 cases hz1
 obtain rfl:=ez1 _ rfl
 refine ⟨nofun,C6 W<|U4 ?_⟩
 exact ⟨(),(F2 W W)⟩
 rintro _ ⟨g1,q1⟩
 refine B4 q1<|B0<|sv W<|sv W<|sv W<|sv W<|sv W<|sv W<|sv W<|sv W<|A1<|B2 ?_
 cases h
 exact A6 (.inr W) (Na (B3 W) (B3 W) C2 C2) (.refl _)
def Y3 [Lp](p1:Curve)(x1:(Int×CurveVector)):Option (Stp (Int×CurveVector) (Sum Unit Int)):=
  cond (decide (x1.1< (D3 ((p1.Pts.length:Int) - 1)))) ((C1 p1.Pts x1.1).bind fun v2=>(C1 p1.Pts (D3 (x1.1+1))).bind fun v3=>(Pd v2 v3).bind fun v4=>(Bj v4 v4).bind fun v5=>(Fz v5).bind fun v6=>cond (!v6.2) (some (.out (.inr 3))) (cond ((decide (v6.1<1000))||(decide (v6.1>1048576))) (some (.out (.inr 2))) (((cond (decide (x1.1>0)) (Bj x1.2 v4) (some default))).bind fun v7=>cond ((decide (x1.1>0))&& (decide (v7≤0))) (some (.out (.inr 12))) (some (.go ((D3 (x1.1+1)),v4)))))) (some (.out (.inl ())))
def Fe [Lp](p1:Curve):Option Int:=
  cond (decide ((p1.Pts.length:Int)<2)) (some 6) (cond (decide ((p1.Pts.length:Int)>16)) (some 5) ((Ki p1.Pts).bind fun v1=>cond (!v1) (some 2) (thenS (loop (Y3 p1) (0,(CurveVector.mk 0 0))) (fun _=>some 0) (fun r=>some r))))
theorem Ys(p1 r)(h:Fe p1=some r):PCall prog 198 [(.agg [(.list (List.map Cp p1.Pts))])] (i64 r):=by
 refine C4 (fk func198 ntmps198 m0 (by with_unfolding_all rfl)) (nl W) ?_
 unfold Fe at h
 refine B4 (s0:=⟨T [(0,(.d _))],G []⟩) (F2 W W) ?_
 refine lr<|fun u1 _=>sm W<|sv W<|A1<|A5<|A7<|B0<|sq W<|sl W G_hit W<|sd W (D7 W)<|sv W<|sv W<|A1<|cc W h (fun c1 h=> ?_)<|fun c1 h=> ?_
 refine B0<|sv W<|A1<|B2 ?_
 cases h
 exact A6 (.inr W) (B6 (B3 W) C2) (.refl _)
 refine B0<|sq W<|sl W G_hit W<|sd W (D7 W)<|sv W<|sv W<|A1<|cc W h (fun c2 h=> ?_)<|fun c2 h=> ?_
 refine B0<|sv W<|A1<|B2 ?_
 cases h
 exact A6 (.inr W) (B6 (B3 W) C2) (.refl _)
 refine B0<|sq W<|sl W G_hit W<|bs h fun v1 hv1 h=>A9 W W A3 (MJ _ _ hv1) (.inl W) (C0 (.d (bo (!v1))) W W (sv W<|A1<|cc W h (fun c3 h=> ?_)<|fun c3 h=> ?_))
 refine B0<|sv W<|A1<|B2 ?_
 cases h
 exact A6 (.inr W) (B6 (B3 W) C2) (.refl _)
 refine A8<|E3<|lr<|fun u8 _=>sm W<|A1<|A5<|B0<|sq W<|sl W (gq W) W (sd W (D7 W)<|sv W<|sv W<|A1<|js h fun z1 hz1 h=>D9 (fun s=> ∃(y1:Unit) (g1:Unit),z1= .inl y1∧Sb ⟨T [],G []⟩ s) ?_ ?_)
 refine A7<|E4 (Y3 p1) (fun (x1:(Int×CurveVector)) (g2:Unit)=>⟨T [(1,(.ptr (1,u1) 0)),(3,(.ptr (3,u8) 0)),(26,(di<|D3 ((p1.Pts.length:Int) - 1))),(27,(di x1.1))],G [((1,u1),some<|.box 61 [(dl Cp p1.Pts)]),((3,u8),some<|.box 253 [(di x1.2.x),(di x1.2.y)])]⟩) (0,(CurveVector.mk 0 0)) () _ hz1 (F2 W W) ?_
 intro x1 g2 z2 hz2 ez2
 unfold Y3 at hz2
 refine B0<|sv W<|A1<|A5<|cc W hz2 (fun c4 hz2=> ?_)<|fun c4 hz2=> ?_
 refine A8<|A5<|A7<|B0<|sv W<|sv W<|A1<|A5<|E7 W<|sq W<|sl W G_hit W<|sv W<|bs hz2 fun _ hv2 hz2=>sd W (C5 W W hv2 W)<|sd W (D4 W hv2 W W)<|sq W<|sl W G_hit W<|sv W<|sv W<|bs hz2 fun _ hv3 hz2=>sd W (C5 W W hv3 W)<|sd W (D4 W hv3 W W)<|bs hz2 fun v4 hv4 hz2=>A9 W W A3 (AZ _ _ _ hv4) (.inl W) (sm W<|U0 W G_hit [(di v4.x),(di v4.y)] W (A1<|B0<|sd W (B1 W G_hit W W)<|sd W (B1 W G_hit W W)<|bs hz2 fun _ hv5 hz2=>A9 W W A3 (Lu _ _ _ hv5) (.inl W) (bs hz2 fun v6 hv6 hz2=>A9 W W A3 (BA _ _ hv6) (.inl W) (sv W<|sv W<|sv W<|sv W<|sv W<|A1<|A5<|A7<|B0<|sv W<|C0 (.d (bo (!v6.2))) W W (sv W<|A1<|cc W hz2 (fun c5 hz2=> ?_)<|fun c5 hz2=> ?_)))))
 refine B0<|sv W<|A1<|B2 ?_
 cases hz2
 obtain rfl:=ez2 _ rfl
 refine ⟨nofun,F4 ?_⟩
 rw [wE]at h
 cases h
 exact A6 (.inr W) (B6 (B3 W) C2) (.refl _)
 refine B0<|sv W<|sv W<|sv W<|gf W (fun _=>W)<|gf W (vb W W W)<|sd W (O2 W W<|fun hc=>A2<|J4 hc)<|sv W<|A1<|cc W hz2 (fun c6 hz2=> ?_)<|fun c6 hz2=> ?_
 refine B0<|sv W<|A1<|B2 ?_
 cases hz2
 obtain rfl:=ez2 _ rfl
 refine ⟨nofun,F4 ?_⟩
 rw [wE]at h
 cases h
 exact A6 (.inr W) (B6 (B3 W) C2) (.refl _)
 refine B0<|sv W<|sv W<|sv W<|gt W (fun _=>(B1 W (gq W) W W))<|gt W (fun _=>(B1 W G_hit W W))<|bs hz2 fun v7 hv7 hz2=> ?_
 refine N6 _ (i64 v7) (M3 W) (fun w5=>⟨_,[(.d (.agg [(i64 x1.2.x),(i64 x1.2.y)])),(.d (.agg [(i64 v4.x),(i64 v4.y)]))],_,_,(by simp only [A2 w5];rfl),W,A3,Lu _ _ _<|B9 w5 hv7,(.inl W)⟩) ?_
 refine gt W (vb W W W)<|sa W W W<|sv W<|A1<|cc W hz2 (fun c7 hz2=> ?_)<|fun c7 hz2=> ?_
 refine B0<|sv W<|A1<|B2 ?_
 cases hz2
 obtain rfl:=ez2 _ rfl
 refine ⟨nofun,F4 ?_⟩
 rw [wE]at h
 cases h
 exact A6 (.inr W) (B6 (B3 W) C2) (.refl _)
 refine A8<|E3<|B7<|sd W (B1 W G_hit W W)<|U0 W (gq W) [(di v4.x),(di v4.y)] W (A1<|E3<|B7<|sv W<|sv W<|A1<|E2 ?_)
 cases hz2
 exact ⟨W,(),(F2 W W)⟩
 refine C8 W ?_
 cases hz2
 obtain rfl:=ez2 _ rfl
 refine ⟨nofun,C6 W<|U4 ?_⟩
 exact ⟨_,(),W,(F2 W W)⟩
 rintro _ ⟨y1,g1,rfl,q1⟩
 rw [wD]at h
 refine B4 q1<|B0<|sv W<|A1<|B2 ?_
 cases h
 exact A6 (.inr W) (B6 (B3 W) C2) (.refl _)
def Cv (p1:(List Int))(p3:Int)(x1:(Int×Int)):Option (Stp (Int×Int) (Sum Unit Bool)):=
  cond (decide (x1.2< (p1.length:Int))) ((C1 p1 x1.2).bind fun v1=>cond ((decide (v1<x1.1))||(decide (v1≥p3))) (some (.out (.inr false))) (some (.go ((D3 (v1+1)),(D3 (x1.2+1)))))) (some (.out (.inl ())))
def Bs [Lp](p1:(List Int))(p2:Int)(p3:Int):Option Bool:=
  thenS (loop (Cv p1 p3) (p2,0)) (fun _=>some true) (fun r=>some r)
theorem Qs(p1 p2 p3 r)(h:Bs p1 p2 p3=some r):PCall prog 210 [(.list (List.map A4 p1)),(i64 p2),(i64 p3)] (bo r):=by
 refine C4 (fk func210 ntmps210 m0 (by with_unfolding_all rfl)) (nl W) ?_
 unfold Bs at h
 refine B4 (s0:=⟨T [(0,(.d _)),(1,(.d _)),(2,(.d _))],G []⟩) (F2 W W) ?_
 refine B0<|sv W<|A1<|A5<|B0<|sv W<|sd W (D7 W)<|sv W<|A1<|js h fun z1 hz1 h=>D9 (fun s=> ∃(y1:Unit) (g1:Unit),z1= .inl y1∧Sb ⟨T [],G []⟩ s) ?_ ?_
 refine A7<|E4 (Cv p1 p3) (fun (x1:(Int×Int)) (g2:Unit)=>⟨T [(1,(di x1.1)),(2,(di p3)),(9,(dl A4 p1)),(10,(di (p1.length:Int))),(11,(di x1.2))],G []⟩) (p2,0) () _ hz1 (F2 W W) ?_
 intro x1 g2 z2 hz2 ez2
 unfold Cv at hz2
 refine B0<|sv W<|A1<|A5<|cc W hz2 (fun c1 hz2=> ?_)<|fun c1 hz2=> ?_
 refine A8<|A5<|A7<|B0<|bs hz2 fun _ hv1 hz2=>sd W (C5 W W hv1 W)<|sd W (C9 W hv1 W)<|sv W<|A1<|A5<|B0<|sv W<|sv W<|sv W<|sv W<|gf W (fun _=>W)<|gf W (fun _=>W)<|gf W (fun w3=>(M7 (A2 w3) (A2 w3) W))<|sd W (O2 W W<|fun hc=>A2<|J4 hc)<|A1<|cc W hz2 (fun c2 hz2=> ?_)<|fun c2 hz2=> ?_
 refine B0<|sv W<|A1<|B2 ?_
 cases hz2
 obtain rfl:=ez2 _ rfl
 refine ⟨nofun,F4 ?_⟩
 rw [wE]at h
 cases h
 exact A6 (.inr W) (B6 (B3 W) C2) (.refl _)
 refine A8<|B7<|sv W<|sv W<|sv W<|A1<|E3<|B7<|sv W<|sv W<|A1<|E2 ?_
 cases hz2
 exact ⟨W,(),(F2 W W)⟩
 refine C8 W ?_
 cases hz2
 obtain rfl:=ez2 _ rfl
 refine ⟨nofun,C6 W<|U4 ?_⟩
 exact ⟨_,(),W,(F2 W W)⟩
 rintro _ ⟨y1,g1,rfl,q1⟩
 rw [wD]at h
 refine B4 q1<|B0<|sv W<|A1<|B2 ?_
 cases h
 exact A6 (.inr W) (B6 (B3 W) C2) (.refl _)
def Q9 [Lp](p1:RoadsCheck)(x1:Int):Option (Stp Int (Sum Unit Int)):=
  cond (decide (x1< (p1.Map_.Lanes.length:Int))) ((C1 p1.Map_.Lanes x1).bind fun v1=>(Fd v1.Kind).bind fun v2=>cond (v2.1==0) (some (.out (.inr 4))) ((Fe v1.Curve_).bind fun v3=>cond (v3 !=0) (some (.out (.inr v3))) ((Dg v1.Half 200 4000).bind fun v4=>((cond (!(!v4)) (Dg v1.Limit 1 v2.1) (some default))).bind fun v5=>cond ((!v4)||(!v5)) (some (.out (.inr 2))) (cond (decide ((v1.Next.length:Int)>3)) (some (.out (.inr 8))) ((Bs v1.Next (D3 (x1+1)) (p1.Map_.Lanes.length:Int)).bind fun v6=>cond (!v6) (some (.out (.inr 11))) (some (.go (D3 (x1+1))))))))) (some (.out (.inl ())))
def V5 [Lp](p1:RoadsCheck):Option Int:=
  thenS (loop (Q9 p1) 0) (fun _=>some 0) (fun r=>some r)
theorem Yt(p1 r)(h:V5 p1=some r):PCall prog 149 [(.agg (P7 p1.Map_))] (i64 r):=by
 refine C4 (fk func149 ntmps149 m0 (by with_unfolding_all rfl)) (nl W) ?_
 unfold V5 at h
 refine B4 (s0:=⟨T [(0,(.d _))],G []⟩) (F2 W W) ?_
 refine lr<|fun u1 _=>sm W<|sv W<|A1<|A5<|B0<|sq W<|sp W W<|sl W G_hit W<|sd W (D7 W)<|sv W<|A1<|js h fun z1 hz1 h=>D9 (fun s=> ∃(y1:Unit) (g1:Unit),z1= .inl y1∧Sb ⟨T [],G []⟩ s) ?_ ?_
 refine A7<|E4 (Q9 p1) (fun (x1:Int) (g2:Unit)=>⟨T [(1,(.ptr (1,u1) 0)),(11,(dl Gr p1.Map_.Lanes)),(12,(di (p1.Map_.Lanes.length:Int))),(13,(di x1))],G [((1,u1),some<|.box 212 (L4 p1.Map_))]⟩) 0 () _ hz1 (F2 W W) ?_
 intro x1 g2 z2 hz2 ez2
 unfold Q9 at hz2
 refine B0<|sv W<|A1<|A5<|cc W hz2 (fun c1 hz2=> ?_)<|fun c1 hz2=> ?_
 refine A8<|A5<|A7<|B0<|sv W<|bs hz2 fun v1 hv1 hz2=>sd W (C5 W W hv1 W)<|sd W (D4 W hv1 W W)<|sm W<|sv W<|U0 W G_hit (EG v1) W (A1<|B0<|sq W<|sl W G_hit W<|bs hz2 fun v2 hv2 hz2=>A9 W W A3 (Mj _ _ hv2) (.inl W) (sv W<|sv W<|sv W<|sv W<|sv W<|sv W<|sv W<|A1<|A5<|B0<|sv W<|sv W<|A1<|cc W hz2 (fun c2 hz2=> ?_)<|fun c2 hz2=> ?_))
 refine B0<|sv W<|A1<|B2 ?_
 cases hz2
 obtain rfl:=ez2 _ rfl
 refine ⟨nofun,F4 ?_⟩
 rw [wE]at h
 cases h
 exact A6 (.inr W) (B6 (B3 W) C2) (.refl _)
 refine A8<|A5<|B0<|sq W<|sd W (B1 W G_hit W W)<|bs hz2 fun _ hv3 hz2=>A9 W W A3 (Ys _ _ hv3) (.inl W) (sv W<|A1<|B0<|sv W<|sv W<|A1<|cc W hz2 (fun c3 hz2=> ?_)<|fun c3 hz2=> ?_)
 refine B0<|sv W<|sv W<|A1<|B2 ?_
 cases hz2
 obtain rfl:=ez2 _ rfl
 refine ⟨nofun,F4 ?_⟩
 rw [wE]at h
 cases h
 exact A6 (.inr W) (B6 (B3 W) C2) (.refl _)
 refine A8<|A7<|B0<|sq W<|sl W G_hit W<|bs hz2 fun v4 hv4 hz2=>A9 W W A3 (Eu _ _ _ _ hv4) (.inl W) (C0 (.d (bo (!v4))) W W (sv W<|gp W (K6 W) (fun _=>W) (gf W (vl W G_hit W)<|gf W (fun _=>W)<|bs hz2 fun v5 hv5 hz2=> ?_)))
 refine N6 _ (bo v5) (K6 W) (fun w4=>⟨_,[(di v1.Limit),(di 1),(di v2.1)],_,_,(by simp only [A2 w4];rfl),W,A3,Eu _ _ _ _<|B9 w4 hv5,(.inl W)⟩) ?_
 refine M8 _ (.d (bo (!v5))) W (K6 W) (fun w5=>(by simp only [A2 w5];rfl)) ?_
 refine sd W (O2 W W<|fun hc=>A2<|J4 hc)<|sv W<|A1<|cc W hz2 (fun c4 hz2=> ?_)<|fun c4 hz2=> ?_
 refine B0<|sv W<|A1<|B2 ?_
 cases hz2
 obtain rfl:=ez2 _ rfl
 refine ⟨nofun,F4 ?_⟩
 rw [wE]at h
 cases h
 exact A6 (.inr W) (B6 (B3 W) C2) (.refl _)
 refine B0<|sq W<|sl W G_hit W<|sd W (D7 W)<|sv W<|sv W<|A1<|cc W hz2 (fun c5 hz2=> ?_)<|fun c5 hz2=> ?_
 refine B0<|sv W<|A1<|B2 ?_
 cases hz2
 obtain rfl:=ez2 _ rfl
 refine ⟨nofun,F4 ?_⟩
 rw [wE]at h
 cases h
 exact A6 (.inr W) (B6 (B3 W) C2) (.refl _)
 refine B0<|sq W<|sl W G_hit W<|sv W<|sv W<|sq W<|sp W W<|sl W (gq W) W (sd W (D7 W)<|bs hz2 fun v6 hv6 hz2=>A9 W W A3 (Qs _ _ _ _ hv6) (.inl W) (C0 (.d (bo (!v6))) W W (sv W<|A1<|cc W hz2 (fun c6 hz2=> ?_)<|fun c6 hz2=> ?_)))
 refine B0<|sv W<|A1<|B2 ?_
 cases hz2
 obtain rfl:=ez2 _ rfl
 refine ⟨nofun,F4 ?_⟩
 rw [wE]at h
 cases h
 exact A6 (.inr W) (B6 (B3 W) C2) (.refl _)
 refine A8<|E3<|E3<|B7<|sv W<|sv W<|A1<|E2 ?_
 cases hz2
 exact ⟨W,(),(F2 W W)⟩
 refine C8 W ?_
 cases hz2
 obtain rfl:=ez2 _ rfl
 refine ⟨nofun,C6 W<|U4 ?_⟩
 exact ⟨_,(),W,(F2 W W)⟩
 rintro _ ⟨y1,g1,rfl,q1⟩
 rw [wD]at h
 refine B4 q1<|B0<|sv W<|A1<|B2 ?_
 cases h
 exact A6 (.inr W) (B6 (B3 W) C2) (.refl _)
def Y1 (p1:RoadsCheck)(v1:Lane)(v2:Spot)(x2:Int):Option (Stp Int (Sum Unit Int)):=
  cond (decide (x2< (v1.Next.length:Int))) ((C1 v1.Next x2).bind fun v3=>(C1 p1.Map_.Lanes v3).bind fun v4=>cond (v4.Kind !=v1.Kind) (some (.out (.inr 4))) ((C1 p1.Map_.Lanes v3).bind fun v5=>(C1 v5.Curve_.Pts 0).bind fun v6=>cond (!(v6.X==v2.X&& (v6.Y==v2.Y&&true))) (some (.out (.inr 3))) (some (.go (D3 (x2+1)))))) (some (.out (.inl ())))
def P9 [Lp](p1:RoadsCheck)(x1:Int):Option (Stp Int (Sum Unit Int)):=
  cond (decide (x1< (p1.Map_.Lanes.length:Int))) ((C1 p1.Map_.Lanes x1).bind fun v1=>(C1 v1.Curve_.Pts (D3 ((v1.Curve_.Pts.length:Int) - 1))).bind fun v2=>thenS (loop (Y1 p1 v1 v2) 0) (fun _=>some (.go (D3 (x1+1)))) (fun r=>some (.out (.inr r)))) (some (.out (.inl ())))
def U1 [Lp](p1:RoadsCheck):Option Int:=
  thenS (loop (P9 p1) 0) (fun _=>some 0) (fun r=>some r)
theorem Xm(p1 r)(h:U1 p1=some r):PCall prog 150 [(.agg (P7 p1.Map_))] (i64 r):=by
 refine C4 (fk func150 ntmps150 m0 (by with_unfolding_all rfl)) (nl W) ?_
 unfold U1 at h
 refine B4 (s0:=⟨T [(0,(.d _))],G []⟩) (F2 W W) ?_
 refine lr<|fun u1 _=>sm W<|sv W<|A1<|A5<|B0<|sq W<|sp W W<|sl W G_hit W<|sd W (D7 W)<|sv W<|A1<|js h fun z1 hz1 h=>D9 (fun s=> ∃(y1:Unit) (g1:Unit),z1= .inl y1∧Sb ⟨T [],G []⟩ s) ?_ ?_
 refine A7<|E4 (P9 p1) (fun (x1:Int) (g2:Unit)=>⟨T [(1,(.ptr (1,u1) 0)),(10,(dl Gr p1.Map_.Lanes)),(11,(di (p1.Map_.Lanes.length:Int))),(12,(di x1))],G [((1,u1),some<|.box 212 (L4 p1.Map_))]⟩) 0 () _ hz1 (F2 W W) ?_
 intro x1 g2 z2 hz2 ez2
 unfold P9 at hz2
 refine B0<|sv W<|A1<|A5<|cc W hz2 (fun c1 hz2=> ?_)<|fun c1 hz2=> ?_
 refine A8<|A5<|A7<|lr<|fun u4 _=>bs hz2 fun v1 hv1 hz2=>sd W (C5 W W hv1 W)<|sd W (D4 W hv1 W W)<|sm W<|U0 W G_hit (EG v1) W (A1<|lr<|fun u5 _=>sq W<|sq W<|sl W G_hit W<|sq W<|sp W W<|sl W G_hit W<|sd W (D7 W)<|sv W<|bs hz2 fun v2 hv2 hz2=>sd W (C5 W W hv2 W)<|sd W (D4 W hv2 W W)<|sm W<|U0 W G_hit [(di v2.X),(di v2.Y)] W (A1<|B0<|sq W<|sl W (gq W) W (sd W (D7 W)<|sv W<|A1<|js hz2 fun z3 hz3 hz2=>D9 (fun s=> ∃(y2:Unit) (g3:Unit),z3= .inl y2∧Sb ⟨T [(1,(.ptr (1,u1) 0)),(10,(dl Gr p1.Map_.Lanes)),(11,(di (p1.Map_.Lanes.length:Int))),(12,(di x1))],G [((1,u1),some<|.box 212 (L4 p1.Map_))]⟩ s) ?_ ?_)))
 refine A7<|E4 (Y1 p1 v1 v2) (fun (x2:Int) (g4:Unit)=>⟨T [(1,(.ptr (1,u1) 0)),(4,(.ptr (4,u4) 0)),(5,(.ptr (5,u5) 0)),(10,(dl Gr p1.Map_.Lanes)),(11,(di (p1.Map_.Lanes.length:Int))),(12,(di x1)),(27,(dl A4 v1.Next)),(28,(di (v1.Next.length:Int))),(29,(di x2))],G [((1,u1),some<|.box 212 (L4 p1.Map_)),((4,u4),some<|.box 63 (EG v1)),((5,u5),some<|.box 104 [(di v2.X),(di v2.Y)])]⟩) 0 () _ hz3 (F2 W W) ?_
 intro x2 g4 z4 hz4 ez4
 unfold Y1 at hz4
 refine B0<|sv W<|A1<|A5<|cc W hz4 (fun c2 hz4=> ?_)<|fun c2 hz4=> ?_
 refine A8<|A5<|A7<|B0<|bs hz4 fun _ hv3 hz4=>sd W (C5 W W hv3 W)<|sd W (C9 W hv3 W)<|sv W<|A1<|A5<|A5<|E7 W<|sq W<|sq W<|sl W G_hit W<|sv W<|bs hz4 fun _ hv4 hz4=>sd W (C5 W W hv4 W)<|sv W<|sd W (C9 W hv4 W)<|sq W<|sl W (gq W) W (sv W<|A1<|cc W hz4 (fun c3 hz4=> ?_)<|fun c3 hz4=> ?_)
 refine B0<|sv W<|A1<|B2 ?_
 cases hz4
 obtain rfl:=ez4 _ rfl
 refine ⟨nofun,F4 ?_⟩
 rw [wE]at hz2
 cases hz2
 obtain rfl:=ez2 _ rfl
 refine ⟨nofun,F4 ?_⟩
 rw [wE]at h
 cases h
 exact A6 (.inr W) (B6 (B3 W) C2) (.refl _)
 refine A8<|A5<|E7 W<|sq W<|sq W<|sl W G_hit W<|sv W<|bs hz4 fun _ hv5 hz4=>sd W (C5 W W hv5 W)<|sv W<|sv W<|sd W (C9 W hv5 W)<|bs hz4 fun v6 hv6 hz4=>sd W (C5 W W hv6 W)<|sd W (D4 W hv6 W W)<|sd W (B1 W (gq W) W W)<|C0 (.d (bo (!(v6.X==v2.X&& (v6.Y==v2.Y&&true))))) W W (A1<|cc W hz4 (fun c4 hz4=> ?_)<|fun c4 hz4=> ?_)
 refine B0<|sv W<|A1<|B2 ?_
 cases hz4
 obtain rfl:=ez4 _ rfl
 refine ⟨nofun,F4 ?_⟩
 rw [wE]at hz2
 cases hz2
 obtain rfl:=ez2 _ rfl
 refine ⟨nofun,F4 ?_⟩
 rw [wE]at h
 cases h
 exact A6 (.inr W) (B6 (B3 W) C2) (.refl _)
 refine A8<|E3<|B7<|sv W<|sv W<|A1<|E2 ?_
 cases hz4
 exact ⟨W,(),(F2 W W)⟩
 refine C8 W ?_
 cases hz4
 obtain rfl:=ez4 _ rfl
 refine ⟨nofun,C6 W<|U4 ?_⟩
 exact ⟨_,(),W,(F2 W W)⟩
 rintro _ ⟨y2,g3,rfl,q1⟩
 rw [wD]at hz2
 refine E3<|B4 q1<|B7<|sv W<|sv W<|A1<|E2 ?_
 cases hz2
 exact ⟨W,(),(F2 W W)⟩
 refine C8 W ?_
 cases hz2
 obtain rfl:=ez2 _ rfl
 refine ⟨nofun,C6 W<|U4 ?_⟩
 exact ⟨_,(),W,(F2 W W)⟩
 rintro _ ⟨y1,g1,rfl,q2⟩
 rw [wD]at h
 refine B4 q2<|B0<|sv W<|A1<|B2 ?_
 cases h
 exact A6 (.inr W) (B6 (B3 W) C2) (.refl _)
def El (p1:Phase):Option Bool:=
  (Dg p1.Ticks 1 10000).bind fun v1=>some (!v1)
theorem Ud(p1 r)(h:El p1=some r):PCall prog 212 [(.agg [(i64 p1.Ticks),(.list (List.map A4 p1.Green))])] (bo r):=by
 refine C4 (fk func212 ntmps212 m0 (by with_unfolding_all rfl)) (nl W) ?_
 unfold El at h
 refine B4 (s0:=⟨T [(0,(.d _))],G []⟩) (F2 W W) ?_
 refine B0<|sm W<|sv W<|A1<|B0<|sq W<|sl W G_hit W<|bs h fun v1 hv1 h=>A9 W W A3 (Eu _ _ _ _ hv1) (.inl W) (C0 (.d (bo (!v1))) W W (sv W<|A1<|B2 ?_))
 cases h
 exact A6 (.inr W) (B6 (B3 W) C2) (.refl _)
def K3 (p1:(List Phase))(x1:Int):Option (Stp Int (Sum Unit Int)):=
  cond (decide (x1< (p1.length:Int))) ((C1 p1 x1).bind fun v1=>(El v1).bind fun v2=>cond v2 (some (.out (.inr x1))) (some (.go (D3 (x1+1))))) (some (.out (.inl ())))
def H4 [Lp](p1:(List Phase)):Option Int:=
  thenS (loop (K3 p1) 0) (fun _=>some (-1)) (fun r=>some r)
theorem Dd(p1 r)(h:H4 p1=some r):PCall prog 243 [(.list (List.map Bb p1)),(.fn (.func 212) [] [])] (i64 r):=by
 refine C4 (fk func243 ntmps243 m0 (by with_unfolding_all rfl)) (nl W) ?_
 unfold H4 at h
 refine B4 (s0:=⟨T [(0,(.d _)),(1,(.d _))],G []⟩) (F2 W W) ?_
 refine B0<|sv W<|A1<|A5<|B0<|sv W<|sd W (D7 W)<|sv W<|A1<|js h fun z1 hz1 h=>D9 (fun s=> ∃(y1:Unit) (g1:Unit),z1= .inl y1∧Sb ⟨T [],G []⟩ s) ?_ ?_
 refine A7<|E4 (K3 p1) (fun (x1:Int) (g2:Unit)=>⟨T [(0,(dl Bb p1)),(1,(.d (.fn (.func 212) [] []))),(7,(di (p1.length:Int))),(8,(di x1))],G []⟩) 0 () _ hz1 (F2 W W) ?_
 intro x1 g2 z2 hz2 ez2
 unfold K3 at hz2
 refine B0<|sv W<|A1<|A5<|cc W hz2 (fun c1 hz2=> ?_)<|fun c1 hz2=> ?_
 refine A8<|A5<|A7<|B0<|sv W<|sv W<|A1<|B0<|sv W<|sv W<|sv W<|bs hz2 fun _ hv1 hz2=>sd W (C5 W W hv1 W)<|sd W (D4 W hv1 W W)<|bs hz2 fun _ hv2 hz2=>A9 W W A3 (Ud _ _ hv2) (.inl W) (A1<|cc W hz2 (fun c2 hz2=> ?_)<|fun c2 hz2=> ?_)
 refine B0<|sv W<|sv W<|A1<|B2 ?_
 cases hz2
 obtain rfl:=ez2 _ rfl
 refine ⟨nofun,F4 ?_⟩
 rw [wE]at h
 cases h
 exact A6 (.inr W) (B6 (B3 W) C2) (.refl _)
 refine A8<|E3<|B7<|sv W<|sv W<|A1<|E2 ?_
 cases hz2
 exact ⟨W,(),(F2 W W)⟩
 refine C8 W ?_
 cases hz2
 obtain rfl:=ez2 _ rfl
 refine ⟨nofun,C6 W<|U4 ?_⟩
 exact ⟨_,(),W,(F2 W W)⟩
 rintro _ ⟨y1,g1,rfl,q1⟩
 rw [wD]at h
 refine B4 q1<|B0<|sv W<|A1<|B2 ?_
 cases h
 exact A6 (.inr W) (B6 (B3 W) C2) (.refl _)
def F3 [Lp](p1:(List Phase)):Option Bool:=
  (H4 p1).bind fun v1=>some (decide (v1≥0))
theorem Ce(p1 r)(h:F3 p1=some r):PCall prog 211 [(.list (List.map Bb p1)),(.fn (.func 212) [] [])] (bo r):=by
 refine C4 (fk func211 ntmps211 m0 (by with_unfolding_all rfl)) (nl W) ?_
 unfold F3 at h
 refine B4 (s0:=⟨T [(0,(.d _)),(1,(.d _))],G []⟩) (F2 W W) ?_
 refine B0<|sv W<|A1<|B0<|sv W<|sv W<|bs h fun _ hv1 h=>A9 W W A3 (Dd _ _ hv1) (.inl W) (sv W<|sv W<|A1<|B2 ?_)
 cases h
 exact A6 (.inr W) (B6 (B3 W) C2) (.refl _)
def T1 [Lp](p1:Phase)(p2:RoadsCheck):Option Bool:=
  (Bs p1.Green 0 (p2.Map_.Lanes.length:Int)).bind fun v1=>some (!v1)
theorem Si(p1 p2 r)(h:T1 p1 p2=some r):PCall prog 213 [(.agg [(i64 p1.Ticks),(.list (List.map A4 p1.Green))]),(.bp (P7 p2.Map_) 0)] (bo r):=by
 refine C4 (fk func213 ntmps213 m0 (by with_unfolding_all rfl)) (nl W) ?_
 unfold T1 at h
 refine B4 (s0:=⟨T [(0,(.d _)),(1,(.d _))],G []⟩) (F2 W W) ?_
 refine B0<|sm W<|sv W<|A1<|B0<|sq W<|sl W G_hit W<|sv W<|sv W<|sv W<|sd W (D7 W)<|bs h fun v1 hv1 h=>A9 W W A3 (Qs _ _ _ _ hv1) (.inl W) (C0 (.d (bo (!v1))) W W (sv W<|A1<|B2 ?_))
 cases h
 exact A6 (.inr W) (B6 (B3 W) C2) (.refl _)
def E9 [Lp](p1:(List Phase))(p2:RoadsCheck)(x1:Int):Option (Stp Int (Sum Unit Int)):=
  cond (decide (x1< (p1.length:Int))) ((C1 p1 x1).bind fun v1=>(T1 v1 p2).bind fun v2=>cond v2 (some (.out (.inr x1))) (some (.go (D3 (x1+1))))) (some (.out (.inl ())))
def G7 [Lp](p1:(List Phase))(p2:RoadsCheck):Option Int:=
  thenS (loop (E9 p1 p2) 0) (fun _=>some (-1)) (fun r=>some r)
theorem Cw(p1 p2 r)(h:G7 p1 p2=some r):PCall prog 243 [(.list (List.map Bb p1)),(.fn (.func 213) [] [(.bp (P7 p2.Map_) 0)])] (i64 r):=by
 refine C4 (fk func243 ntmps243 m0 (by with_unfolding_all rfl)) (nl W) ?_
 unfold G7 at h
 refine B4 (s0:=⟨T [(0,(.d _)),(1,(.d _))],G []⟩) (F2 W W) ?_
 refine B0<|sv W<|A1<|A5<|B0<|sv W<|sd W (D7 W)<|sv W<|A1<|js h fun z1 hz1 h=>D9 (fun s=> ∃(y1:Unit) (g1:Unit),z1= .inl y1∧Sb ⟨T [],G []⟩ s) ?_ ?_
 refine A7<|E4 (E9 p1 p2) (fun (x1:Int) (g2:Unit)=>⟨T [(0,(dl Bb p1)),(1,(.d (.fn (.func 213) [] [(.bp (P7 p2.Map_) 0)]))),(7,(di (p1.length:Int))),(8,(di x1))],G []⟩) 0 () _ hz1 (F2 W W) ?_
 intro x1 g2 z2 hz2 ez2
 unfold E9 at hz2
 refine B0<|sv W<|A1<|A5<|cc W hz2 (fun c1 hz2=> ?_)<|fun c1 hz2=> ?_
 refine A8<|A5<|A7<|B0<|sv W<|sv W<|A1<|B0<|sv W<|sv W<|sv W<|bs hz2 fun _ hv1 hz2=>sd W (C5 W W hv1 W)<|sd W (D4 W hv1 W W)<|bs hz2 fun _ hv2 hz2=>A9 W W A3 (Si _ _ _ hv2) (.inl W) (A1<|cc W hz2 (fun c2 hz2=> ?_)<|fun c2 hz2=> ?_)
 refine B0<|sv W<|sv W<|A1<|B2 ?_
 cases hz2
 obtain rfl:=ez2 _ rfl
 refine ⟨nofun,F4 ?_⟩
 rw [wE]at h
 cases h
 exact A6 (.inr W) (B6 (B3 W) C2) (.refl _)
 refine A8<|E3<|B7<|sv W<|sv W<|A1<|E2 ?_
 cases hz2
 exact ⟨W,(),(F2 W W)⟩
 refine C8 W ?_
 cases hz2
 obtain rfl:=ez2 _ rfl
 refine ⟨nofun,C6 W<|U4 ?_⟩
 exact ⟨_,(),W,(F2 W W)⟩
 rintro _ ⟨y1,g1,rfl,q1⟩
 rw [wD]at h
 refine B4 q1<|B0<|sv W<|A1<|B2 ?_
 cases h
 exact A6 (.inr W) (B6 (B3 W) C2) (.refl _)
def F0 [Lp](p1:(List Phase))(p2:RoadsCheck):Option Bool:=
  (G7 p1 p2).bind fun v1=>some (decide (v1≥0))
theorem Bt(p1 p2 r)(h:F0 p1 p2=some r):PCall prog 211 [(.list (List.map Bb p1)),(.fn (.func 213) [] [(.bp (P7 p2.Map_) 0)])] (bo r):=by
 refine C4 (fk func211 ntmps211 m0 (by with_unfolding_all rfl)) (nl W) ?_
 unfold F0 at h
 refine B4 (s0:=⟨T [(0,(.d _)),(1,(.d _))],G []⟩) (F2 W W) ?_
 refine B0<|sv W<|A1<|B0<|sv W<|sv W<|bs h fun _ hv1 h=>A9 W W A3 (Cw _ _ _ hv1) (.inl W) (sv W<|sv W<|A1<|B2 ?_)
 cases h
 exact A6 (.inr W) (B6 (B3 W) C2) (.refl _)
def P3 [Lp](p1:RoadsCheck)(x1:Int):Option (Stp Int (Sum Unit Int)):=
  cond (decide (x1< (p1.Map_.Signals.length:Int))) ((C1 p1.Map_.Signals x1).bind fun v1=>cond ((v1.Phases.length:Int)==0) (some (.out (.inr 6))) (cond (decide ((v1.Phases.length:Int)>6)) (some (.out (.inr 8))) ((Dg v1.Offset 0 1099511627776).bind fun v2=>cond (!v2) (some (.out (.inr 2))) ((F3 v1.Phases).bind fun v3=>cond v3 (some (.out (.inr 2))) ((F0 v1.Phases p1).bind fun v4=>cond v4 (some (.out (.inr 11))) (some (.go (D3 (x1+1))))))))) (some (.out (.inl ())))
def S6 [Lp](p1:RoadsCheck):Option Int:=
  thenS (loop (P3 p1) 0) (fun _=>some 0) (fun r=>some r)
theorem Vw(p1 r)(h:S6 p1=some r):PCall prog 151 [(.agg (P7 p1.Map_))] (i64 r):=by
 refine C4 (fk func151 ntmps151 m0 (by with_unfolding_all rfl)) (nl W) ?_
 unfold S6 at h
 refine B4 (s0:=⟨T [(0,(.d _))],G []⟩) (F2 W W) ?_
 refine lr<|fun u1 _=>sm W<|sv W<|A1<|A5<|B0<|sq W<|sp W W<|sl W G_hit W<|sd W (D7 W)<|sv W<|A1<|js h fun z1 hz1 h=>D9 (fun s=> ∃(y1:Unit) (g1:Unit),z1= .inl y1∧Sb ⟨T [],G []⟩ s) ?_ ?_
 refine A7<|E4 (P3 p1) (fun (x1:Int) (g2:Unit)=>⟨T [(1,(.ptr (1,u1) 0)),(8,(dl Nv p1.Map_.Signals)),(9,(di (p1.Map_.Signals.length:Int))),(10,(di x1))],G [((1,u1),some<|.box 212 (L4 p1.Map_))]⟩) 0 () _ hz1 (F2 W W) ?_
 intro x1 g2 z2 hz2 ez2
 unfold P3 at hz2
 refine B0<|sv W<|A1<|A5<|cc W hz2 (fun c1 hz2=> ?_)<|fun c1 hz2=> ?_
 refine A8<|A5<|A7<|B0<|bs hz2 fun v1 hv1 hz2=>sd W (C5 W W hv1 W)<|sd W (D4 W hv1 W W)<|sm W<|U0 W G_hit [(di v1.Offset),(dl Bb v1.Phases)] W (A1<|B0<|sq W<|sl W G_hit W<|sd W (D7 W)<|sv W<|A1<|A7<|B0<|sv W<|sv W<|sv W<|A1<|cc W hz2 (fun c2 hz2=> ?_)<|fun c2 hz2=> ?_)
 refine B0<|sv W<|A1<|B2 ?_
 cases hz2
 obtain rfl:=ez2 _ rfl
 refine ⟨nofun,F4 ?_⟩
 rw [wE]at h
 cases h
 exact A6 (.inr W) (B6 (B3 W) C2) (.refl _)
 refine B0<|sv W<|sv W<|sv W<|A1<|cc W hz2 (fun c3 hz2=> ?_)<|fun c3 hz2=> ?_
 refine B0<|sv W<|A1<|B2 ?_
 cases hz2
 obtain rfl:=ez2 _ rfl
 refine ⟨nofun,F4 ?_⟩
 rw [wE]at h
 cases h
 exact A6 (.inr W) (B6 (B3 W) C2) (.refl _)
 refine B0<|sq W<|sl W G_hit W<|bs hz2 fun v2 hv2 hz2=>A9 W W A3 (Eu _ _ _ _ hv2) (.inl W) (C0 (.d (bo (!v2))) W W (sv W<|A1<|cc W hz2 (fun c4 hz2=> ?_)<|fun c4 hz2=> ?_))
 refine B0<|sv W<|A1<|B2 ?_
 cases hz2
 obtain rfl:=ez2 _ rfl
 refine ⟨nofun,F4 ?_⟩
 rw [wE]at h
 cases h
 exact A6 (.inr W) (B6 (B3 W) C2) (.refl _)
 refine B0<|sq W<|sl W G_hit W<|bs hz2 fun _ hv3 hz2=>A9 W W A3 (Ce _ _ hv3) (.inl W) (sv W<|A1<|cc W hz2 (fun c5 hz2=> ?_)<|fun c5 hz2=> ?_)
 refine B0<|sv W<|A1<|B2 ?_
 cases hz2
 obtain rfl:=ez2 _ rfl
 refine ⟨nofun,F4 ?_⟩
 rw [wE]at h
 cases h
 exact A6 (.inr W) (B6 (B3 W) C2) (.refl _)
 refine B0<|sq W<|sl W G_hit W<|C0 (.fn _ _ _) W W (bs hz2 fun _ hv4 hz2=>A9 W (rD<|E6 (AS G1<|E6 (Bi (gq W)<|rD<|rD<|rD<|rD<|rD G1) G1) G1) A3 (Bt _ _ _ hv4) (.inr W) (sv W<|A1<|cc W hz2 (fun c6 hz2=> ?_)<|fun c6 hz2=> ?_))
 refine B0<|sv W<|A1<|B2 ?_
 cases hz2
 obtain rfl:=ez2 _ rfl
 refine ⟨nofun,F4 ?_⟩
 rw [wE]at h
 cases h
 exact A6 (.inr W) (B6 (B3 W) C2) (.refl _)
 refine A8<|E3<|E3<|B7<|sv W<|sv W<|A1<|E2 ?_
 cases hz2
 exact ⟨W,(),(F2 W W)⟩
 refine C8 W ?_
 cases hz2
 obtain rfl:=ez2 _ rfl
 refine ⟨nofun,C6 W<|U4 ?_⟩
 exact ⟨_,(),W,(F2 W W)⟩
 rintro _ ⟨y1,g1,rfl,q1⟩
 rw [wD]at h
 refine B4 q1<|B0<|sv W<|A1<|B2 ?_
 cases h
 exact A6 (.inr W) (B6 (B3 W) C2) (.refl _)
/-- kerbstone/curve.pieces$1 -/
def Tq:AC:=(.seq (.reg [oo 3 (.mv (ci 0))]) (.seq (.reg [oo 8 (.fieldA 0 (.t 1)),oo 9 (.load 1 false (.t 8)),oo 10 (.len (.t 9)),oo 11 (.bin .sub (.t 10) (ci 1)),oo 12 (.mv (ci 0))]) (.block 0 (.loop (.seq (.reg [oo 13 (.bin .lss (.t 12) (.t 11))]) (.seq (.cond (.t 13) .skip (.exit 0)) (.seq (.block 1 (.seq (.reg [oo 14 (.mv (.t 12)),oo 4 (.mv (.t 14))]) (.seq (.draw [oo 15 (.fieldA 0 (.t 1)),oo 16 (.load 1 false (.t 15)),oo 17 (.mv (.t 4)),oo 18 (.idxS 2 (.t 16) (.t 17)),oo 19 (.load 2 true (.t 18)),oo 20 (.fieldA 0 (.t 1)),oo 21 (.load 1 false (.t 20)),oo 22 (.mv (.t 4)),oo 23 (.bin .add (.t 22) (ci 1)),oo 24 (.idxS 2 (.t 21) (.t 23)),oo 25 (.load 2 true (.t 24)),oo 26 (.call (cf 238) [(.t 19),(.t 25)]),oo 5 (.alloc 253 [z0,z0]),oe (.store 2 (.t 5) (.t 26))] []) (.seq (.reg [oo 28 (.load 2 true (.t 5)),oo 29 (.load 2 true (.t 5)),oo 30 (.call (cf 240) [(.t 28),(.t 29)]),oo 31 (.call (cf 239) [(.t 30)]),oo 27 (.mv (.t 31)),oo 32 (.ext (.t 27) 0),oo 33 (.ext (.t 27) 1),oo 6 (.mv (.t 32)),oo 7 (.mv (.t 33))]) (.seq (.seq (.drawB [oo 34 (.mv (.t 0)),oo 35 (.mv (.t 4)),oo 36 (.fieldA 0 (.t 1)),oo 37 (.load 1 false (.t 36)),oo 38 (.mv (.t 4)),oo 39 (.idxS 2 (.t 37) (.t 38)),oo 40 (.load 2 true (.t 39)),oo 41 (.load 2 true (.t 5)),oo 42 (.mv (.t 6)),oo 43 (.mv (.t 3)),oo 44 (.build [z0,z0,z0,z0,z0,z0] [(0,2,(.t 40)),(2,2,(.t 41)),(4,1,(.t 42)),(5,1,(.t 43))]),oo 45 (.icall (.t 34) [(.t 35),(.t 44)]),oo 46 (.un .not (.t 45))] 11 []) (.cond (.t 46) .ret .skip)) (.reg [oo 47 (.mv (.t 3)),oo 48 (.mv (.t 6)),oo 49 (.bin .add (.t 47) (.t 48)),oo 3 (.mv (.t 49))])))))) (.reg [oo 50 (.bin .add (.t 12) (ci 1)),oo 12 (.mv (.t 50))]))))))))
theorem EH:FnOK prog 260 51 [] Tq:=⟨_,_,func260,rfl,ntmps260,by kernel_rfl,⟨fun r=>if r==6 then [11]else [],by kernel_rfl⟩,by kernel_rfl⟩
/-- The pieces of a chain of points, from a number on. -/
def Jd [Lp](pts:List Spot):Nat→Nat→Int→Option (List (Int×CurvePiece))
  |0,_,_=>some []
  |n+1,i,start=>(pts[i]?).bind fun p=>(pts[i+1]?).bind fun q=>(Pd p q).bind fun v=>(Bj v v).bind fun d=>(Fz d).bind fun r=>
   (Jd pts n (i+1) (D3 (start+r.1))).bind fun l=>some (((i:Int),CurvePiece.mk p v r.1 start)::l)
def Ts [Lp](pts:List Spot):Option (List (Int×CurvePiece)):=if pts.length≤1000000 then Jd pts (pts.length - 1) 0 0 else none
/-- kerbstone/curve.pieces -/
def Wy:AC:=(.seq (.reg [oo 1 (.box 61 true (.t 0)),oo 2 (.mv (.c (.v .nilFunc)))]) (.seq (.reg [oo 3 (.mkfn (.func 260) [] [(.t 1)]),oo 2 (.mv (.t 3))]) .ret))
theorem HW:FnOK prog 241 4 [.t 2] Wy:=⟨_,_,func241,rfl,ntmps241,by kernel_rfl,⟨fun _=> [],by kernel_rfl⟩,by kernel_rfl⟩
abbrev PY (a:Int×CurvePiece):List D:= [i64 a.1, .agg [i64 a.2.p.X,i64 a.2.p.Y,i64 a.2.v.x,i64 a.2.v.y,i64 a.2.l,i64 a.2.start]]
theorem SQ (c:Curve):PCall prog 241 [.agg [.list (List.map Cp c.Pts)]] (.fn (.func 260) [] [.bp [.list (List.map Cp c.Pts)] 0]):=by
  refine eI HW (by simp) ?_
  unfold Wy
  refine Oz<|Se fun _ _=> ?_
  refine VK (.ptr _ _) _ W W ?_
  refine G5 (.d _) W W ?_
  refine Bh ?_
  refine Oz<|Se fun u' hu'=> ?_
  refine G5 (.fn _ _ _) W W ?_
  refine G5 (.fn _ _ _) W W ?_
  refine Bh ?_
  refine VG ⟨.inr W,?_⟩
  refine B6 (B3 (v:= .fn _ _ _) W) ?_
  exact AS G1<|E6 (Bi (by simp only [Bg,if_true];rfl)<|E6 C2 G1) G1
theorem fX (ps:List Spot)(n:Int)(i:Nat)(p:Spot)(hn:n=i)(h:ps[i]? =some p):(List.map Cp ps)[n.toNat]? =some (Cp p):=by
  subst hn
  rw [wF,lK,h];rfl
theorem VX {n:Int}(h: -9223372036854775808≤n∧n≤9223372036854775807):D3 n=n:=Go.IntWalk.i64_in n h
theorem HX (pts:List Spot): ∀n i s L,Jd pts n i s=some L→L.length=n:=by
  intro n
  induction n with
  |zero=>intro i s L h;cases h;rfl
  |succ n ih=>
   intro i s L h
   rw [Jd]at h
   obtain ⟨p,hp,h⟩:=bind_some h
   obtain ⟨q,hq,h⟩:=bind_some h
   obtain ⟨v,hv,h⟩:=bind_some h
   obtain ⟨d,hd,h⟩:=bind_some h
   obtain ⟨r,hr,h⟩:=bind_some h
   obtain ⟨l,hl,h⟩:=bind_some h
   cases h
   rw [lL,ih _ _ _ hl]
theorem SR {pts:List Spot}{L:List (Int×CurvePiece)}(h:Ts pts=some L):eX prog (.fn (.func 260) [] [.bp [.list (List.map Cp pts)] 0]) (L.map PY):=by
  unfold Ts at h
  split at h
  case isFalse=>cases h
  rename_i hlen
  refine ⟨260,[],_,W,?_⟩
  intro k h0 Inv Stop hi0 hy
  refine JU EH (by simp) ?_
  unfold Tq
  refine Oz<|Se fun u hu=> ?_
  refine G5 (.d _) W W ?_
  refine Bh ?_
  refine Oz<|Se fun u hu=> ?_
  refine G5 (.d _) W W ?_
  refine G5 (.d _) W W ?_
  refine G5 (.d (i64 pts.length)) W (D7 (f:=Cp) W) ?_
  refine G5 (.d _) W W ?_
  refine G5 (.d _) W W ?_
  refine Bh ?_
  refine JQ ?_
  refine RR (α:=Nat×Int×E5) (fun x=>⟨T [(0, .yld k),(1, .d (.bp [.list (List.map Cp pts)] 0)),(3, .d (i64 x.2.1)),(11, .d (i64<|D3 (pts.length - 1))),(12, .d (i64 x.1))],x.2.2⟩) (fun x=>pts.length - x.1)
    (fun x=>Inv x.1 x.2.2∧x.1≤pts.length - 1∧Jd pts (pts.length - 1 - x.1) x.1 x.2.1=some (L.drop x.1)) (0,0,h0) ⟨hi0,by omega,h⟩ (Yh ⟨rfl,rfl,rfl,rfl,rfl,trivial⟩ fun _ _ h=>h) ?_
  rintro ⟨i,start,hh⟩ ⟨hinv,hi,hgo⟩
  dsimp only at hinv hi hgo ⊢
  refine Oz<|Se fun u hu=> ?_
  refine G5 (.d _) W W ?_
  refine Bh ?_
  refine Oz ?_
  refine eM W (fun hlt=> ?_)<|fun hlt=> ?_
  ·refine PJ ?_
   have hlen1:D3 ((pts.length:Int) - 1)=pts.length - 1:=VX (by omega)
   rw [hlen1]at hlt
   have hi1:i+1<pts.length:=by omega
   have hw1:IntKind.i64.wrap ((i:Int)+1)=(i:Int)+1:=VX (by omega)
   obtain ⟨m,hm⟩: ∃m,pts.length - 1 - i=m+1:=⟨pts.length - 1 - i - 1,by omega⟩
   rw [hm,Jd]at hgo
   obtain ⟨p,hp,hgo⟩:=bind_some hgo
   obtain ⟨q,hq,hgo⟩:=bind_some hgo
   obtain ⟨v,hv,hgo⟩:=bind_some hgo
   obtain ⟨d,hd,hgo⟩:=bind_some hgo
   obtain ⟨r,hr,hgo⟩:=bind_some hgo
   obtain ⟨l,hl,hgo⟩:=bind_some hgo
   have hgo:((i:Int),CurvePiece.mk p v r.1 start)::l=L.drop i:=lD hgo
   have hLi:L[i]? =some ((i:Int),CurvePiece.mk p v r.1 start):=by
     have:=congrArg (fun z=>z[0]?) hgo
     simpa using this.symm
   have hLd:L.drop (i+1)=l:=by
     have:=congrArg (fun z=>z.drop 1) hgo
     simpa using this.symm
   have hin: ∀(p:Spot) (n:Int) (j:Nat),n=j→pts[j]? =some p→(List.map Cp pts)[n.toNat]? =some (Cp p):=fun p n j=>fX pts n j p
   refine Oz ?_
   refine JQ ?_
   refine Oz<|Se fun u hu=> ?_
   refine G5 (.d _) W W ?_
   refine G5 (.d _) W W ?_
   refine Bh ?_
   refine Oz<|XP W fun u hu=> ?_
   refine G5 (.d _) W W ?_
   refine G5 (.d _) W W ?_
   refine G5 (.d _) W W ?_
   refine VL _ _ _ _ W W (Int.natCast_nonneg i) (hin p _ i W hp) W ?_
   refine FO _ _ _ _ _ W (hin p _ i W hp) (by simp) W ?_
   refine G5 (.d _) W W ?_
   refine G5 (.d _) W W ?_
   refine G5 (.d _) W W ?_
   refine G5 (.d _) W W ?_
   refine VL _ _ _ _ W W (by rw [hw1];omega) (hin q _ (i+1) (by rw [hw1];rfl) hq) W ?_
   refine FO _ _ _ _ _ W (hin q _ (i+1) (by rw [hw1];rfl) hq) (by simp) W ?_
   refine Zu W W (AZ p q _ hv) (.inl W) ?_
   refine VK (.ptr _ _) _ W W ?_
   refine RW _ _ _ _ _ W W W (by simp only [Bg,if_true];rfl) (by simp) ?_
   refine Bh ?_
   refine Oz<|Se fun u' hu'=> ?_
   refine JW _ _ _ _ (.d (.agg [i64 v.x,i64 v.y])) W (by simp only [Bg,if_true];rfl) (by simp [Kw]) W ?_
   refine JW _ _ _ _ (.d (.agg [i64 v.x,i64 v.y])) W (by simp only [Bg,if_true];rfl) (by simp [Kw]) W ?_
   refine Zu W W (Lu v v _ hd) (.inl W) ?_
   refine Zu W W (BA d _ hr) (.inl W) ?_
   refine G5 (.d _) W W ?_
   refine G5 (.d _) W W ?_
   refine G5 (.d _) W W ?_
   refine G5 (.d _) W W ?_
   refine G5 (.d _) W W ?_
   refine Bh ?_
   refine Oz<|Oz ?_
   refine eH W fun _ _=> ?_
   simp only [List.take,List.drop]
   refine G5 (.yld _) W W ?_
   refine G5 (.d _) W W ?_
   refine G5 (.d _) W W ?_
   refine G5 (.d _) W W ?_
   refine G5 (.d _) W W ?_
   refine VL _ _ _ _ W W (Int.natCast_nonneg i) (hin p _ i W hp) W ?_
   refine FO _ _ _ _ _ W (hin p _ i W hp) (by simp) W ?_
   refine JW _ _ _ _ (.d (.agg [i64 v.x,i64 v.y])) W (by simp only [Bg,if_true];rfl) (by simp [Kw]) W ?_
   refine G5 (.d _) W W ?_
   refine G5 (.d _) W W ?_
   refine G5 (.d _) W W ?_
   refine Bh ?_
   intro u3 hu3
   refine eQ k ((PY ((i:Int),CurvePiece.mk p v r.1 start)).map .d) W W ?_
   refine YCall.weak (XQ hu<|XQ hu fun _ _ h=>h) ((hy i hh _ (by rw [lK,hLi];rfl) hinv).mono ?_)
   rintro v' h' (⟨rfl,hin⟩|⟨rfl,hst⟩)
   ·intro u4 hu4
    refine G5 (.d _) W W ?_
    refine Bh ?_
    refine DS (t:=false) W (fun h=>by cases h) (fun _=> ?_)
    refine PJ ?_
    refine Se fun u hu=> ?_
    refine G5 (.d _) W W ?_
    refine G5 (.d _) W W ?_
    refine G5 (.d _) W W ?_
    refine G5 (.d _) W W ?_
    refine Bh ?_
    refine Se fun u hu=> ?_
    refine G5 (.d _) W W ?_
    refine G5 (.d _) W W ?_
    refine Bh ?_
    refine ⟨(i+1,D3 (start+r.1),h'),⟨hin,by dsimp only;omega,?_⟩,by dsimp only;omega,Yh ⟨rfl,rfl,rfl,rfl,?_,trivial⟩ fun _ _ h=>h⟩
    ·dsimp only
     rw [hLd,show pts.length - 1 - (i+1)=m by omega];exact hl
    ·show AV.d (i64 (IntKind.i64.wrap ((i:Int)+1)))=_
     rw [hw1];rfl
   ·intro u4 hu4
    refine G5 (.d _) W W ?_
    refine Bh ?_
    refine DS (t:=true) W (fun _=> ?_) (fun h=>by cases h)
    refine VG ?_
    dsimp only
    exact ⟨Or.inr trivial,AV.tup [],W,Or.inr hst⟩
  ·refine PK ?_
   have hlen1:1≤pts.length→D3 ((pts.length:Int) - 1)=pts.length - 1:=fun _=>VX (by omega)
   have:i=pts.length - 1:=by
     by_cases h:1≤pts.length
     ·rw [hlen1 h]at hlt;omega
     ·omega
   subst this
   rw [Nat.sub_self,Jd]at hgo
   have hL:(L.map PY).length=pts.length - 1:=by
     have h1:L.drop (pts.length - 1)= []:=(lD hgo).symm
     have h2:=List.drop_eq_nil_iff.1 h1
     rw [lS]
     refine Nat.le_antisymm h2 ?_
     exact Nat.le_of_eq (HX _ _ _ _ _ h).symm
   exact ⟨.inl W,_,W, .inl (by rw [hL];exact hinv)⟩
def Ev (x1:(List Int))(a1:(Int×CurvePiece)):Option (Stp (List Int) (List Int)):=
  (X6 x1 [a1.2.l]).bind fun v3=>some (.go v3)
def Ff [Lp](p1:Curve):Option (List Int):=
  (Fe p1).bind fun v1=>cond (v1 !=0) (some []) (((Ts p1.Pts).bind fun v2=>loopL (Ev) (fun (x1:(List Int))=>x1) v2 []).bind fun y1=>some y1)
theorem HY(p1 r)(h:Ff p1=some r):PCall prog 261 [(.agg [(.list (List.map Cp p1.Pts))])] (.list (List.map A4 r)):=by
 refine C4 (fk func261 ntmps261 (fun r=>if r==6 then [1003]else []) (by with_unfolding_all rfl)) (nl W) ?_
 unfold Ff at h
 refine B4 (s0:=⟨T [(0,(.d _))],G []⟩) (F2 W W) ?_
 refine B0<|sm W<|sv W<|A1<|A5<|B0<|sd W (B1 W G_hit W W)<|bs h fun _ hv1 h=>A9 W W A3 (Ys _ _ hv1) (.inl W) (sv W<|A1<|cc W h (fun c1 h=> ?_)<|fun c1 h=> ?_)
 refine B0<|sv W<|A1<|B2 ?_
 cases h
 exact A6 (.inr W) (B6 (B3 W) C2) DLe.nil
 refine A8<|lr<|fun u4 _=>sm W<|A1<|A5<|B0<|sd W (B1 W (gq W) W W)<|A9 W W A3 (SQ p1) (.inl W) (A1<|bs h fun y1 hy1 h=>D9 (fun s=> ∃g1:Nat,Sb ⟨T [(3,(.ptr (3,u4) 0))],G [((3,u4),some<|.box 48 [(oS y1 (17,g1))]),((17,g1),oB 2 1 A4 y1)]⟩ s) ?_ ?_)
 refine A7<|bs hy1 fun v2 hv2 hy1=>B4 (s0:=⟨T [(3,(.ptr _ _)),(10,(.d _))],G [((3,u4),some<|.box 48 _)]⟩) (F2 W W) ?_
 refine eZ (.fn (.func 260) [] [(.bp [(.list (List.map Cp p1.Pts))] 0)]) PY v2 (Ev) (fun (x1:(List Int))=>x1) (fun (x1:(List Int)) (g2:Nat)=> [((3,u4),some<|.box 48 [(oS x1 (17,g2))]),((17,g2),oB 2 1 A4 x1)]) [] 0 _ W (SR hv2) (fun _=>W) hy1 (E0 trivial<|B5 G_hit (.of W)<|S5 trivial) nofun ?_ ?_
 intro u7 hu7 hku7
 refine ⟨fun x1 g2=>(F5 W<|F5 W W),?_⟩
 intro r1 x1 g2 a1 z1 hrr1 hz1 ez1
 unfold Ev at hz1
 show De _ _ _ _ _ _ ⟨T [(12,(.d (.agg (SO a1.2)))),(11,(di a1.1)),(3,(.ptr (3,u4) 0)),(10,(.d (.fn (.func 260) [] [(.bp [(.list (List.map Cp p1.Pts))] 0)])))],G [((1000000,u7),some (.obj (T [(3,(.ptr (3,u4) 0)),(10,(.d (.fn (.func 260) [] [(.bp [(.list (List.map Cp p1.Pts))] 0)])))]) r1)),((3,u4),some (.box 48 [(oS x1 (17,g2))])),((17,g2),oB 2 1 A4 x1)]⟩
 refine B7<|sm W<|U0 W G_hit (SP a1.2) W (A1<|U4<|VR (gq W) ?_)
 refine A7<|Br fun u9 _=>C0 (oS x1 (17,g2)) W (Q8 W (gq W) W) (sq W<|sl W (gq W) W (C0 (dl A4 [a1.2.l]) W W (bs hz1 fun _ hv3 hz1=>Q3 A4 (17,g2) x1 a1.2.l [] _ (K7<|fun _=>W) W (gq W) hv3 (U0 W (gq W) [(.sl (17,u9))] W (A1<|E3<|E2 ?_)))))
 cases hz1
 exact fA (gq W) u9 (B5 G_hit (.box (.cons (.of (V1<|V4 hv3).symm) .nil))<|N8 (gq W) trivial)
 rintro x1 g2 _ rfl qx1
 refine E3<|U4 ?_
 exact ⟨g2,(Sb.after qx1<|E0 ⟨.of W,trivial⟩<|B5 G_hit (.of W)<|B8 (gq W) trivial)⟩
 rintro _ ⟨g1,q1⟩
 refine B4 q1<|B0<|C0 (oS y1 (17,g1)) W (Q8 W G_hit W) (C0 (oS y1 (17,g1)) W W (A1<|B2 ?_))
 cases h
 exact A6 (.inr W) (B6 (B3 W)<|T9<|gq W) T8
def Au (v1:(List Int))(x1:(Int×Int)):Option (Stp (Int×Int) Int):=
  cond (decide (x1.2< (v1.length:Int))) ((C1 v1 x1.2).bind fun v2=>some (.go ((D3 (x1.1+v2)),(D3 (x1.2+1))))) (some (.out x1.1))
def Dh [Lp](p1:Curve):Option Int:=
  (Ff p1).bind fun v1=>(loop (Au v1) (0,0)).bind fun y1=>some y1
theorem HZ(p1 r)(h:Dh p1=some r):PCall prog 242 [(.agg [(.list (List.map Cp p1.Pts))])] (i64 r):=by
 refine C4 (fk func242 ntmps242 m0 (by with_unfolding_all rfl)) (nl W) ?_
 unfold Dh at h
 refine B4 (s0:=⟨T [(0,(.d _))],G []⟩) (F2 W W) ?_
 refine B0<|sm W<|sv W<|A1<|B0<|sv W<|A1<|A5<|B0<|sd W (B1 W G_hit W W)<|bs h fun v1 hv1 h=>A9 W W A3 (HY _ _ hv1) (.inl W) (sd W (D7 W)<|sv W<|A1<|bs h fun y1 hy1 h=>D9 (fun s=> ∃g1:Unit,Sb ⟨T [(3,(di y1))],G []⟩ s) ?_ ?_)
 refine A7<|E4 (Au v1) (fun (x1:(Int×Int)) (g2:Unit)=>⟨T [(3,(di x1.1)),(7,(dl A4 v1)),(8,(di (v1.length:Int))),(9,(di x1.2))],G []⟩) (0,0) () _ hy1 (F2 W W) ?_
 intro x1 g2 z1 hz1 ez1
 unfold Au at hz1
 refine B0<|sv W<|A1<|A5<|cc W hz1 (fun c1 hz1=> ?_)<|fun c1 hz1=> ?_
 refine A8<|A5<|A7<|B0<|bs hz1 fun _ hv2 hz1=>sd W (C5 W W hv2 W)<|sd W (C9 W hv2 W)<|sv W<|A1<|B7<|sv W<|sv W<|sv W<|sv W<|A1<|E3<|B7<|sv W<|sv W<|A1<|E2 ?_
 cases hz1
 exact ⟨W,(),(F2 W W)⟩
 refine C8 W ?_
 cases hz1
 obtain rfl:=ez1 _ rfl
 refine ⟨nofun,C6 W<|U4 ?_⟩
 exact ⟨(),(F2 W W)⟩
 rintro _ ⟨g1,q1⟩
 refine B4 q1<|B0<|sv W<|sv W<|A1<|B2 ?_
 cases h
 exact A6 (.inr W) (B6 (B3 W) C2) (.refl _)
def Cx [Lp](p1:Map)(p2:Int):Option Int:=
  (C1 p1.Lanes p2).bind fun v1=>(Dh v1.Curve_).bind fun v2=>some v2
theorem Pt(p1 p2 r)(h:Cx p1 p2=some r):PCall prog 207 [(.agg (P7 p1)),(i64 p2)] (i64 r):=by
 refine C4 (fk func207 ntmps207 m0 (by with_unfolding_all rfl)) (nl W) ?_
 unfold Cx at h
 refine B4 (s0:=⟨T [(0,(.d _)),(1,(.d _))],G []⟩) (F2 W W) ?_
 refine B0<|sm W<|sv W<|A1<|B0<|sq W<|sl W G_hit W<|sv W<|bs h fun _ hv1 h=>sd W (C5 W W hv1 W)<|sv W<|sd W (D4 W hv1 W W)<|bs h fun _ hv2 h=>A9 W W A3 (HZ _ _ hv2) (.inl W) (sv W<|A1<|B2 ?_)
 cases h
 exact A6 (.inr W) (B6 (B3 W) C2) (.refl _)
def R0 [Lp](p1:RoadsCheck)(v1:Zone)(x3:Int):Option (Stp Int (Sum Unit Int)):=
  cond (decide (x3< (v1.Parts.length:Int))) ((C1 v1.Parts x3).bind fun v5=>((cond (!((decide (v5.From<0))||(decide (v5.From≥v5.To)))) (Cx p1.Map_ v5.Lane_) (some default))).bind fun v6=>cond (((((decide (v5.From<0))||(decide (v5.From≥v5.To)))||(decide (v5.To>v6)))||(decide (v5.Rank<0)))||(decide (v5.Rank>100))) (some (.out (.inr 2))) (some (.go (D3 (x3+1))))) (some (.out (.inl ())))
def Fg (v1:Zone)(x2:((List Int)×Int)):Option (Stp ((List Int)×Int) (List Int)):=
  cond (decide (x2.2< (v1.Parts.length:Int))) ((C1 v1.Parts x2.2).bind fun v2=>(X6 x2.1 [v2.Lane_]).bind fun v3=>some (.go (v3,(D3 (x2.2+1))))) (some (.out x2.1))
def R3 [Lp](p1:RoadsCheck)(x1:Int):Option (Stp Int (Sum Unit Int)):=
  cond (decide (x1< (p1.Map_.Zones.length:Int))) ((C1 p1.Map_.Zones x1).bind fun v1=>cond (decide ((v1.Parts.length:Int)<2)) (some (.out (.inr 6))) (cond (decide ((v1.Parts.length:Int)>6)) (some (.out (.inr 8))) (cond ((decide (v1.Signal_<0))||(decide (v1.Signal_>(p1.Map_.Signals.length:Int)))) (some (.out (.inr 2))) ((loop (Fg v1) ([],0)).bind fun y2=>(Bs y2 0 (p1.Map_.Lanes.length:Int)).bind fun v4=>cond (!v4) (some (.out (.inr 11))) (thenS (loop (R0 p1 v1) 0) (fun _=>some (.go (D3 (x1+1)))) (fun r=>some (.out (.inr r)))))))) (some (.out (.inl ())))
def V6 [Lp](p1:RoadsCheck):Option Int:=
  thenS (loop (R3 p1) 0) (fun _=>some 0) (fun r=>some r)
theorem Yu(p1 r)(h:V6 p1=some r):PCall prog 152 [(.agg (P7 p1.Map_))] (i64 r):=by
 refine C4 (fk func152 ntmps152 (fun r=>if r==15 then [1003]else []) (by with_unfolding_all rfl)) (nl W) ?_
 unfold V6 at h
 refine B4 (s0:=⟨T [(0,(.d _))],G []⟩) (F2 W W) ?_
 refine lr<|fun u1 _=>sm W<|sv W<|A1<|A5<|B0<|sq W<|sp W W<|sl W G_hit W<|sd W (D7 W)<|sv W<|A1<|js h fun z1 hz1 h=>D9 (fun s=> ∃(y1:Unit) (g1:Unit),z1= .inl y1∧Sb ⟨T [],G []⟩ s) ?_ ?_
 refine A7<|E4 (R3 p1) (fun (x1:Int) (g2:Unit)=>⟨T [(1,(.ptr (1,u1) 0)),(13,(dl Gs p1.Map_.Zones)),(14,(di (p1.Map_.Zones.length:Int))),(15,(di x1))],G [((1,u1),some<|.box 212 (L4 p1.Map_))]⟩) 0 () _ hz1 (F2 W W) ?_
 intro x1 g2 z2 hz2 ez2
 unfold R3 at hz2
 refine B0<|sv W<|A1<|A5<|cc W hz2 (fun c1 hz2=> ?_)<|fun c1 hz2=> ?_
 refine A8<|A5<|A7<|lr<|fun u4 _=>bs hz2 fun v1 hv1 hz2=>sd W (C5 W W hv1 W)<|sd W (D4 W hv1 W W)<|sm W<|U0 W G_hit [(dl Bf v1.Parts),(di v1.Signal_)] W (A1<|A5<|B0<|sq W<|sl W G_hit W<|sd W (D7 W)<|sv W<|A1<|A7<|B0<|sv W<|sv W<|sv W<|A1<|cc W hz2 (fun c2 hz2=> ?_)<|fun c2 hz2=> ?_)
 refine B0<|sv W<|A1<|B2 ?_
 cases hz2
 obtain rfl:=ez2 _ rfl
 refine ⟨nofun,F4 ?_⟩
 rw [wE]at h
 cases h
 exact A6 (.inr W) (B6 (B3 W) C2) (.refl _)
 refine B0<|sv W<|sv W<|sv W<|A1<|cc W hz2 (fun c3 hz2=> ?_)<|fun c3 hz2=> ?_
 refine B0<|sv W<|A1<|B2 ?_
 cases hz2
 obtain rfl:=ez2 _ rfl
 refine ⟨nofun,F4 ?_⟩
 rw [wE]at h
 cases h
 exact A6 (.inr W) (B6 (B3 W) C2) (.refl _)
 refine B0<|sq W<|sl W G_hit W<|sv W<|sv W<|gp W (K6 W) (fun _=>W) (gf W (vl W G_hit W)<|gp W (K6 W) (fun _=>W) ?_)
 refine M8 _ (.ptr _ _) W (K6 W) (fun w4=>(by simp only [A2 w4];rfl)) ?_
 refine gf W (vl W (gq W) W)<|gf W (fun w6=>(D7<|A2 w6))<|gf W (fun w7=>(M7 (A2 w7) (A2 w7) W))<|sd W (O2 W W<|fun hc=>A2<|J4 hc)<|sv W<|A1<|cc W hz2 (fun c4 hz2=> ?_)<|fun c4 hz2=> ?_
 refine B0<|sv W<|A1<|B2 ?_
 cases hz2
 obtain rfl:=ez2 _ rfl
 refine ⟨nofun,F4 ?_⟩
 rw [wE]at h
 cases h
 exact A6 (.inr W) (B6 (B3 W) C2) (.refl _)
 refine A8<|E3<|B0<|sv W<|A1<|A5<|B0<|sq W<|sl W G_hit W<|sd W (D7 W)<|sv W<|A1<|bs hz2 fun y2 hy2 hz2=>D9 (fun s=> ∃g3:Nat,Sb ⟨T [(1,(.ptr (1,u1) 0)),(4,(.ptr (4,u4) 0)),(6,(oS y2 (52,g3))),(13,(dl Gs p1.Map_.Zones)),(14,(di (p1.Map_.Zones.length:Int))),(15,(di x1))],G [((1,u1),some<|.box 212 (L4 p1.Map_)),((4,u4),some<|.box 117 [(dl Bf v1.Parts),(di v1.Signal_)]),((52,g3),oB 3 1 A4 y2)]⟩ s) ?_ ?_
 refine A7<|E4 (Fg v1) (fun (x2:((List Int)×Int)) (g4:Nat)=>⟨T [(1,(.ptr (1,u1) 0)),(4,(.ptr (4,u4) 0)),(6,(oS x2.1 (52,g4))),(13,(dl Gs p1.Map_.Zones)),(14,(di (p1.Map_.Zones.length:Int))),(15,(di x1)),(42,(dl Bf v1.Parts)),(43,(di (v1.Parts.length:Int))),(44,(di x2.2))],G [((1,u1),some<|.box 212 (L4 p1.Map_)),((4,u4),some<|.box 117 [(dl Bf v1.Parts),(di v1.Signal_)]),((52,g4),oB 3 1 A4 x2.1)]⟩) ([],0) 0 _ hy2 (E0 (Z7 W)<|sg W<|B5 G_hit (.of W)<|S5 trivial) ?_
 intro x2 g4 z3 hz3 ez3
 unfold Fg at hz3
 refine B0<|sv W<|A1<|A5<|cc W hz3 (fun c5 hz3=> ?_)<|fun c5 hz3=> ?_
 refine A8<|A5<|A7<|B0<|bs hz3 fun v2 hv2 hz3=>sd W (C5 W W hv2 W)<|sd W (D4 W hv2 W W)<|sm W<|U0 W G_hit (Tn v2) W (A1<|Br fun u16 _=>C0 (oS x2.1 (52,g4)) W W (sq W<|sl W G_hit W<|C0 (dl A4 [v2.Lane_]) W W (bs hz3 fun _ hv3 hz3=>Q3 A4 (52,g4) x2.1 v2.Lane_ [] _ (K7<|fun _=>W) W (gq W) hv3 (ss W<|A1<|E3<|B7<|sv W<|sv W<|A1<|E2 ?_))))
 cases hz3
 exact ⟨W,u16,(E0 ⟨.of W, .of W,(.of (V1<|V4 hv3).symm), .of W, .of W, .of W, .of W, .of W, .of W,trivial⟩<|sg W<|sg W<|N8 G_hit trivial)⟩
 refine C8 W ?_
 cases hz3
 obtain rfl:=ez3 _ rfl
 refine ⟨nofun,C6 W<|U4 ?_⟩
 exact ⟨g4,(E0 (Z7 W)<|B5 G_hit (.of W)<|sg W<|B8 (gq W) trivial)⟩
 rintro _ ⟨g3,q1⟩
 refine B4 q1<|A5<|B0<|C0 (oS y2 (52,g3)) W W (sq W<|sp W W<|sl W G_hit W<|sd W (D7 W)<|bs hz2 fun v4 hv4 hz2=>A9 W (E6 (T9<|gq W)<|rD<|rD G1) (.cons T8 (.cons (.refl _) A3)) (Qs _ _ _ _ hv4) (.inr W) (C0 (.d (bo (!v4))) W W (A1<|cc W hz2 (fun c6 hz2=> ?_)<|fun c6 hz2=> ?_)))
 refine B0<|sv W<|A1<|B2 ?_
 cases hz2
 obtain rfl:=ez2 _ rfl
 refine ⟨nofun,F4 ?_⟩
 rw [wE]at h
 cases h
 exact A6 (.inr W) (B6 (B3 W) C2) (.refl _)
 refine A8<|B0<|sq W<|sl W (gq W) W (sd W (D7 W)<|sv W<|A1<|js hz2 fun z4 hz4 hz2=>D9 (fun s=> ∃(y3:Unit) (g5:Unit),z4= .inl y3∧Sb ⟨T [(1,(.ptr (1,u1) 0)),(13,(dl Gs p1.Map_.Zones)),(14,(di (p1.Map_.Zones.length:Int))),(15,(di x1))],G [((1,u1),some<|.box 212 (L4 p1.Map_))]⟩ s) ?_ ?_)
 refine A7<|E4 (R0 p1 v1) (fun (x3:Int) (g6:Unit)=>⟨T [(1,(.ptr (1,u1) 0)),(13,(dl Gs p1.Map_.Zones)),(14,(di (p1.Map_.Zones.length:Int))),(15,(di x1)),(62,(dl Bf v1.Parts)),(63,(di (v1.Parts.length:Int))),(64,(di x3))],G [((1,u1),some<|.box 212 (L4 p1.Map_))]⟩) 0 () _ hz4 (F2 W W) ?_
 intro x3 g6 z5 hz5 ez5
 unfold R0 at hz5
 refine B0<|sv W<|A1<|A5<|cc W hz5 (fun c7 hz5=> ?_)<|fun c7 hz5=> ?_
 refine A8<|A5<|A7<|B0<|bs hz5 fun v5 hv5 hz5=>sd W (C5 W W hv5 W)<|sd W (D4 W hv5 W W)<|sm W<|U0 W G_hit (Tn v5) W (A1<|A5<|E7 W<|sq W<|sl W G_hit W<|sv W<|sv W<|gp W (K6 W) (fun _=>W) (gf W (vl W G_hit W)<|gp W (K6 W) (fun _=>W) (gf W (vl W G_hit W)<|gf W (fun w12=>(M7 (A2 w12) (A2 w12) W))<|sd W (O2 W W<|fun hc=>A2<|J4 hc)<|sv W<|gp W (K6 W) (fun _=>W) (gf W (vl W G_hit W)<|gp W (K6 W) (fun _=>W) (gf W (fun w16=>(B1 (A2 w16) (gq W) W W))<|gp W (K6 W) (fun _=>W) (gf W (vl W G_hit W)<|bs hz5 fun v6 hv6 hz5=> ?_))))))
 refine N6 _ (i64 v6) (K6 W) (fun w19=>⟨_,[(.d (.agg (P7 p1.Map_))),(di v5.Lane_)],_,_,(by simp only [A2 w19];rfl),W,A3,Pt _ _ _<|B9 w19 hv6,(.inl W)⟩) ?_
 refine gf W (fun w20=>(M7 (A2 w20) (A2 w20) W))<|sd W (O2 W W<|fun hc=>A2<|J4 hc)<|sv W<|gp W (K6 W) (fun _=>W) (gf W (vl W G_hit W)<|gf W (vb W W W)<|sd W (O2 W W<|fun hc=>A2<|J4 hc)<|sv W<|gp W (K6 W) (fun _=>W) (gf W (vl W G_hit W)<|gf W (vb W W W)<|sd W (O2 W W<|fun hc=>A2<|J4 hc)<|A1<|cc W hz5 (fun c8 hz5=> ?_)<|fun c8 hz5=> ?_))
 refine B0<|sv W<|A1<|B2 ?_
 cases hz5
 obtain rfl:=ez5 _ rfl
 refine ⟨nofun,F4 ?_⟩
 rw [wE]at hz2
 cases hz2
 obtain rfl:=ez2 _ rfl
 refine ⟨nofun,F4 ?_⟩
 rw [wE]at h
 cases h
 exact A6 (.inr W) (B6 (B3 W) C2) (.refl _)
 refine A8<|E3<|B7<|sv W<|sv W<|A1<|E2 ?_
 cases hz5
 exact ⟨W,(),(F2 W W)⟩
 refine C8 W ?_
 cases hz5
 obtain rfl:=ez5 _ rfl
 refine ⟨nofun,C6 W<|U4 ?_⟩
 exact ⟨_,(),W,(F2 W W)⟩
 rintro _ ⟨y3,g5,rfl,q2⟩
 rw [wD]at hz2
 refine E3<|B4 q2<|B7<|sv W<|sv W<|A1<|E2 ?_
 cases hz2
 exact ⟨W,(),(F2 W W)⟩
 refine C8 W ?_
 cases hz2
 obtain rfl:=ez2 _ rfl
 refine ⟨nofun,C6 W<|U4 ?_⟩
 exact ⟨_,(),W,(F2 W W)⟩
 rintro _ ⟨y1,g1,rfl,q3⟩
 rw [wD]at h
 refine B4 q3<|B0<|sv W<|A1<|B2 ?_
 cases h
 exact A6 (.inr W) (B6 (B3 W) C2) (.refl _)
def R4 [Lp](p1:RoadsCheck)(x1:Int):Option (Stp Int (Sum Unit Int)):=
  cond (decide (x1< (p1.Map_.Works.length:Int))) ((C1 p1.Map_.Works x1).bind fun v1=>cond ((decide (v1.Lane_<0))||(decide (v1.Lane_≥(p1.Map_.Lanes.length:Int)))) (some (.out (.inr 7))) ((C1 p1.Map_.Lanes v1.Lane_).bind fun v2=>(Fd v2.Kind).bind fun v3=>((cond (!((decide (v1.From<0))||(decide (v1.From>v1.To)))) (Cx p1.Map_ v1.Lane_) (some default))).bind fun v4=>((cond (!((((((decide (v1.From<0))||(decide (v1.From>v1.To)))||(decide (v1.To>v4)))||(decide (v1.Begin<0)))||(decide (v1.Begin≥v1.End)))||(decide (v1.End>1099511627776)))) (Dg v1.Limit 0 v3.1) (some default))).bind fun v5=>cond (((((((decide (v1.From<0))||(decide (v1.From>v1.To)))||(decide (v1.To>v4)))||(decide (v1.Begin<0)))||(decide (v1.Begin≥v1.End)))||(decide (v1.End>1099511627776)))||(!v5)) (some (.out (.inr 2))) (some (.go (D3 (x1+1)))))) (some (.out (.inl ())))
def V7 [Lp](p1:RoadsCheck):Option Int:=
  thenS (loop (R4 p1) 0) (fun _=>some 0) (fun r=>some r)
theorem Yv(p1 r)(h:V7 p1=some r):PCall prog 153 [(.agg (P7 p1.Map_))] (i64 r):=by
 refine C4 (fk func153 ntmps153 m0 (by with_unfolding_all rfl)) (nl W) ?_
 unfold V7 at h
 refine B4 (s0:=⟨T [(0,(.d _))],G []⟩) (F2 W W) ?_
 refine lr<|fun u1 _=>sm W<|sv W<|A1<|A5<|B0<|sq W<|sp W W<|sl W G_hit W<|sd W (D7 W)<|sv W<|A1<|js h fun z1 hz1 h=>D9 (fun s=> ∃(y1:Unit) (g1:Unit),z1= .inl y1∧Sb ⟨T [],G []⟩ s) ?_ ?_
 refine A7<|E4 (R4 p1) (fun (x1:Int) (g2:Unit)=>⟨T [(1,(.ptr (1,u1) 0)),(10,(dl Ut p1.Map_.Works)),(11,(di (p1.Map_.Works.length:Int))),(12,(di x1))],G [((1,u1),some<|.box 212 (L4 p1.Map_))]⟩) 0 () _ hz1 (F2 W W) ?_
 intro x1 g2 z2 hz2 ez2
 unfold R4 at hz2
 refine B0<|sv W<|A1<|A5<|cc W hz2 (fun c1 hz2=> ?_)<|fun c1 hz2=> ?_
 refine A8<|A5<|A7<|B0<|bs hz2 fun v1 hv1 hz2=>sd W (C5 W W hv1 W)<|sd W (D4 W hv1 W W)<|sm W<|U0 W G_hit (qC v1) W (A1<|A5<|B0<|sq W<|sl W G_hit W<|sv W<|sv W<|gp W (K6 W) (fun _=>W) (gf W (vl W G_hit W)<|gp W (K6 W) (fun _=>W) ?_))
 refine M8 _ (.ptr _ _) W (K6 W) (fun w4=>(by simp only [A2 w4];rfl)) ?_
 refine gf W (vl W (gq W) W)<|gf W (fun w6=>(D7<|A2 w6))<|gf W (fun w7=>(M7 (A2 w7) (A2 w7) W))<|sd W (O2 W W<|fun hc=>A2<|J4 hc)<|A1<|cc W hz2 (fun c2 hz2=> ?_)<|fun c2 hz2=> ?_
 refine B0<|sv W<|A1<|B2 ?_
 cases hz2
 obtain rfl:=ez2 _ rfl
 refine ⟨nofun,F4 ?_⟩
 rw [wE]at h
 cases h
 exact A6 (.inr W) (B6 (B3 W) C2) (.refl _)
 refine A8<|B0<|sq W<|sp W W<|sl W (gq W) W (sq W<|sl W G_hit W<|bs hz2 fun _ hv2 hz2=>sd W (C5 W W hv2 W)<|sv W<|sd W (C9 W hv2 W)<|bs hz2 fun v3 hv3 hz2=>A9 W W A3 (Mj _ _ hv3) (.inl W) (sv W<|sv W<|sv W<|sv W<|sv W<|sv W<|sv W<|A1<|A5<|E7 W<|sq W<|sl W G_hit W<|sv W<|sv W<|gp W (K6 W) (fun _=>W) (gf W (vl W G_hit W)<|gp W (K6 W) (fun _=>W) (gf W (vl W G_hit W)<|gf W (fun w12=>(M7 (A2 w12) (A2 w12) W))<|sd W (O2 W W<|fun hc=>A2<|J4 hc)<|sv W<|gp W (K6 W) (fun _=>W) (gf W (vl W G_hit W)<|gp W (K6 W) (fun _=>W) (gf W (fun w16=>(B1 (A2 w16) (gq W) W W))<|gp W (K6 W) (fun _=>W) (gf W (vl W G_hit W)<|bs hz2 fun v4 hv4 hz2=> ?_)))))))
 refine N6 _ (i64 v4) (K6 W) (fun w19=>⟨_,[(.d (.agg (P7 p1.Map_))),(di v1.Lane_)],_,_,(by simp only [A2 w19];rfl),W,A3,Pt _ _ _<|B9 w19 hv4,(.inl W)⟩) ?_
 refine gf W (fun w20=>(M7 (A2 w20) (A2 w20) W))<|sd W (O2 W W<|fun hc=>A2<|J4 hc)<|sv W<|gp W (K6 W) (fun _=>W) (gf W (vl W G_hit W)<|gf W (vb W W W)<|sd W (O2 W W<|fun hc=>A2<|J4 hc)<|sv W<|gp W (K6 W) (fun _=>W) (gf W (vl W G_hit W)<|gp W (K6 W) (fun _=>W) (gf W (vl W G_hit W)<|gf W (fun w28=>(M7 (A2 w28) (A2 w28) W))<|sd W (O2 W W<|fun hc=>A2<|J4 hc)<|sv W<|gp W (K6 W) (fun _=>W) (gf W (vl W G_hit W)<|gf W (vb W W W)<|sd W (O2 W W<|fun hc=>A2<|J4 hc)<|sv W<|gp W (K6 W) (fun _=>W) (gf W (vl W G_hit W)<|gf W (fun _=>W)<|bs hz2 fun v5 hv5 hz2=> ?_)))))
 refine N6 _ (bo v5) (K6 W) (fun w35=>⟨_,[(di v1.Limit),(di 0),(di v3.1)],_,_,(by simp only [A2 w35];rfl),W,A3,Eu _ _ _ _<|B9 w35 hv5,(.inl W)⟩) ?_
 refine M8 _ (.d (bo (!v5))) W (K6 W) (fun w36=>(by simp only [A2 w36];rfl)) ?_
 refine sd W (O2 W W<|fun hc=>A2<|J4 hc)<|A1<|cc W hz2 (fun c3 hz2=> ?_)<|fun c3 hz2=> ?_
 refine B0<|sv W<|A1<|B2 ?_
 cases hz2
 obtain rfl:=ez2 _ rfl
 refine ⟨nofun,F4 ?_⟩
 rw [wE]at h
 cases h
 exact A6 (.inr W) (B6 (B3 W) C2) (.refl _)
 refine A8<|E3<|B7<|sv W<|sv W<|A1<|E2 ?_
 cases hz2
 exact ⟨W,(),(F2 W W)⟩
 refine C8 W ?_
 cases hz2
 obtain rfl:=ez2 _ rfl
 refine ⟨nofun,C6 W<|U4 ?_⟩
 exact ⟨_,(),W,(F2 W W)⟩
 rintro _ ⟨y1,g1,rfl,q1⟩
 rw [wD]at h
 refine B4 q1<|B0<|sv W<|A1<|B2 ?_
 cases h
 exact A6 (.inr W) (B6 (B3 W) C2) (.refl _)
def T3 [Lp](v:Nat)(p1:RoadsCheck):Option Int:=
  cond (Nat.beq v 148) (As p1) (cond (Nat.beq v 149) (V5 p1) (cond (Nat.beq v 150) (U1 p1) (cond (Nat.beq v 151) (S6 p1) (cond (Nat.beq v 152) (V6 p1) (cond (Nat.beq v 153) (V7 p1) (none))))))
theorem Qg(v p1 r)(h:T3 v p1=some r):PCall prog v [(.agg [(i64 p1.Map_.Version),(.list (List.map Gr p1.Map_.Lanes)),(.list (List.map Gs p1.Map_.Zones)),(.list (List.map Nv p1.Map_.Signals)),(.list (List.map Ut p1.Map_.Works))])] (i64 r):=by
  unfold T3 at h
  rcases FW h with ⟨rfl,h⟩|⟨_,h⟩
  ·exact Vv _ r h
  rcases FW h with ⟨rfl,h⟩|⟨_,h⟩
  ·exact Yt _ r h
  rcases FW h with ⟨rfl,h⟩|⟨_,h⟩
  ·exact Xm _ r h
  rcases FW h with ⟨rfl,h⟩|⟨_,h⟩
  ·exact Vw _ r h
  rcases FW h with ⟨rfl,h⟩|⟨_,h⟩
  ·exact Yu _ r h
  rcases FW h with ⟨rfl,h⟩|⟨_,h⟩
  ·exact Yv _ r h
  cases h
def P0 [Lp](p1:Map)(x1:Int):Option (Stp Int (Sum Unit Int)):=
  cond (decide (x1< ([148,149,150,151,152,153].length:Int))) ((C1 [148,149,150,151,152,153] x1).bind fun v1=>(T3 v1 (RoadsCheck.mk p1)).bind fun v2=>cond (v2 !=0) (some (.out (.inr v2))) (some (.go (D3 (x1+1))))) (some (.out (.inl ())))
def Cf [Lp](p1:Map):Option Int:=
  thenS (loop (P0 p1) 0) (fun _=>some 0) (fun r=>some r)
theorem Sj(p1 r)(h:Cf p1=some r):PCall prog 71 [(.agg (P7 p1))] (i64 r):=by
 refine C4 (fk func71 ntmps71 (fun r=>if r==1 then [1000]else []) (by with_unfolding_all rfl)) (nl W) ?_
 unfold Cf at h
 refine B4 (s0:=⟨T [(0,(.d _))],G []⟩) (F2 W W) ?_
 refine lr<|fun u1 _=>sm W<|sv W<|A1<|A5<|B0<|C0 (dl rO [148,149,150,151,152,153]) W W (sd W (D7 W)<|sv W<|A1<|js h fun z1 hz1 h=>D9 (fun s=> ∃(y1:Unit) (g1:Unit),z1= .inl y1∧Sb ⟨T [],G []⟩ s) ?_ ?_)
 refine A7<|E4 (P0 p1) (fun (x1:Int) (g2:Unit)=>⟨T [(1,(.ptr (1,u1) 0)),(6,(dl rO [148,149,150,151,152,153])),(7,(di ([148,149,150,151,152,153].length:Int))),(8,(di x1))],G [((1,u1),some<|.box 33 (L4 p1))]⟩) 0 () _ hz1 (F2 W W) ?_
 intro x1 g2 z2 hz2 ez2
 unfold P0 at hz2
 refine B0<|sv W<|A1<|A5<|cc W hz2 (fun c1 hz2=> ?_)<|fun c1 hz2=> ?_
 refine A8<|A5<|A7<|B0<|bs hz2 fun _ hv1 hz2=>sd W (C5 W W hv1 W)<|sd W (C9 W hv1 W)<|sv W<|A1<|B0<|sv W<|sd W (B1 W G_hit W W)<|sv W<|bs hz2 fun _ hv2 hz2=>A9 W W A3 (Qg _ _ _ hv2) (.inl W) (sv W<|A1<|B0<|sv W<|sv W<|A1<|cc W hz2 (fun c2 hz2=> ?_)<|fun c2 hz2=> ?_)
 refine B0<|sv W<|sv W<|A1<|B2 ?_
 cases hz2
 obtain rfl:=ez2 _ rfl
 refine ⟨nofun,F4 ?_⟩
 rw [wE]at h
 cases h
 exact A6 (.inr W) (B6 (B3 W) C2) (.refl _)
 refine A8<|E3<|B7<|sv W<|sv W<|A1<|E2 ?_
 cases hz2
 exact ⟨W,(),(F2 W W)⟩
 refine C8 W ?_
 cases hz2
 obtain rfl:=ez2 _ rfl
 refine ⟨nofun,C6 W<|U4 ?_⟩
 exact ⟨_,(),W,(F2 W W)⟩
 rintro _ ⟨y1,g1,rfl,q1⟩
 rw [wD]at h
 refine B4 q1<|B0<|sv W<|A1<|B2 ?_
 cases h
 exact A6 (.inr W) (B6 (B3 W) C2) (.refl _)
def T4 (p1:(List Int))(p2:Int)(x1:Int):Option (Stp Int (Sum Unit Int)):=
  cond (decide (x1< (p1.length:Int))) ((C1 p1 x1).bind fun v1=>cond (p2==v1) (some (.out (.inr x1))) (some (.go (D3 (x1+1))))) (some (.out (.inl ())))
def R5 [Lp](p1:(List Int))(p2:Int):Option Int:=
  thenS (loop (T4 p1 p2) 0) (fun _=>some (-1)) (fun r=>some r)
theorem Nc(p1 p2 r)(h:R5 p1 p2=some r):PCall prog 244 [(.list (List.map A4 p1)),(i64 p2)] (i64 r):=by
 refine C4 (fk func244 ntmps244 m0 (by with_unfolding_all rfl)) (nl W) ?_
 unfold R5 at h
 refine B4 (s0:=⟨T [(0,(.d _)),(1,(.d _))],G []⟩) (F2 W W) ?_
 refine B0<|sv W<|A1<|A5<|B0<|sv W<|sd W (D7 W)<|sv W<|A1<|js h fun z1 hz1 h=>D9 (fun s=> ∃(y1:Unit) (g1:Unit),z1= .inl y1∧Sb ⟨T [],G []⟩ s) ?_ ?_
 refine A7<|E4 (T4 p1 p2) (fun (x1:Int) (g2:Unit)=>⟨T [(0,(dl A4 p1)),(1,(di p2)),(7,(di (p1.length:Int))),(8,(di x1))],G []⟩) 0 () _ hz1 (F2 W W) ?_
 intro x1 g2 z2 hz2 ez2
 unfold T4 at hz2
 refine B0<|sv W<|A1<|A5<|cc W hz2 (fun c1 hz2=> ?_)<|fun c1 hz2=> ?_
 refine A8<|A5<|A7<|B0<|sv W<|sv W<|A1<|B0<|sv W<|sv W<|sv W<|bs hz2 fun _ hv1 hz2=>sd W (C5 W W hv1 W)<|sd W (C9 W hv1 W)<|sv W<|A1<|cc W hz2 (fun c2 hz2=> ?_)<|fun c2 hz2=> ?_
 refine B0<|sv W<|sv W<|A1<|B2 ?_
 cases hz2
 obtain rfl:=ez2 _ rfl
 refine ⟨nofun,F4 ?_⟩
 rw [wE]at h
 cases h
 exact A6 (.inr W) (B6 (B3 W) C2) (.refl _)
 refine A8<|E3<|B7<|sv W<|sv W<|A1<|E2 ?_
 cases hz2
 exact ⟨W,(),(F2 W W)⟩
 refine C8 W ?_
 cases hz2
 obtain rfl:=ez2 _ rfl
 refine ⟨nofun,C6 W<|U4 ?_⟩
 exact ⟨_,(),W,(F2 W W)⟩
 rintro _ ⟨y1,g1,rfl,q1⟩
 rw [wD]at h
 refine B4 q1<|B0<|sv W<|A1<|B2 ?_
 cases h
 exact A6 (.inr W) (B6 (B3 W) C2) (.refl _)
def N4 [Lp](p1:(List Int))(p2:Int):Option Bool:=
  (R5 p1 p2).bind fun v1=>some (decide (v1≥0))
theorem Eb(p1 p2 r)(h:N4 p1 p2=some r):PCall prog 215 [(.list (List.map A4 p1)),(i64 p2)] (bo r):=by
 refine C4 (fk func215 ntmps215 m0 (by with_unfolding_all rfl)) (nl W) ?_
 unfold N4 at h
 refine B4 (s0:=⟨T [(0,(.d _)),(1,(.d _))],G []⟩) (F2 W W) ?_
 refine B0<|sv W<|A1<|B0<|sv W<|sv W<|bs h fun _ hv1 h=>A9 W W A3 (Nc _ _ _ hv1) (.inl W) (sv W<|sv W<|A1<|B2 ?_)
 cases h
 exact A6 (.inr W) (B6 (B3 W) C2) (.refl _)
def Av [Lp](p1:Map)(p2:Int)(x1:((List Int)×Int)):Option (Stp ((List Int)×Int) (List Int)):=
  cond (decide (x1.2< (p1.Lanes.length:Int))) ((C1 p1.Lanes x1.2).bind fun v1=>(N4 v1.Next p2).bind fun v2=>cond v2 ((X6 x1.1 [x1.2]).bind fun v3=>some (.go (v3,(D3 (x1.2+1))))) (some (.go (x1.1,(D3 (x1.2+1)))))) (some (.out x1.1))
def Fh [Lp](p1:Map)(p2:Int):Option (List Int):=
  (loop (Av p1 p2) ([],0)).bind fun y1=>some y1
theorem IA(p1 p2 r)(h:Fh p1 p2=some r):PCall prog 214 [(.agg (P7 p1)),(i64 p2)] (.list (List.map A4 r)):=by
 refine C4 (fk func214 ntmps214 (fun r=>if r==6 then [1002]else []) (by with_unfolding_all rfl)) (nl W) ?_
 unfold Fh at h
 refine B4 (s0:=⟨T [(0,(.d _)),(1,(.d _))],G []⟩) (F2 W W) ?_
 refine B0<|sm W<|sv W<|A1<|B0<|sv W<|A1<|A5<|B0<|sq W<|sl W G_hit W<|sd W (D7 W)<|sv W<|A1<|bs h fun y1 hy1 h=>D9 (fun s=> ∃g1:Nat,Sb ⟨T [(5,(oS y1 (23,g1)))],G [((23,g1),oB 3 1 A4 y1)]⟩ s) ?_ ?_
 refine A7<|E4 (Av p1 p2) (fun (x1:((List Int)×Int)) (g2:Nat)=>⟨T [(1,(di p2)),(5,(oS x1.1 (23,g2))),(9,(dl Gr p1.Lanes)),(10,(di (p1.Lanes.length:Int))),(11,(di x1.2))],G [((23,g2),oB 3 1 A4 x1.1)]⟩) ([],0) 0 _ hy1 (E0 (Z7 W)<|S5 trivial) ?_
 intro x1 g2 z1 hz1 ez1
 unfold Av at hz1
 refine B0<|sv W<|A1<|A5<|cc W hz1 (fun c1 hz1=> ?_)<|fun c1 hz1=> ?_
 refine A8<|A5<|A7<|B0<|sv W<|bs hz1 fun v1 hv1 hz1=>sd W (C5 W W hv1 W)<|sd W (D4 W hv1 W W)<|sm W<|sv W<|U0 W G_hit (EG v1) W (A1<|B0<|sq W<|sl W G_hit W<|sv W<|bs hz1 fun _ hv2 hz1=>A9 W W A3 (Eb _ _ _ hv2) (.inl W) (A1<|cc W hz1 (fun c2 hz1=> ?_)<|fun c2 hz1=> ?_))
 refine Br fun u7 _=>C0 (oS x1.1 (23,g2)) W W (sv W<|C0 (dl A4 [x1.2]) W W (bs hz1 fun _ hv3 hz1=>Q3 A4 (23,g2) x1.1 x1.2 [] _ (K7<|fun _=>W) W (gq W) hv3 (ss W<|A1<|E3<|B7<|sv W<|sv W<|A1<|E2 ?_)))
 cases hz1
 exact ⟨W,u7,(E0 ⟨.of W,(.of (V1<|V4 hv3).symm), .of W, .of W, .of W,trivial⟩<|N8 G_hit trivial)⟩
 refine A8<|E3<|B7<|sv W<|sv W<|A1<|E2 ?_
 cases hz1
 exact ⟨W,g2,(E0 (Z7 W)<|B8 (gq W) trivial)⟩
 refine C8 W ?_
 cases hz1
 obtain rfl:=ez1 _ rfl
 refine ⟨nofun,C6 W<|U4 ?_⟩
 exact ⟨g2,(E0 ⟨.of W,trivial⟩<|B8 G_hit trivial)⟩
 rintro _ ⟨g1,q1⟩
 refine B4 q1<|B0<|C0 (oS y1 (23,g1)) W W (C0 (oS y1 (23,g1)) W W (A1<|B2 ?_))
 cases h
 exact A6 (.inr W) (B6 (B3 W)<|T9 G_hit) T8
def Q4 [Lp](p1:Map)(v7:List Int)(x1:(Int×Int)):Option (Stp (Int×Int) (Sum Unit Int)):=
  cond (decide (x1.2< (v7.length:Int))) ((C1 v7 x1.2).bind fun v8=>(C1 p1.Lanes x1.1).bind fun v9=>(N4 v9.Next v8).bind fun v10=>cond (!v10) (some (.out (.inr 13))) (some (.go (v8,(D3 (x1.2+1)))))) (some (.out (.inl ())))
def X2 [Lp](p1:Map)(p2:(List Int)):Option Int:=
  (Cf p1).bind fun v1=>cond (v1 !=0) (some v1) (((cond (!(((p2.length:Int)==0)||(decide ((p2.length:Int)>8)))) (C1 p2 0) (some default))).bind fun v2=>((cond (!((((p2.length:Int)==0)||(decide ((p2.length:Int)>8)))||(decide (v2<0)))) (C1 p2 0) (some default))).bind fun v3=>((cond (!(((((p2.length:Int)==0)||(decide ((p2.length:Int)>8)))||(decide (v2<0)))||(decide (v3≥(p1.Lanes.length:Int))))) (C1 p2 0) (some default))).bind fun v4=>((cond (!(((((p2.length:Int)==0)||(decide ((p2.length:Int)>8)))||(decide (v2<0)))||(decide (v3≥(p1.Lanes.length:Int))))) (Fh p1 v4) (some default))).bind fun v5=>cond ((((((p2.length:Int)==0)||(decide ((p2.length:Int)>8)))||(decide (v2<0)))||(decide (v3≥(p1.Lanes.length:Int))))||(decide ((v5.length:Int)>0))) (some 13) ((C1 p2 0).bind fun v6=>(AJ p2 1 (p2.length:Int)).bind fun v7=>thenS (loop (Q4 p1 v7) (v6,0)) (fun _=>some 0) (fun r=>some r)))
theorem Rc(p1 p2 r)(h:X2 p1 p2=some r):PCall prog 154 [(.agg (P7 p1)),(.list (List.map A4 p2))] (i64 r):=by
 refine C4 (fk func154 ntmps154 m0 (by with_unfolding_all rfl)) (nl W) ?_
 unfold X2 at h
 refine B4 (s0:=⟨T [(0,(.d _)),(1,(.d _))],G []⟩) (F2 W W) ?_
 refine lr<|fun u1 _=>sm W<|sv W<|A1<|A5<|B0<|sd W (B1 W G_hit W W)<|bs h fun _ hv1 h=>A9 W W A3 (Sj _ _ hv1) (.inl W) (sv W<|A1<|B0<|sv W<|sv W<|A1<|cc W h (fun c1 h=> ?_)<|fun c1 h=> ?_)
 refine B0<|sv W<|sv W<|A1<|B2 ?_
 cases h
 exact A6 (.inr W) (B6 (B3 W) C2) (.refl _)
 refine A8<|A5<|A5<|E7 W<|sv W<|sd W (D7 W)<|sv W<|sv W<|gf W (fun _=>W)<|gf W (fun w2=>(D7<|A2 w2))<|gf W (vb W W W)<|sd W (O2 W W<|fun hc=>A2<|J4 hc)<|sv W<|gf W (fun _=>W)<|bs h fun _ hv2 h=>gf W (fun w5=>(C5 (A2 w5) W (B9 w5 hv2) W))<|gf W (fun w6=>(C9 (A2 w6) (B9 w6 hv2) W))<|gf W (vb W W W)<|sd W (O2 W W<|fun hc=>A2<|J4 hc)<|sv W<|gf W (fun _=>W)<|bs h fun _ hv3 h=>gf W (fun w9=>(C5 (A2 w9) W (B9 w9 hv3) W))<|gf W (fun w10=>(C9 (A2 w10) (B9 w10 hv3) W))<|gp W (K6 W) (fun _=>W) (gf W (vl W G_hit W)<|gf W (fun w13=>(D7<|A2 w13))<|gf W (fun w14=>(M7 (A2 w14) (A2 w14) W))<|sd W (O2 W W<|fun hc=>A2<|J4 hc)<|sv W<|gf W (fun _=>(B1 W G_hit W W))<|gf W (fun _=>W)<|bs h fun v4 hv4 h=>gf W (fun w17=>(C5 (A2 w17) W (B9 w17 hv4) W))<|gf W (fun w18=>(C9 (A2 w18) (B9 w18 hv4) W))<|bs h fun v5 hv5 h=> ?_)
 refine N6 _ (.list (List.map A4 v5)) (K6 W) (fun w19=>⟨_,[(.d (.agg (P7 p1))),(di v4)],_,_,(by simp only [A2 w19];rfl),W,A3,IA _ _ _<|B9 w19 hv5,(.inl W)⟩) ?_
 refine gf W (fun w20=>(D7<|A2 w20))<|gf W (vb W W W)<|sd W (O2 W W<|fun hc=>A2<|J4 hc)<|A1<|cc W h (fun c2 h=> ?_)<|fun c2 h=> ?_
 refine B0<|sv W<|A1<|B2 ?_
 cases h
 exact A6 (.inr W) (B6 (B3 W) C2) (.refl _)
 refine A8<|B0<|sv W<|bs h fun v6 hv6 h=>sd W (C5 W W hv6 W)<|sd W (C9 W hv6 W)<|sv W<|A1<|A5<|B0<|sv W<|bs h fun v7 hv7 h=>sd W (fD W (fun _=>W) (oA W) fE hv7)<|sd W (D7 W)<|sv W<|A1<|js h fun z1 hz1 h=>D9 (fun s=> ∃(y1:Unit) (g1:Unit),z1= .inl y1∧Sb ⟨T [],G []⟩ s) ?_ ?_
 refine A7<|E4 (Q4 p1 v7) (fun (x1:(Int×Int)) (g2:Unit)=>⟨T [(2,(.ptr (2,u1) 0)),(6,(di x1.1)),(50,(dl A4 v7)),(51,(di (v7.length:Int))),(52,(di x1.2))],G [((2,u1),some<|.box 33 (L4 p1))]⟩) (v6,0) () _ hz1 (F2 W W) ?_
 intro x1 g2 z2 hz2 ez2
 unfold Q4 at hz2
 refine B0<|sv W<|A1<|A5<|cc W hz2 (fun c3 hz2=> ?_)<|fun c3 hz2=> ?_
 refine A8<|A5<|A7<|B0<|bs hz2 fun _ hv8 hz2=>sd W (C5 W W hv8 W)<|sd W (C9 W hv8 W)<|sv W<|A1<|A5<|B0<|sq W<|sl W G_hit W<|sv W<|bs hz2 fun _ hv9 hz2=>sd W (C5 W W hv9 W)<|sv W<|sd W (C9 W hv9 W)<|sv W<|bs hz2 fun v10 hv10 hz2=>A9 W W A3 (Eb _ _ _ hv10) (.inl W) (C0 (.d (bo (!v10))) W W (A1<|cc W hz2 (fun c4 hz2=> ?_)<|fun c4 hz2=> ?_))
 refine B0<|sv W<|A1<|B2 ?_
 cases hz2
 obtain rfl:=ez2 _ rfl
 refine ⟨nofun,F4 ?_⟩
 rw [wE]at h
 cases h
 exact A6 (.inr W) (B6 (B3 W) C2) (.refl _)
 refine A8<|B7<|sv W<|sv W<|A1<|E3<|B7<|sv W<|sv W<|A1<|E2 ?_
 cases hz2
 exact ⟨W,(),(F2 W W)⟩
 refine C8 W ?_
 cases hz2
 obtain rfl:=ez2 _ rfl
 refine ⟨nofun,C6 W<|U4 ?_⟩
 exact ⟨_,(),W,(F2 W W)⟩
 rintro _ ⟨y1,g1,rfl,q1⟩
 rw [wD]at h
 refine B4 q1<|B0<|sv W<|A1<|B2 ?_
 cases h
 exact A6 (.inr W) (B6 (B3 W) C2) (.refl _)
def W8 [Lp](p1:Map)(p2:(List Int))(x1:(Int× ((List Int)×Int))):Option (Stp (Int× ((List Int)×Int)) ((List Int)×Int)):=
  cond (decide (x1.1< (p2.length:Int))) ((C1 p2 x1.1).bind fun v2=>(X6 x1.2.1 [x1.2.2]).bind fun v3=>(Cx p1 v2).bind fun v4=>some (.go ((D3 (x1.1+1)),(v3,(D3 (x1.2.2+v4)))))) (some (.out x1.2))
def Af [Lp](p1:Map)(p2:(List Int)):Option RoadsWay:=
  (X2 p1 p2).bind fun v1=>cond (v1 !=0) (some (RoadsWay.mk (Map.mk 0 [] [] [] []) [] [] 0)) ((loop (W8 p1 p2) (0,([],0))).bind fun y1=>some (RoadsWay.mk p1 p2 y1.1 y1.2))
theorem Mk(p1 p2 r)(h:Af p1 p2=some r):PCall prog 205 [(.agg (P7 p1)),(.list (List.map A4 p2))] (.agg (ZZ r)):=by
 refine C4 (fk func205 ntmps205 (fun r=>if r==7 then [1004]else []) (by with_unfolding_all rfl)) (nl W) ?_
 unfold Af at h
 refine B4 (s0:=⟨T [(0,(.d _)),(1,(.d _))],G []⟩) (F2 W W) ?_
 refine lr<|fun u1 _=>sm W<|sm W<|A1<|A5<|B0<|sd W (B1 W (gq W) W W)<|sv W<|bs h fun _ hv1 h=>A9 W W A3 (Rc _ _ _ hv1) (.inl W) (sv W<|A1<|cc W h (fun c1 h=> ?_)<|fun c1 h=> ?_)
 refine B0<|sv W<|U0 W G_hit [(di 0),(.d .nilS),(.d .nilS),(.d .nilS),(.d .nilS),(.d .nilS),(.d .nilS),(di 0)] W (A1<|B2 ?_)
 cases h
 exact A6 (.inr W) (B6 (K2 W G_hit (nl W) W) C2) (.agg (ca W<|.cons ⟨DLe.nil,W⟩ (.cons ⟨DLe.nil,W⟩ (.cons ⟨DLe.nil,W⟩ (.cons ⟨DLe.nil,W⟩ (.cons ⟨DLe.nil,W⟩ (.cons ⟨DLe.nil,W⟩ (cz W))))))))
 refine A8<|lr<|fun u4 _=>sd W (B1 W (gq W) W W)<|sv W<|sv W<|sm W<|U0 W G_hit ((L4 p1)++ [(dl A4 p2),(.d .nilS),(di 0)]) W (A1<|A5<|B0<|sv W<|sd W (D7 W)<|sv W<|A1<|bs h fun y1 hy1 h=>D9 (fun s=> ∃g1:Nat,Sb ⟨T [(4,(.ptr (4,u1) 0)),(5,(.ptr (5,u4) 0))],G [((4,u1),some<|.box 260 [(di 0),(.d .nilS),(.d .nilS),(.d .nilS),(.d .nilS),(.d .nilS),(.d .nilS),(di 0)]),((5,u4),some<|.box 260 ((L4 p1)++ [(dl A4 p2),(oS y1.1 (27,g1)),(di y1.2)])),((27,g1),oB 2 1 A4 y1.1)]⟩ s) ?_ ?_)
 refine A7<|E4 (W8 p1 p2) (fun (x1:(Int× ((List Int)×Int))) (g2:Nat)=>⟨T [(2,(.ptr (2,u1) 0)),(4,(.ptr (4,u1) 0)),(5,(.ptr (5,u4) 0)),(16,(dl A4 p2)),(17,(di (p2.length:Int))),(18,(di x1.1))],G [((2,u1),some<|.box 33 (L4 p1)),((4,u1),some<|.box 260 [(di 0),(.d .nilS),(.d .nilS),(.d .nilS),(.d .nilS),(.d .nilS),(.d .nilS),(di 0)]),((5,u4),some<|.box 260 ((L4 p1)++ [(dl A4 p2),(oS x1.2.1 (27,g2)),(di x1.2.2)])),((27,g2),oB 2 1 A4 x1.2.1)]⟩) (0,([],0)) 0 _ hy1 (E0 (Z7 W)<|sg W<|sg W<|B5 G_hit (.of W)<|S5 trivial) ?_
 intro x1 g2 z1 hz1 ez1
 unfold W8 at hz1
 refine B0<|sv W<|A1<|A5<|cc W hz1 (fun c2 hz1=> ?_)<|fun c2 hz1=> ?_
 refine A8<|A5<|A7<|B0<|bs hz1 fun _ hv2 hz1=>sd W (C5 W W hv2 W)<|sd W (C9 W hv2 W)<|sv W<|A1<|lr<|fun u8 _=>sq W<|C0 (oS x1.2.1 (27,g2)) W (Q8 W (gq W) W) (sq W<|sl W (gq W) W (C0 (dl A4 [x1.2.2]) W W (bs hz1 fun _ hv3 hz1=>Q3 A4 (27,g2) x1.2.1 x1.2.2 [] _ (K7<|fun _=>W) W (gq W) hv3 (sq W<|U0 W (gq W) ((L4 p1)++ [(dl A4 p2),(.sl (27,u8)),(di x1.2.2)]) W (A1<|E7 W<|sq W<|sl W G_hit W<|sd W (B1 W (gq W) W W)<|sv W<|bs hz1 fun v4 hv4 hz1=>A9 W W A3 (Pt _ _ _ hv4) (.inl W) (sv W<|sq W<|U0 W G_hit ((L4 p1)++ [(dl A4 p2),(.sl (27,u8)),(di<|D3 (x1.2.2+v4))]) W (A1<|E3<|B7<|sv W<|sv W<|A1<|E2 ?_)))))))
 cases hz1
 exact ⟨W,u8,(E0 (Z7 W)<|sg W<|sg W<|B5 G_hit (.box (cv<|cv<|cv<|cv<|cv<|cv<|.cons (.of (V1<|V4 hv3).symm) cw))<|N8 (gq W) trivial)⟩
 refine C8 W ?_
 cases hz1
 obtain rfl:=ez1 _ rfl
 refine ⟨nofun,C6 W<|U4 ?_⟩
 exact ⟨g2,(E0 (Z7 W)<|sg W<|sg W<|B8 (gq W) trivial)⟩
 rintro _ ⟨g1,q1⟩
 refine B4 q1<|B0<|C0 (X5 ((L4 p1)++ [(dl A4 p2),(oS y1.1 (27,g1)),(di y1.2)])) W (B1 W (gq W) W W) (Jz _ _ _ _ _ (X1 _) W W G_hit (nl W) ((L4 p1)++ [(dl A4 p2),(oS y1.1 (27,g1)),(di y1.2)]) W (A1<|B2 ?_))
 cases h
 exact A6 (.inr W) (B6 (K2 W G_hit (nl W) W)<|Ns<|rD<|rD<|rD<|rD<|rD<|rD<|E6 (T9<|gq W)<|rD G1) (.agg (ca W<|ca W<|ca W<|ca W<|ca W<|ca W<|.cons ⟨T8,W⟩ (cz W)))
def V8 [Lp](p1:Map)(p2:(List Int)):Option Int:=
  (Af p1 p2).bind fun v1=>some v1.length
theorem Qh(p1 p2 r)(h:V8 p1 p2=some r):PCall prog 155 [(.agg (P7 p1)),(.list (List.map A4 p2))] (i64 r):=by
 refine C4 (fk func155 ntmps155 m0 (by with_unfolding_all rfl)) (nl W) ?_
 unfold V8 at h
 refine B4 (s0:=⟨T [(0,(.d _)),(1,(.d _))],G []⟩) (F2 W W) ?_
 refine B0<|sm W<|sv W<|A1<|B0<|sd W (B1 W G_hit W W)<|sv W<|bs h fun _ hv1 h=>A9 W W A3 (Mk _ _ _ hv1) (.inl W) (sv W<|sv W<|A1<|B2 ?_)
 cases h
 exact A6 (.inr W) (B6 (B3 W) C2) (.refl _)
def Bu [Lp](p1:Map)(p2:(List Int)):Option (List Int):=
  (Af p1 p2).bind fun v1=>some v1.starts
theorem Qt(p1 p2 r)(h:Bu p1 p2=some r):PCall prog 139 [(.agg (P7 p1)),(.list (List.map A4 p2))] (.list (List.map A4 r)):=by
 refine C4 (fk func139 ntmps139 m0 (by with_unfolding_all rfl)) (nl W) ?_
 unfold Bu at h
 refine B4 (s0:=⟨T [(0,(.d _)),(1,(.d _))],G []⟩) (F2 W W) ?_
 refine B0<|sm W<|sv W<|A1<|B0<|sd W (B1 W G_hit W W)<|sv W<|bs h fun _ hv1 h=>A9 W W A3 (Mk _ _ _ hv1) (.inl W) (sv W<|sv W<|A1<|B2 ?_)
 cases h
 exact A6 (.inr W) (B6 (B3 W) C2) (.refl _)
def Jp (p2:Agent)(v1:(List Int))(x1:Int):Option (Stp Int Int):=
  (C1 v1 x1).bind fun v2=>cond (decide (v2>p2.S)) (some (.go (D3 (x1 - 1)))) (some (.out x1))
def Ik [Lp](p1:Map)(p2:Agent):Option (Int×Int):=
  (Bu p1 p2.Route).bind fun v1=>(loop (Jp p2 v1) (D3 ((v1.length:Int) - 1))).bind fun y1=>(C1 p2.Route y1).bind fun v3=>(C1 v1 y1).bind fun v4=>some (v3,(D3 (p2.S - v4)))
theorem BB(p1 p2 r)(h:Ik p1 p2=some r):PCall prog 156 [(.agg (P7 p1)),(.agg (D0 p2))] (.tup [(i64 r.1),(i64 r.2)]):=by
 refine C4 (fk func156 ntmps156 m0 (by with_unfolding_all rfl)) (nl W) ?_
 unfold Ik at h
 refine B4 (s0:=⟨T [(0,(.d _)),(1,(.d _))],G []⟩) (F2 W W) ?_
 refine lr<|fun u1 _=>sm W<|sm W<|sv W<|sv W<|A1<|B0<|sd W (B1 W (gq W) W W)<|sq W<|sl W G_hit W<|bs h fun v1 hv1 h=>A9 W W A3 (Qt _ _ _ hv1) (.inl W) (sv W<|A1<|B0<|sv W<|sd W (D7 W)<|sv W<|sv W<|A1<|A5<|bs h fun y1 hy1 h=>D9 (fun s=> ∃g1:Unit,Sb ⟨T [(3,(.ptr (3,u1) 0)),(6,(dl A4 v1)),(7,(di y1))],G [((3,u1),some<|.box 45 (T0 p2))]⟩ s) ?_ ?_)
 refine A7<|E4 (Jp p2 v1) (fun (x1:Int) (g2:Unit)=>⟨T [(3,(.ptr (3,u1) 0)),(6,(dl A4 v1)),(7,(di x1))],G [((3,u1),some<|.box 45 (T0 p2))]⟩) (D3 ((v1.length:Int) - 1)) () _ hy1 (F2 W W) ?_
 intro x1 g2 z1 hz1 ez1
 unfold Jp at hz1
 refine A5<|A5<|E7 W<|sv W<|sv W<|bs hz1 fun _ hv2 hz1=>sd W (C5 W W hv2 W)<|sd W (C9 W hv2 W)<|sq W<|sl W G_hit W<|sv W<|A1<|cc W hz1 (fun c1 hz1=> ?_)<|fun c1 hz1=> ?_
 refine A8<|A7<|B7<|sv W<|sv W<|sv W<|A1<|E3<|E2 ?_
 cases hz1
 exact ⟨W,(),(F2 W W)⟩
 refine C8 W ?_
 cases hz1
 obtain rfl:=ez1 _ rfl
 refine ⟨nofun,C6 W<|U4 ?_⟩
 exact ⟨(),(F2 W W)⟩
 rintro _ ⟨g1,q1⟩
 refine B4 q1<|A5<|E7 W<|sq W<|sl W G_hit W<|sv W<|bs h fun _ hv3 h=>sd W (C5 W W hv3 W)<|sd W (C9 W hv3 W)<|sq W<|sl W G_hit W<|sv W<|sv W<|bs h fun _ hv4 h=>sd W (C5 W W hv4 W)<|sd W (C9 W hv4 W)<|sv W<|sv W<|sv W<|A1<|B2 ?_
 cases h
 exact A6 (.inr W) (Na (B3 W) (B3 W) C2 C2) (.refl _)
def Ag (p1:Agent):Option WorldSpan:=
  some (WorldSpan.mk (D3 (p1.S - p1.Len)) p1.S)
theorem Jq(p1 r)(h:Ag p1=some r):PCall prog 140 [(.agg (D0 p1))] (.agg [(i64 r.from_),(i64 r.to)]):=by
 refine C4 (fk func140 ntmps140 m0 (by with_unfolding_all rfl)) (nl W) ?_
 unfold Ag at h
 refine B4 (s0:=⟨T [(0,(.d _))],G []⟩) (F2 W W) ?_
 refine B0<|sm W<|sn W W<|A1<|B0<|sq W<|sl W (gq W) W (sq W<|sl W (gq W) W (sv W<|sq W<|sl W (gq W) W (sv W<|U0 W G_hit [(di<|D3 (p1.S - p1.Len)),(di p1.S)] W (A1<|B2 ?_))))
 cases h
 exact A6 (.inr W) (B6 (K2 W G_hit (nl W) W) C2) (.refl _)
def Ga [Lp](p1:Map)(p2:Agent):Option Bool:=
  (Ag p2).bind fun v1=>(V8 p1 p2.Route).bind fun v2=>some (decide (v1.from_>v2))
theorem BC(p1 p2 r)(h:Ga p1 p2=some r):PCall prog 158 [(.agg (P7 p1)),(.agg (D0 p2))] (bo r):=by
 refine C4 (fk func158 ntmps158 m0 (by with_unfolding_all rfl)) (nl W) ?_
 unfold Ga at h
 refine B4 (s0:=⟨T [(0,(.d _)),(1,(.d _))],G []⟩) (F2 W W) ?_
 refine B0<|sm W<|sn W W<|sv W<|A1<|A5<|E7 W<|sd W (B1 W G_hit W W)<|bs h fun _ hv1 h=>A9 W W A3 (Jq _ _ hv1) (.inl W) (sv W<|sd W (B1 W (gq W) W W)<|sq W<|sl W G_hit W<|bs h fun _ hv2 h=>A9 W W A3 (Qh _ _ _ hv2) (.inl W) (sv W<|sv W<|A1<|B2 ?_))
 cases h
 exact A6 (.inr W) (B6 (B3 W) C2) (.refl _)
def Z2 [Lp](p1:Map)(p2:State)(p3:Int):Option Int:=
  (C1 p2.Agents p3).bind fun v1=>(X2 p1 v1.Route).bind fun v2=>cond (v2 !=0) (some 13) (((cond (!(((((decide (v1.Len<300))||(decide (v1.Len>20000)))||(decide (v1.Begin<0)))||(decide (v1.Begin>1099511627776)))||(decide (v1.S<0)))) (V8 p1 v1.Route) (some default))).bind fun v3=>cond ((((((decide (v1.Len<300))||(decide (v1.Len>20000)))||(decide (v1.Begin<0)))||(decide (v1.Begin>1099511627776)))||(decide (v1.S<0)))||(decide (v1.S>(D3 ((D3 (v3+v1.Len))+2000))))) (some 2) ((Ik p1 v1).bind fun v4=>(C1 p1.Lanes v4.1).bind fun v5=>(Fd v5.Kind).bind fun v6=>cond ((decide (v1.V<0))||(decide (v1.V>v6.1))) (some 2) ((Ga p1 v1).bind fun v7=>cond ((!(v1.Gone==v7))||(((decide (v1.Begin>p2.Tick))&& (v1.S !=0))||((p3==0)&& (v1.Begin !=0)))) (some 10) (some 0))))
theorem AL(p1 p2 p3 r)(h:Z2 p1 p2 p3=some r):PCall prog 72 [(.agg (P7 p1)),(.agg (Bc p2)),(i64 p3)] (i64 r):=by
 refine C4 (fk func72 ntmps72 m0 (by with_unfolding_all rfl)) (nl W) ?_
 unfold Z2 at h
 refine B4 (s0:=⟨T [(0,(.d _)),(1,(.d _)),(2,(.d _))],G []⟩) (F2 W W) ?_
 refine B0<|sm W<|sn W W<|sv W<|A1<|B0<|sq W<|sl W G_hit W<|sv W<|bs h fun v1 hv1 h=>sd W (C5 W W hv1 W)<|sd W (D4 W hv1 W W)<|sm W<|U0 W G_hit (T0 v1) W (A1<|A5<|B0<|sd W (B1 W (gq W) W W)<|sq W<|sl W G_hit W<|bs h fun _ hv2 h=>A9 W W A3 (Rc _ _ _ hv2) (.inl W) (sv W<|A1<|cc W h (fun c1 h=> ?_)<|fun c1 h=> ?_))
 refine B0<|sv W<|A1<|B2 ?_
 cases h
 exact A6 (.inr W) (B6 (B3 W) C2) (.refl _)
 refine A8<|A5<|A5<|E7 W<|sq W<|sl W G_hit W<|sv W<|sv W<|gp W (K6 W) (fun _=>W) (gf W (vl W G_hit W)<|gf W (vb W W W)<|sd W (O2 W W<|fun hc=>A2<|J4 hc)<|sv W<|gp W (K6 W) (fun _=>W) (gf W (vl W G_hit W)<|gf W (vb W W W)<|sd W (O2 W W<|fun hc=>A2<|J4 hc)<|sv W<|gp W (K6 W) (fun _=>W) (gf W (vl W G_hit W)<|gf W (vb W W W)<|sd W (O2 W W<|fun hc=>A2<|J4 hc)<|sv W<|gp W (K6 W) (fun _=>W) (gf W (vl W G_hit W)<|gf W (vb W W W)<|sd W (O2 W W<|fun hc=>A2<|J4 hc)<|sv W<|gp W (K6 W) (fun _=>W) (gf W (vl W G_hit W)<|gf W (fun _=>(B1 W (gq W) W W))<|gp W (K6 W) (fun _=>W) (gf W (vl W G_hit W)<|bs h fun v3 hv3 h=> ?_))))))
 refine N6 _ (i64 v3) (K6 W) (fun w18=>⟨_,[(.d (.agg (P7 p1))),(dl A4 v1.Route)],_,_,(by simp only [A2 w18];rfl),W,A3,Qh _ _ _<|B9 w18 hv3,(.inl W)⟩) ?_
 refine gp W (K6 W) (fun _=>W) (gf W (vl W G_hit W)<|gf W (fun w21=>(M7 (A2 w21) (A2 w21) W))<|gf W (vb W W W)<|gf W (fun w23=>(M7 (A2 w23) (A2 w23) W))<|sd W (O2 W W<|fun hc=>A2<|J4 hc)<|A1<|cc W h (fun c2 h=> ?_)<|fun c2 h=> ?_)
 refine B0<|sv W<|A1<|B2 ?_
 cases h
 exact A6 (.inr W) (B6 (B3 W) C2) (.refl _)
 refine A8<|B0<|sd W (B1 W (gq W) W W)<|sd W (B1 W G_hit W W)<|bs h fun _ hv4 h=>A9 W W A3 (BB _ _ _ hv4) (.inl W) (sv W<|sv W<|sv W<|sv W<|sv W<|A1<|A5<|B0<|sq W<|sl W (gq W) W (sv W<|bs h fun _ hv5 h=>sd W (C5 W W hv5 W)<|sv W<|sd W (C9 W hv5 W)<|bs h fun _ hv6 h=>A9 W W A3 (Mj _ _ hv6) (.inl W) (sv W<|sv W<|sv W<|sv W<|sv W<|sv W<|sv W<|A1<|B0<|sq W<|sl W G_hit W<|sv W<|sv W<|gp W (K6 W) (fun _=>W) (gf W (vl W G_hit W)<|gf W (fun _=>W)<|gf W (fun w27=>(M7 (A2 w27) (A2 w27) W))<|sd W (O2 W W<|fun hc=>A2<|J4 hc)<|A1<|cc W h (fun c3 h=> ?_)<|fun c3 h=> ?_))))
 refine B0<|sv W<|A1<|B2 ?_
 cases h
 exact A6 (.inr W) (B6 (B3 W) C2) (.refl _)
 refine A8<|B0<|sq W<|sl W G_hit W<|sq W<|sl W (gq W) W (sv W<|sv W<|gp W (M3 W) (fun _=>W) (gt W (vl W G_hit W)<|gt W (vb W W W)<|sa W W W<|sv W<|gf W (fun _=>W)<|gf W (vb W W W)<|gf W (fun w33=>(PQ<|A2 w33))<|M8 _ (.ptr _ _) W (V2 W) (fun _=>W) (gv W (V2 W) (vl W G_hit W) (gv W (V2 W) (vb W W W) (gf W (fun w37=>(HF (A2 w37) (fun hc=>A2<|DY w37 hc) W))<|sd W (O2 W W<|fun hc=>A2<|J4 hc)<|sv W<|A1<|A5<|A5<|E7 W<|sq W<|sl W G_hit W<|sd W (B1 W (gq W) W W)<|sd W (B1 W G_hit W W)<|bs h fun v7 hv7 h=>A9 W W A3 (BC _ _ _ hv7) (.inl W) (C0 (.d (bo (!(v1.Gone==v7)))) W W (sv W<|gf W (fun _=>W)<|sd W (O2 W W<|fun hc=>A2<|J4 hc)<|A1<|cc W h (fun c4 h=> ?_)<|fun c4 h=> ?_)))))))
 refine B0<|sv W<|A1<|B2 ?_
 cases h
 exact A6 (.inr W) (B6 (B3 W) C2) (.refl _)
 refine A8<|B0<|sv W<|A1<|B2 ?_
 cases h
 exact A6 (.inr W) (B6 (B3 W) C2) (.refl _)
def Jr (p1:Int):Option Bool:=
  some (p1 !=p1)
theorem Uv(p1 r)(h:Jr p1=some r):PCall prog 216 [(i64 p1)] (bo r):=by
 refine C4 (fk func216 ntmps216 m0 (by with_unfolding_all rfl)) (nl W) ?_
 unfold Jr at h
 refine B4 (s0:=⟨T [(0,(.d _))],G []⟩) (F2 W W) ?_
 refine B0<|sv W<|A1<|B0<|sv W<|sv W<|sv W<|sv W<|A1<|B2 ?_
 cases h
 exact A6 (.inr W) (B6 (B3 W) C2) (.refl _)
def Y7 (p1:Int)(p2:Int):Option Int:=
  (Jr p1).bind fun v1=>(Jr p2).bind fun v2=>cond v1 (cond v2 (some 0) (some (-1))) (cond v2 (some 1) (cond (decide (p1<p2)) (some (-1)) (cond (decide (p1>p2)) (some 1) (some 0))))
theorem Il(p1 p2 r)(h:Y7 p1 p2=some r):PCall prog 160 [(i64 p1),(i64 p2)] (i64 r):=by
 refine C4 (fk func160 ntmps160 m0 (by with_unfolding_all rfl)) (nl W) ?_
 unfold Y7 at h
 refine B4 (s0:=⟨T [(0,(.d _)),(1,(.d _))],G []⟩) (F2 W W) ?_
 refine B0<|sv W<|A1<|B0<|sv W<|bs h fun _ hv1 h=>A9 W W A3 (Uv _ _ hv1) (.inl W) (sv W<|A1<|B0<|sv W<|bs h fun _ hv2 h=>A9 W W A3 (Uv _ _ hv2) (.inl W) (sv W<|A1<|A5<|B0<|sv W<|A1<|cc W h (fun c1 h=> ?_)<|fun c1 h=> ?_))
 refine A5<|B0<|sv W<|A1<|cc W h (fun c2 h=> ?_)<|fun c2 h=> ?_
 refine B0<|sv W<|A1<|B2 ?_
 cases h
 exact A6 (.inr W) (B6 (B3 W) C2) (.refl _)
 refine A8<|B0<|sv W<|A1<|B2 ?_
 cases h
 exact A6 (.inr W) (B6 (B3 W) C2) (.refl _)
 refine A8<|A5<|B0<|sv W<|A1<|cc W h (fun c3 h=> ?_)<|fun c3 h=> ?_
 refine B0<|sv W<|A1<|B2 ?_
 cases h
 exact A6 (.inr W) (B6 (B3 W) C2) (.refl _)
 refine A8<|A5<|B0<|sv W<|sv W<|sv W<|A1<|cc W h (fun c4 h=> ?_)<|fun c4 h=> ?_
 refine B0<|sv W<|A1<|B2 ?_
 cases h
 exact A6 (.inr W) (B6 (B3 W) C2) (.refl _)
 refine A8<|A5<|B0<|sv W<|sv W<|sv W<|A1<|cc W h (fun c5 h=> ?_)<|fun c5 h=> ?_
 refine B0<|sv W<|A1<|B2 ?_
 cases h
 exact A6 (.inr W) (B6 (B3 W) C2) (.refl _)
 refine A8<|B0<|sv W<|A1<|B2 ?_
 cases h
 exact A6 (.inr W) (B6 (B3 W) C2) (.refl _)
def Aa (p1:(List Int))(x1:Int):Option (Stp Int (Sum Unit Int)):=
  cond (decide (x1< (p1.length:Int))) ((C1 p1 x1).bind fun v1=>cond (v1 !=0) (some (.out (.inr v1))) (some (.go (D3 (x1+1))))) (some (.out (.inl ())))
def Bk [Lp](p1:(List Int)):Option Int:=
  thenS (loop (Aa p1) 0) (fun _=>some 0) (fun r=>some r)
theorem Ue(p1 r)(h:Bk p1=some r):PCall prog 159 [(.list (List.map A4 p1))] (i64 r):=by
 refine C4 (fk func159 ntmps159 m0 (by with_unfolding_all rfl)) (nl W) ?_
 unfold Bk at h
 refine B4 (s0:=⟨T [(0,(.d _))],G []⟩) (F2 W W) ?_
 refine B0<|sv W<|A1<|B0<|sv W<|A1<|A5<|B0<|sv W<|sd W (D7 W)<|sv W<|A1<|js h fun z1 hz1 h=>D9 (fun s=> ∃(y1:Unit) (g1:Unit),z1= .inl y1∧Sb ⟨T [(3,(di 0))],G []⟩ s) ?_ ?_
 refine A7<|E4 (Aa p1) (fun (x1:Int) (g2:Unit)=>⟨T [(3,(di 0)),(6,(dl A4 p1)),(7,(di (p1.length:Int))),(8,(di x1))],G []⟩) 0 () _ hz1 (F2 W W) ?_
 intro x1 g2 z2 hz2 ez2
 unfold Aa at hz2
 refine B0<|sv W<|A1<|A5<|cc W hz2 (fun c1 hz2=> ?_)<|fun c1 hz2=> ?_
 refine A8<|A5<|A7<|B0<|bs hz2 fun _ hv1 hz2=>sd W (C5 W W hv1 W)<|sd W (C9 W hv1 W)<|sv W<|A1<|B0<|sv W<|sv W<|sv W<|A1<|cc W hz2 (fun c2 hz2=> ?_)<|fun c2 hz2=> ?_
 refine B0<|sv W<|sv W<|A1<|B2 ?_
 cases hz2
 obtain rfl:=ez2 _ rfl
 refine ⟨nofun,F4 ?_⟩
 rw [wE]at h
 cases h
 exact A6 (.inr W) (B6 (B3 W) C2) (.refl _)
 refine A8<|E3<|B7<|sv W<|sv W<|A1<|E2 ?_
 cases hz2
 exact ⟨W,(),(F2 W W)⟩
 refine C8 W ?_
 cases hz2
 obtain rfl:=ez2 _ rfl
 refine ⟨nofun,C6 W<|U4 ?_⟩
 exact ⟨_,(),W,(F2 W W)⟩
 rintro _ ⟨y1,g1,rfl,q1⟩
 rw [wD]at h
 refine B4 q1<|B0<|sv W<|sv W<|A1<|B2 ?_
 cases h
 exact A6 (.inr W) (B6 (B3 W) C2) (.refl _)
def Dl [Lp](p1:Stay)(p2:Stay):Option Int:=
  (Y7 p1.Agent_ p2.Agent_).bind fun v1=>(Y7 p1.Zone_ p2.Zone_).bind fun v2=>(Bk [v1,v2]).bind fun v3=>some v3
theorem Sk(p1 p2 r)(h:Dl p1 p2=some r):PCall prog 73 [(.agg (J7 p1)),(.agg (J7 p2))] (i64 r):=by
 refine C4 (fk func73 ntmps73 (fun r=>if r==1 then [1010]else []) (by with_unfolding_all rfl)) (nl W) ?_
 unfold Dl at h
 refine B4 (s0:=⟨T [(0,(.d _)),(1,(.d _))],G []⟩) (F2 W W) ?_
 refine B0<|sm W<|sn W W<|sv W<|A1<|A5<|E7 W<|sq W<|sl W (gq W) W (sq W<|sl W G_hit W<|bs h fun v1 hv1 h=>A9 W W A3 (Il _ _ _ hv1) (.inl W) (sq W<|sl W (gq W) W (sq W<|sl W G_hit W<|bs h fun v2 hv2 h=>A9 W W A3 (Il _ _ _ hv2) (.inl W) (C0 (dl A4 [v1,v2]) W W (bs h fun _ hv3 h=>A9 W W A3 (Ue _ _ hv3) (.inl W) (sv W<|A1<|B2 ?_))))))
 cases h
 exact A6 (.inr W) (B6 (B3 W) C2) (.refl _)
def Ml (p1:Stay)(p2:State):Option Bool:=
  some ((((decide (p1.Since<0))||(decide (p1.Since>p2.Tick)))||(decide (p1.Rank<0)))||(decide (p1.Rank>100)))
theorem CL(p1 p2 r)(h:Ml p1 p2=some r):PCall prog 75 [(.agg (J7 p1)),(.bp (Bc p2) 0)] (bo r):=by
 refine C4 (fk func75 ntmps75 m0 (by with_unfolding_all rfl)) (nl W) ?_
 unfold Ml at h
 refine B4 (s0:=⟨T [(0,(.d _)),(1,(.d _))],G []⟩) (F2 W W) ?_
 refine B0<|sm W<|sv W<|A1<|B0<|sq W<|sl W G_hit W<|sv W<|sv W<|gp W (K6 W) (fun _=>W) (gf W (vl W G_hit W)<|gf W (fun _=>W) ?_)
 refine gf W (fun w4=>(by simp only [A2 w4];rfl)) ?_
 refine gf W (fun w5=>(M7 (A2 w5) (A2 w5) W))<|sd W (O2 W W<|fun hc=>A2<|J4 hc)<|sv W<|gp W (K6 W) (fun _=>W) (gf W (vl W G_hit W)<|gf W (vb W W W)<|sd W (O2 W W<|fun hc=>A2<|J4 hc)<|sv W<|gp W (K6 W) (fun _=>W) (gf W (vl W G_hit W)<|gf W (vb W W W)<|sd W (O2 W W<|fun hc=>A2<|J4 hc)<|sv W<|A1<|B2 ?_))
 cases h
 exact A6 (.inr W) (B6 (B3 W) C2) (.refl _)
def M1 (p1:(List Stay))(p2:State)(x1:Int):Option (Stp Int (Sum Unit Int)):=
  cond (decide (x1< (p1.length:Int))) ((C1 p1 x1).bind fun v1=>(Ml v1 p2).bind fun v2=>cond v2 (some (.out (.inr x1))) (some (.go (D3 (x1+1))))) (some (.out (.inl ())))
def K1 [Lp](p1:(List Stay))(p2:State):Option Int:=
  thenS (loop (M1 p1 p2) 0) (fun _=>some (-1)) (fun r=>some r)
theorem Hd(p1 p2 r)(h:K1 p1 p2=some r):PCall prog 161 [(.list (List.map J7 p1)),(.fn (.func 75) [] [(.bp (Bc p2) 0)])] (i64 r):=by
 refine C4 (fk func161 ntmps161 m0 (by with_unfolding_all rfl)) (nl W) ?_
 unfold K1 at h
 refine B4 (s0:=⟨T [(0,(.d _)),(1,(.d _))],G []⟩) (F2 W W) ?_
 refine B0<|sv W<|A1<|A5<|B0<|sv W<|sd W (D7 W)<|sv W<|A1<|js h fun z1 hz1 h=>D9 (fun s=> ∃(y1:Unit) (g1:Unit),z1= .inl y1∧Sb ⟨T [],G []⟩ s) ?_ ?_
 refine A7<|E4 (M1 p1 p2) (fun (x1:Int) (g2:Unit)=>⟨T [(0,(dl J7 p1)),(1,(.d (.fn (.func 75) [] [(.bp (Bc p2) 0)]))),(7,(di (p1.length:Int))),(8,(di x1))],G []⟩) 0 () _ hz1 (F2 W W) ?_
 intro x1 g2 z2 hz2 ez2
 unfold M1 at hz2
 refine B0<|sv W<|A1<|A5<|cc W hz2 (fun c1 hz2=> ?_)<|fun c1 hz2=> ?_
 refine A8<|A5<|A7<|B0<|sv W<|sv W<|A1<|B0<|sv W<|sv W<|sv W<|bs hz2 fun _ hv1 hz2=>sd W (C5 W W hv1 W)<|sd W (D4 W hv1 W W)<|bs hz2 fun _ hv2 hz2=>A9 W W A3 (CL _ _ _ hv2) (.inl W) (A1<|cc W hz2 (fun c2 hz2=> ?_)<|fun c2 hz2=> ?_)
 refine B0<|sv W<|sv W<|A1<|B2 ?_
 cases hz2
 obtain rfl:=ez2 _ rfl
 refine ⟨nofun,F4 ?_⟩
 rw [wE]at h
 cases h
 exact A6 (.inr W) (B6 (B3 W) C2) (.refl _)
 refine A8<|E3<|B7<|sv W<|sv W<|A1<|E2 ?_
 cases hz2
 exact ⟨W,(),(F2 W W)⟩
 refine C8 W ?_
 cases hz2
 obtain rfl:=ez2 _ rfl
 refine ⟨nofun,C6 W<|U4 ?_⟩
 exact ⟨_,(),W,(F2 W W)⟩
 rintro _ ⟨y1,g1,rfl,q1⟩
 rw [wD]at h
 refine B4 q1<|B0<|sv W<|A1<|B2 ?_
 cases h
 exact A6 (.inr W) (B6 (B3 W) C2) (.refl _)
def F8 [Lp](p1:(List Stay))(p2:State):Option Bool:=
  (K1 p1 p2).bind fun v1=>some (decide (v1≥0))
theorem Fi(p1 p2 r)(h:F8 p1 p2=some r):PCall prog 74 [(.list (List.map J7 p1)),(.fn (.func 75) [] [(.bp (Bc p2) 0)])] (bo r):=by
 refine C4 (fk func74 ntmps74 m0 (by with_unfolding_all rfl)) (nl W) ?_
 unfold F8 at h
 refine B4 (s0:=⟨T [(0,(.d _)),(1,(.d _))],G []⟩) (F2 W W) ?_
 refine B0<|sv W<|A1<|B0<|sv W<|sv W<|bs h fun _ hv1 h=>A9 W W A3 (Hd _ _ _ hv1) (.inl W) (sv W<|sv W<|A1<|B2 ?_)
 cases h
 exact A6 (.inr W) (B6 (B3 W) C2) (.refl _)
def Ah [Lp](p1:Map)(p2:State)(x2:Int):Option (Stp Int (Sum Unit Int)):=
  cond (decide (x2< (p2.In.length:Int))) ((C1 p2.In x2).bind fun v3=>((cond ((!((((decide (v3.Agent_<0))||(decide (v3.Agent_≥(p2.Agents.length:Int))))||(decide (v3.Zone_<0)))||(decide (v3.Zone_≥(p1.Zones.length:Int)))))&& (decide (x2>0))) (C1 p2.In (D3 (x2 - 1))) (some default))).bind fun v4=>((cond ((!((((decide (v3.Agent_<0))||(decide (v3.Agent_≥(p2.Agents.length:Int))))||(decide (v3.Zone_<0)))||(decide (v3.Zone_≥(p1.Zones.length:Int)))))&& (decide (x2>0))) (Dl v4 v3) (some default))).bind fun v5=>cond (((((decide (v3.Agent_<0))||(decide (v3.Agent_≥(p2.Agents.length:Int))))||(decide (v3.Zone_<0)))||(decide (v3.Zone_≥(p1.Zones.length:Int))))||((decide (x2>0))&& (decide (v5≥0)))) (some (.out (.inr 11))) (some (.go (D3 (x2+1))))) (some (.out (.inl ())))
def Ai [Lp](p1:Map)(p2:State)(x1:Int):Option (Stp Int (Sum Unit Int)):=
  cond (decide (x1< (p2.Agents.length:Int))) ((Z2 p1 p2 x1).bind fun v2=>cond (v2 !=0) (some (.out (.inr v2))) (some (.go (D3 (x1+1))))) (some (.out (.inl ())))
def Dm [Lp](p1:Map)(p2:State):Option Int:=
  (Cf p1).bind fun v1=>cond (v1 !=0) (some v1) (cond ((decide (p2.Tick<0))||(decide (p2.Tick>1099511627776))) (some 2) (cond ((p2.Agents.length:Int)==0) (some 6) (cond (decide ((p2.Agents.length:Int)>8)) (some 8) (thenS (loop (Ai p1 p2) 0) (fun _=>thenS (loop (Ah p1 p2) 0) (fun _=>(F8 p2.In p2).bind fun v6=>cond v6 (some 2) (some 0)) (fun r=>some r)) (fun r=>some r)))))
theorem Sl(p1 p2 r)(h:Dm p1 p2=some r):PCall prog 24 [(.agg (P7 p1)),(.agg (Bc p2))] (i64 r):=by
 refine C4 (fk func24 ntmps24 m0 (by with_unfolding_all rfl)) (nl W) ?_
 unfold Dm at h
 refine B4 (s0:=⟨T [(0,(.d _)),(1,(.d _))],G []⟩) (F2 W W) ?_
 refine lr<|fun u1 _=>sm W<|sm W<|sv W<|A1<|A5<|B0<|sd W (B1 W (gq W) W W)<|bs h fun _ hv1 h=>A9 W W A3 (Sj _ _ hv1) (.inl W) (sv W<|A1<|B0<|sv W<|sv W<|A1<|cc W h (fun c1 h=> ?_)<|fun c1 h=> ?_)
 refine B0<|sv W<|sv W<|A1<|B2 ?_
 cases h
 exact A6 (.inr W) (B6 (B3 W) C2) (.refl _)
 refine A8<|A5<|B0<|sq W<|sl W G_hit W<|sd W (D7 W)<|sv W<|A1<|A7<|B0<|sq W<|sl W G_hit W<|sv W<|sv W<|gp W (K6 W) (fun _=>W) (gf W (vl W G_hit W)<|gf W (vb W W W)<|sd W (O2 W W<|fun hc=>A2<|J4 hc)<|sv W<|A1<|cc W h (fun c2 h=> ?_)<|fun c2 h=> ?_)
 refine B0<|sv W<|A1<|B2 ?_
 cases h
 exact A6 (.inr W) (B6 (B3 W) C2) (.refl _)
 refine B0<|sv W<|sv W<|sv W<|A1<|cc W h (fun c3 h=> ?_)<|fun c3 h=> ?_
 refine B0<|sv W<|A1<|B2 ?_
 cases h
 exact A6 (.inr W) (B6 (B3 W) C2) (.refl _)
 refine B0<|sv W<|sv W<|sv W<|A1<|cc W h (fun c4 h=> ?_)<|fun c4 h=> ?_
 refine B0<|sv W<|A1<|B2 ?_
 cases h
 exact A6 (.inr W) (B6 (B3 W) C2) (.refl _)
 refine A8<|E3<|A5<|B0<|sq W<|sl W G_hit W<|sd W (D7 W)<|sv W<|A1<|js h fun z1 hz1 h=>D9 (fun s=> ∃(y1:Unit) (g1:Unit),z1= .inl y1∧Sb ⟨T [(2,(.ptr (2,u1) 0)),(3,(.ptr (3,u1) 0))],G [((2,u1),some<|.box 33 (L4 p1)),((3,u1),some<|.box 25 (J5 p2))]⟩ s) ?_ ?_
 refine A7<|E4 (Ai p1 p2) (fun (x1:Int) (g2:Unit)=>⟨T [(2,(.ptr (2,u1) 0)),(3,(.ptr (3,u1) 0)),(36,(di (p2.Agents.length:Int))),(37,(di x1))],G [((2,u1),some<|.box 33 (L4 p1)),((3,u1),some<|.box 25 (J5 p2))]⟩) 0 () _ hz1 (F2 W W) ?_
 intro x1 g2 z2 hz2 ez2
 unfold Ai at hz2
 refine B0<|sv W<|A1<|A5<|cc W hz2 (fun c5 hz2=> ?_)<|fun c5 hz2=> ?_
 refine A8<|A5<|A7<|B0<|sv W<|sv W<|A1<|B0<|sd W (B1 W G_hit W W)<|sd W (B1 W (gq W) W W)<|sv W<|bs hz2 fun _ hv2 hz2=>A9 W W A3 (AL _ _ _ _ hv2) (.inl W) (sv W<|A1<|B0<|sv W<|sv W<|A1<|cc W hz2 (fun c6 hz2=> ?_)<|fun c6 hz2=> ?_)
 refine B0<|sv W<|sv W<|A1<|B2 ?_
 cases hz2
 obtain rfl:=ez2 _ rfl
 refine ⟨nofun,F4 ?_⟩
 rw [wE]at h
 cases h
 exact A6 (.inr W) (B6 (B3 W) C2) (.refl _)
 refine A8<|E3<|B7<|sv W<|sv W<|A1<|E2 ?_
 cases hz2
 exact ⟨W,(),(F2 W W)⟩
 refine C8 W ?_
 cases hz2
 obtain rfl:=ez2 _ rfl
 refine ⟨nofun,C6 W<|U4 ?_⟩
 exact ⟨_,(),W,(F2 W W)⟩
 rintro _ ⟨y1,g1,rfl,q1⟩
 rw [wD]at h
 refine B4 q1<|A5<|B0<|sq W<|sl W (gq W) W (sd W (D7 W)<|sv W<|A1<|js h fun z3 hz3 h=>D9 (fun s=> ∃(y2:Unit) (g3:Unit),z3= .inl y2∧Sb ⟨T [(3,(.ptr (3,u1) 0))],G [((3,u1),some<|.box 25 (J5 p2))]⟩ s) ?_ ?_)
 refine A7<|E4 (Ah p1 p2) (fun (x2:Int) (g4:Unit)=>⟨T [(2,(.ptr (2,u1) 0)),(3,(.ptr (3,u1) 0)),(49,(dl J7 p2.In)),(50,(di (p2.In.length:Int))),(51,(di x2))],G [((2,u1),some<|.box 33 (L4 p1)),((3,u1),some<|.box 25 (J5 p2))]⟩) 0 () _ hz3 (F2 W W) ?_
 intro x2 g4 z4 hz4 ez4
 unfold Ah at hz4
 refine B0<|sv W<|A1<|A5<|cc W hz4 (fun c7 hz4=> ?_)<|fun c7 hz4=> ?_
 refine A8<|A5<|A7<|B0<|sv W<|bs hz4 fun v3 hv3 hz4=>sd W (C5 W W hv3 W)<|sd W (D4 W hv3 W W)<|sm W<|sv W<|U0 W G_hit (Wx v3) W (A1<|A5<|E7 W<|sq W<|sl W G_hit W<|sv W<|sv W<|gp W (K6 W) (fun _=>W) (gf W (vl W G_hit W)<|gp W (K6 W) (fun _=>W) (gf W (vl W (gq W) W)<|gf W (fun w8=>(D7<|A2 w8))<|gf W (fun w9=>(M7 (A2 w9) (A2 w9) W))<|sd W (O2 W W<|fun hc=>A2<|J4 hc)<|sv W<|gp W (K6 W) (fun _=>W) (gf W (vl W G_hit W)<|gf W (vb W W W)<|sd W (O2 W W<|fun hc=>A2<|J4 hc)<|sv W<|gp W (K6 W) (fun _=>W) (gf W (vl W G_hit W)<|gp W (K6 W) (fun _=>W) (gf W (vl W (gq W) W)<|gf W (fun w17=>(D7<|A2 w17))<|gf W (fun w18=>(M7 (A2 w18) (A2 w18) W))<|sd W (O2 W W<|fun hc=>A2<|J4 hc)<|sv W<|gf W (fun _=>W)<|gf W (vb W W W)<|gf W (fun w21=>(PQ<|A2 w21))<|M8 _ (.ptr _ _) W (V2 W) (fun _=>W) (gv W (V2 W) (vl W (gq W) W) (gv W (V2 W) (fun _=>W) (gv W (V2 W) (vb W W W) (bs hz4 fun v4 hv4 hz4=>gv W (V2 W) (fun w26=>(C5 (A2 w26) (A2 w26) (B9 w26 hv4) W)) (gv W (V2 W) (fun w27=>(D4 (A2 w27) (B9 w27 hv4) W W)) (gv W (V2 W) (fun _=>(B1 W G_hit W W)) (bs hz4 fun v5 hv5 hz4=> ?_)))))))))))))
 refine N6 _ (i64 v5) (V2 W) (fun w29=>⟨_,[(.d (.agg (J7 v4))),(.d (.agg (J7 v3)))],_,_,(by simp only [A2 w29];rfl),W,A3,Sk _ _ _<|B9 w29 hv5,(.inl W)⟩) ?_
 refine gv W (V2 W) (vb W W W) (gf W (fun w31=>(HF (A2 w31) (fun hc=>A2<|DY w31 hc) W))<|sd W (O2 W W<|fun hc=>A2<|J4 hc)<|A1<|cc W hz4 (fun c8 hz4=> ?_)<|fun c8 hz4=> ?_)
 refine B0<|sv W<|A1<|B2 ?_
 cases hz4
 obtain rfl:=ez4 _ rfl
 refine ⟨nofun,F4 ?_⟩
 rw [wE]at h
 cases h
 exact A6 (.inr W) (B6 (B3 W) C2) (.refl _)
 refine A8<|E3<|B7<|sv W<|sv W<|A1<|E2 ?_
 cases hz4
 exact ⟨W,(),(F2 W W)⟩
 refine C8 W ?_
 cases hz4
 obtain rfl:=ez4 _ rfl
 refine ⟨nofun,C6 W<|U4 ?_⟩
 exact ⟨_,(),W,(F2 W W)⟩
 rintro _ ⟨y2,g3,rfl,q2⟩
 rw [wD]at h
 refine B4 q2<|A5<|B0<|sq W<|sl W G_hit W<|C0 (.fn _ _ _) W W (bs h fun _ hv6 h=>A9 W (rD<|E6 (AS G1<|E6 (Bi G_hit<|rD<|rD<|rD G1) G1) G1) A3 (Fi _ _ _ hv6) (.inr W) (A1<|cc W h (fun c9 h=> ?_)<|fun c9 h=> ?_))
 refine B0<|sv W<|A1<|B2 ?_
 cases h
 exact A6 (.inr W) (B6 (B3 W) C2) (.refl _)
 refine A8<|B0<|sv W<|A1<|B2 ?_
 cases h
 exact A6 (.inr W) (B6 (B3 W) C2) (.refl _)
def Yw (p1:Agent):Option Bool:=
  some p1.Gone
theorem KF(p1 r)(h:Yw p1=some r):PCall prog 79 [(.agg (D0 p1))] (bo r):=by
 refine C4 (fk func79 ntmps79 m0 (by with_unfolding_all rfl)) (nl W) ?_
 unfold Yw at h
 refine B4 (s0:=⟨T [(0,(.d _))],G []⟩) (F2 W W) ?_
 refine B0<|sm W<|sv W<|A1<|B0<|sq W<|sl W G_hit W<|sv W<|A1<|B2 ?_
 cases h
 exact A6 (.inr W) (B6 (B3 W) C2) (.refl _)
def T6 (p1:(List Agent))(x1:Int):Option (Stp Int (Sum Unit Int)):=
  cond (decide (x1< (p1.length:Int))) ((C1 p1 x1).bind fun v1=>(Yw v1).bind fun v2=>cond v2 (some (.out (.inr x1))) (some (.go (D3 (x1+1))))) (some (.out (.inl ())))
def L7 [Lp](p1:(List Agent)):Option Int:=
  thenS (loop (T6 p1) 0) (fun _=>some (-1)) (fun r=>some r)
theorem Ht(p1 r)(h:L7 p1=some r):PCall prog 170 [(.list (List.map D0 p1)),(.fn (.func 79) [] [])] (i64 r):=by
 refine C4 (fk func170 ntmps170 m0 (by with_unfolding_all rfl)) (nl W) ?_
 unfold L7 at h
 refine B4 (s0:=⟨T [(0,(.d _)),(1,(.d _))],G []⟩) (F2 W W) ?_
 refine B0<|sv W<|A1<|A5<|B0<|sv W<|sd W (D7 W)<|sv W<|A1<|js h fun z1 hz1 h=>D9 (fun s=> ∃(y1:Unit) (g1:Unit),z1= .inl y1∧Sb ⟨T [],G []⟩ s) ?_ ?_
 refine A7<|E4 (T6 p1) (fun (x1:Int) (g2:Unit)=>⟨T [(0,(dl D0 p1)),(1,(.d (.fn (.func 79) [] []))),(7,(di (p1.length:Int))),(8,(di x1))],G []⟩) 0 () _ hz1 (F2 W W) ?_
 intro x1 g2 z2 hz2 ez2
 unfold T6 at hz2
 refine B0<|sv W<|A1<|A5<|cc W hz2 (fun c1 hz2=> ?_)<|fun c1 hz2=> ?_
 refine A8<|A5<|A7<|B0<|sv W<|sv W<|A1<|B0<|sv W<|sv W<|sv W<|bs hz2 fun _ hv1 hz2=>sd W (C5 W W hv1 W)<|sd W (D4 W hv1 W W)<|bs hz2 fun _ hv2 hz2=>A9 W W A3 (KF _ _ hv2) (.inl W) (A1<|cc W hz2 (fun c2 hz2=> ?_)<|fun c2 hz2=> ?_)
 refine B0<|sv W<|sv W<|A1<|B2 ?_
 cases hz2
 obtain rfl:=ez2 _ rfl
 refine ⟨nofun,F4 ?_⟩
 rw [wE]at h
 cases h
 exact A6 (.inr W) (B6 (B3 W) C2) (.refl _)
 refine A8<|E3<|B7<|sv W<|sv W<|A1<|E2 ?_
 cases hz2
 exact ⟨W,(),(F2 W W)⟩
 refine C8 W ?_
 cases hz2
 obtain rfl:=ez2 _ rfl
 refine ⟨nofun,C6 W<|U4 ?_⟩
 exact ⟨_,(),W,(F2 W W)⟩
 rintro _ ⟨y1,g1,rfl,q1⟩
 rw [wD]at h
 refine B4 q1<|B0<|sv W<|A1<|B2 ?_
 cases h
 exact A6 (.inr W) (B6 (B3 W) C2) (.refl _)
def K8 [Lp](p1:(List Agent)):Option Bool:=
  (L7 p1).bind fun v1=>some (decide (v1≥0))
theorem Gb(p1 r)(h:K8 p1=some r):PCall prog 78 [(.list (List.map D0 p1)),(.fn (.func 79) [] [])] (bo r):=by
 refine C4 (fk func78 ntmps78 m0 (by with_unfolding_all rfl)) (nl W) ?_
 unfold K8 at h
 refine B4 (s0:=⟨T [(0,(.d _)),(1,(.d _))],G []⟩) (F2 W W) ?_
 refine B0<|sv W<|A1<|B0<|sv W<|sv W<|bs h fun _ hv1 h=>A9 W W A3 (Ht _ _ hv1) (.inl W) (sv W<|sv W<|A1<|B2 ?_)
 cases h
 exact A6 (.inr W) (B6 (B3 W) C2) (.refl _)
def Ia (p1:State)(p2:Int):Option Bool:=
  ((cond ((decide (p2≥0))&& (decide (p2< (p1.Agents.length:Int)))) (C1 p1.Agents p2) (some default))).bind fun v1=>((cond (((decide (p2≥0))&& (decide (p2< (p1.Agents.length:Int))))&& (!v1.Gone)) (C1 p1.Agents p2) (some default))).bind fun v2=>some ((((decide (p2≥0))&& (decide (p2< (p1.Agents.length:Int))))&& (!v1.Gone))&& (decide (v2.Begin≤p1.Tick)))
theorem Nx(p1 p2 r)(h:Ia p1 p2=some r):PCall prog 36 [(.agg (Bc p1)),(i64 p2)] (bo r):=by
 refine C4 (fk func36 ntmps36 m0 (by with_unfolding_all rfl)) (nl W) ?_
 unfold Ia at h
 refine B4 (s0:=⟨T [(0,(.d _)),(1,(.d _))],G []⟩) (F2 W W) ?_
 refine B0<|sm W<|sv W<|A1<|A5<|E7 W<|sv W<|sv W<|sv W<|gt W (fun _=>W)<|gp W (M3 W) (fun _=>W) (gt W (vl W G_hit W)<|gt W (fun w4=>(D7<|A2 w4))<|gt W (fun w5=>(M7 (A2 w5) (A2 w5) W))<|sa W W W<|sv W<|gp W (M3 W) (fun _=>W) (gt W (vl W G_hit W)<|gt W (fun _=>W)<|bs h fun v1 hv1 h=>gt W (fun w9=>(C5 (A2 w9) (A2 w9) (B9 w9 hv1) W)) ?_))
 refine gt W (fun w10=>(by simp only [A2 w10];rfl)) ?_
 refine gt W (fun w11=>(C9 (A2 w11) (B9 w11 hv1) W)) ?_
 refine M8 _ (.d (bo (!v1.Gone))) W (M3 W) (fun w12=>(by simp only [A2 w12];rfl)) ?_
 refine sa W W W<|sv W<|gp W (M3 W) (fun _=>W) (gt W (vl W G_hit W)<|gt W (fun _=>W)<|bs h fun _ hv2 h=>gt W (fun w16=>(C5 (A2 w16) (A2 w16) (B9 w16 hv2) W)) ?_)
 refine gt W (fun w17=>(by simp only [A2 w17];rfl)) ?_
 refine gt W (fun w18=>(C9 (A2 w18) (B9 w18 hv2) W))<|gp W (M3 W) (fun _=>W) (gt W (vl W G_hit W)<|gt W (fun w21=>(M7 (A2 w21) (A2 w21) W))<|sa W W W<|sv W<|A1<|B2 ?_)
 cases h
 exact A6 (.inr W) (B6 (B3 W) C2) (.refl _)
def Mr (p1:Agent):Option Bool:=
  some ((((decide (p1.S≥0))&& (decide (p1.S≤1099511627776)))&& (decide (p1.Len≥0)))&& (decide (p1.Len≤1099511627776)))
theorem Uf(p1 r)(h:Mr p1=some r):PCall prog 138 [(.agg (D0 p1))] (bo r):=by
 refine C4 (fk func138 ntmps138 m0 (by with_unfolding_all rfl)) (nl W) ?_
 unfold Mr at h
 refine B4 (s0:=⟨T [(0,(.d _))],G []⟩) (F2 W W) ?_
 refine B0<|sm W<|sv W<|A1<|B0<|sq W<|sl W G_hit W<|sv W<|sv W<|gp W (M3 W) (fun _=>W) (gt W (vl W G_hit W)<|gt W (vb W W W)<|sa W W W<|sv W<|gp W (M3 W) (fun _=>W) (gt W (vl W G_hit W)<|gt W (vb W W W)<|sa W W W<|sv W<|gp W (M3 W) (fun _=>W) (gt W (vl W G_hit W)<|gt W (vb W W W)<|sa W W W<|sv W<|A1<|B2 ?_)))
 cases h
 exact A6 (.inr W) (B6 (B3 W) C2) (.refl _)
def W9 (p1:Int):Option Bool:=
  some (p1 !=p1)
theorem Im(p1 r)(h:W9 p1=some r):PCall prog 255 [(i64 p1)] (bo r):=by
 refine C4 (fk func255 ntmps255 m0 (by with_unfolding_all rfl)) (nl W) ?_
 unfold W9 at h
 refine B4 (s0:=⟨T [(0,(.d _))],G []⟩) (F2 W W) ?_
 refine B0<|sv W<|A1<|B0<|sv W<|sv W<|sv W<|sv W<|A1<|B2 ?_
 cases h
 exact A6 (.inr W) (B6 (B3 W) C2) (.refl _)
def Aj (p1:Int)(p2:Int):Option Int:=
  (W9 p1).bind fun v1=>(W9 p2).bind fun v2=>cond v1 (cond v2 (some 0) (some (-1))) (cond v2 (some 1) (cond (decide (p1<p2)) (some (-1)) (cond (decide (p1>p2)) (some 1) (some 0))))
theorem Qi(p1 p2 r)(h:Aj p1 p2=some r):PCall prog 229 [(i64 p1),(i64 p2)] (i64 r):=by
 refine C4 (fk func229 ntmps229 m0 (by with_unfolding_all rfl)) (nl W) ?_
 unfold Aj at h
 refine B4 (s0:=⟨T [(0,(.d _)),(1,(.d _))],G []⟩) (F2 W W) ?_
 refine B0<|sv W<|A1<|B0<|sv W<|bs h fun _ hv1 h=>A9 W W A3 (Im _ _ hv1) (.inl W) (sv W<|A1<|B0<|sv W<|bs h fun _ hv2 h=>A9 W W A3 (Im _ _ hv2) (.inl W) (sv W<|A1<|A5<|B0<|sv W<|A1<|cc W h (fun c1 h=> ?_)<|fun c1 h=> ?_))
 refine A5<|B0<|sv W<|A1<|cc W h (fun c2 h=> ?_)<|fun c2 h=> ?_
 refine B0<|sv W<|A1<|B2 ?_
 cases h
 exact A6 (.inr W) (B6 (B3 W) C2) (.refl _)
 refine A8<|B0<|sv W<|A1<|B2 ?_
 cases h
 exact A6 (.inr W) (B6 (B3 W) C2) (.refl _)
 refine A8<|A5<|B0<|sv W<|A1<|cc W h (fun c3 h=> ?_)<|fun c3 h=> ?_
 refine B0<|sv W<|A1<|B2 ?_
 cases h
 exact A6 (.inr W) (B6 (B3 W) C2) (.refl _)
 refine A8<|A5<|B0<|sv W<|sv W<|sv W<|A1<|cc W h (fun c4 h=> ?_)<|fun c4 h=> ?_
 refine B0<|sv W<|A1<|B2 ?_
 cases h
 exact A6 (.inr W) (B6 (B3 W) C2) (.refl _)
 refine A8<|A5<|B0<|sv W<|sv W<|sv W<|A1<|cc W h (fun c5 h=> ?_)<|fun c5 h=> ?_
 refine B0<|sv W<|A1<|B2 ?_
 cases h
 exact A6 (.inr W) (B6 (B3 W) C2) (.refl _)
 refine A8<|B0<|sv W<|A1<|B2 ?_
 cases h
 exact A6 (.inr W) (B6 (B3 W) C2) (.refl _)
def Cg [Lp](p1:Pass)(p2:Pass):Option Int:=
  (Aj p1.From p2.From).bind fun v1=>(Y7 p1.Zone_ p2.Zone_).bind fun v2=>(Bk [v1,v2]).bind fun v3=>some v3
theorem EI(p1 p2 r)(h:Cg p1 p2=some r):PCall prog 264 [(.agg (Q6 p1)),(.agg (Q6 p2))] (i64 r):=by
 refine C4 (fk func264 ntmps264 (fun r=>if r==1 then [1010]else []) (by with_unfolding_all rfl)) (nl W) ?_
 unfold Cg at h
 refine B4 (s0:=⟨T [(0,(.d _)),(1,(.d _))],G []⟩) (F2 W W) ?_
 refine B0<|sm W<|sn W W<|sv W<|A1<|A5<|E7 W<|sq W<|sl W (gq W) W (sq W<|sl W G_hit W<|bs h fun v1 hv1 h=>A9 W W A3 (Qi _ _ _ hv1) (.inl W) (sq W<|sl W (gq W) W (sq W<|sl W G_hit W<|bs h fun v2 hv2 h=>A9 W W A3 (Il _ _ _ hv2) (.inl W) (C0 (dl A4 [v1,v2]) W W (bs h fun _ hv3 h=>A9 W W A3 (Ue _ _ hv3) (.inl W) (sv W<|A1<|B2 ?_))))))
 cases h
 exact A6 (.inr W) (B6 (B3 W) C2) (.refl _)
def D1 [Lp](p2:Int)(x2:(Int× (List Pass))):Option (Stp (Int× (List Pass)) (List Pass)):=
  ((cond (decide (x2.1>p2)) (C1 x2.2 x2.1) (some default))).bind fun v1=>((cond (decide (x2.1>p2)) (C1 x2.2 (D3 (x2.1 - 1))) (some default))).bind fun v2=>((cond (decide (x2.1>p2)) (Cg v1 v2) (some default))).bind fun v3=>cond ((decide (x2.1>p2))&& (decide (v3<0))) ((C1 x2.2 (D3 (x2.1 - 1))).bind fun v4=>(C1 x2.2 x2.1).bind fun v5=>(C1 x2.2 x2.1).bind fun v6=>(C1 (Lx x2.2 x2.1 v4) (D3 (x2.1 - 1))).bind fun v7=>some (.go ((D3 (x2.1 - 1)),(Lx (Lx x2.2 x2.1 v4) (D3 (x2.1 - 1)) v5)))) (some (.out x2.2))
def D8 [Lp](p2:Int)(p3:Int)(x1:(Int× (List Pass))):Option (Stp (Int× (List Pass)) (List Pass)):=
  cond (decide (x1.1<p3)) ((loop (D1 p2) (x1.1,x1.2)).bind fun y1=>some (.go ((D3 (x1.1+1)),y1))) (some (.out (x1.2)))
def D5 [Lp](p1:(List Pass))(p2:Int)(p3:Int):Option (List Pass):=
  loop (D8 p2 p3) ((D3 (p2+1)),p1)
theorem V9(p1 p2 p3 r)(h:D5 p1 p2 p3=some r):MCall prog 282 [(.sl (900000,0)),(di p2),(di p3),(.d (.fn (.func 264) [] []))] [(.arr 229 4 (List.map Q6 p1))] (.d (.tup [])) [some (.arr 229 4 (List.map Q6 r))] []:=by
 refine Vt (fk func282 ntmps282 m0 (by with_unfolding_all rfl)) W (nl W) ?_
 unfold D5 at h
 refine B4 (s0:=⟨T [(0,(.sl _)),(1,(.d _)),(2,(.d _)),(3,(.d _))],G [((900000,0),some _)]⟩) (F2 W W) ?_
 refine B0<|sv W<|sv W<|sv W<|A1<|A7<|E4 (D8 p2 p3) (fun (x1:(Int× (List Pass))) (g1:Unit)=>⟨T [(0,(.sl (900000,0))),(1,(di p2)),(2,(di p3)),(3,(.d (.fn (.func 264) [] []))),(8,(di x1.1))],G [((900000,0),some<|.arr 229 4 (List.map Q6 x1.2))]⟩) ((D3 (p2+1)),p1) () _ h (F2 W W) ?_
 intro x1 g1 z1 hz1 ez1
 unfold D8 at hz1
 refine A5<|B0<|sv W<|sv W<|sv W<|A1<|cc W hz1 (fun c1 hz1=> ?_)<|fun c1 hz1=> ?_
 refine A8<|A5<|A7<|B0<|sv W<|sv W<|A1<|bs hz1 fun y1 hy1 hz1=>D9 (fun s=> ∃g2:Unit,Sb ⟨T [(0,(.sl (900000,0))),(1,(di p2)),(2,(di p3)),(3,(.d (.fn (.func 264) [] []))),(8,(di x1.1))],G [((900000,0),some<|.arr 229 4 (List.map Q6 y1))]⟩ s) ?_ ?_
 refine A7<|E4 (D1 p2) (fun (x2:(Int× (List Pass))) (g3:Unit)=>⟨T [(0,(.sl (900000,0))),(1,(di p2)),(2,(di p3)),(3,(.d (.fn (.func 264) [] []))),(8,(di x1.1)),(9,(di x2.1))],G [((900000,0),some<|.arr 229 4 (List.map Q6 x2.2))]⟩) (x1.1,x1.2) () _ hy1 (F2 W W) ?_
 intro x2 g3 z2 hz2 ez2
 unfold D1 at hz2
 refine A5<|A5<|E7 W<|sv W<|sv W<|sv W<|sv W<|gt W (fun _=>W)<|M8 _ (.sl _) W (M3 W) (fun _=>W) (gt W (fun _=>W)<|bs hz2 fun v1 hv1 hz2=>M8 _ (.aptr _ _ _ _) W (M3 W) (fun w4=>(Kg (A2 w4) (A2 w4) G_hit (B9 w4 hv1))) (gt W (fun w5=>(Qe (A2 w5) G_hit (B9 w5 hv1) W W))<|M8 _ (.sl _) W (M3 W) (fun _=>W) (gt W (fun _=>W)<|gt W (vb W W W)<|bs hz2 fun v2 hv2 hz2=>M8 _ (.aptr _ _ _ _) W (M3 W) (fun w9=>(Kg (A2 w9) (A2 w9) G_hit (B9 w9 hv2))) (gt W (fun w10=>(Qe (A2 w10) G_hit (B9 w10 hv2) W W))<|bs hz2 fun v3 hv3 hz2=> ?_))))
 refine N6 _ (i64 v3) (M3 W) (fun w11=>⟨_,[(.d (.agg (Q6 v1))),(.d (.agg (Q6 v2)))],_,_,(by simp only [A2 w11];rfl),W,A3,EI _ _ _<|B9 w11 hv3,(.inl W)⟩) ?_
 refine gt W (vb W W W)<|sa W W W<|A1<|cc W hz2 (fun c2 hz2=> ?_)<|fun c2 hz2=> ?_
 refine A8<|A5<|A7<|E7 W<|ss W<|sv W<|ss W<|sv W<|sv W<|ss W<|sv W<|sv W<|bs hz2 fun v4 hv4 hz2=>C0 (.aptr _ _ _ _) W (Kg W W G_hit hv4) (sd W (Qe W G_hit hv4 W W)<|ss W<|sv W<|bs hz2 fun v5 hv5 hz2=>C0 (.aptr _ _ _ _) W (Kg W W G_hit hv5) (sd W (Qe W G_hit hv5 W W)<|bs hz2 fun _ hv6 hz2=>C0 (.aptr _ _ _ _) W (Kg W W G_hit hv6) (Qd Q6 _ _ _ (x2.1) _ v4 (Q6 v4) W W W G_hit hv6 (nl W) W (bs hz2 fun _ hv7 hz2=>C0 (.aptr _ _ _ _) W (Kg W W G_hit hv7) (Qd Q6 _ _ _ ((D3 (x2.1 - 1))) _ v5 (Q6 v5) W W W G_hit hv7 (nl W) W (A1<|E3<|B7<|sv W<|sv W<|sv W<|A1<|E2 ?_))))))
 cases hz2
 exact ⟨W,(),(F2 W W)⟩
 refine C8 W ?_
 cases hz2
 obtain rfl:=ez2 _ rfl
 refine ⟨nofun,C6 W<|U4 ?_⟩
 exact ⟨(),(F2 W W)⟩
 rintro _ ⟨g2,q1⟩
 refine E3<|B4 q1<|B7<|sv W<|sv W<|sv W<|A1<|E2 ?_
 cases hz1
 exact ⟨W,(),(F2 W W)⟩
 refine C8 W ?_
 cases hz1
 obtain rfl:=ez1 _ rfl
 refine ⟨nofun,C6 W<|E2 ?_⟩
 exact CE (.inl W) [] CF (.refl _) ⟨⟨G_hit,Fx⟩,trivial⟩
end
end Go.Abs.World
