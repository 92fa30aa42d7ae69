/-
  The Go functions that WorldContains reaches, as plain Lean functions, and the proofs that the program computes them.
-/
import Derived.Test.YtgjdiioennhoeaaGreatCoreD
import Derived.Test.YtgjdiioennhoeaaGreatProg
import Derived.KernelRfl
import Derived.IntWalk
import Derived.Shelf.SlicesE.Compact
set_option maxRecDepth 20000
set_option maxHeartbeats 4000000
set_option linter.unusedVariables false
namespace Go.Abs.World
noncomputable section
open Go Go.Abs Go.Proofs Tryz
attribute [local irreducible] K9 Cv Cb
structure Spot where
  X:Int
  Y:Int
  deriving Inhabited
structure CurveVector where
  x:Int
  y:Int
  deriving Inhabited
structure CurvePiece where
  p:Spot
  v:CurveVector
  l:Int
  start:Int
  deriving Inhabited
abbrev Bk:Spot→List D:=fun x=> [(i64 x.X),(i64 x.Y)]
structure Curve where
  Pts:(List Spot)
  deriving Inhabited
abbrev jX:Curve→List D:=fun x=> [(.list (List.map Bk x.Pts))]
structure Stay where
  Agent_:Int
  Zone_:Int
  Since:Int
  Rank:Int
  deriving Inhabited
abbrev I7:Stay→List D:=fun x=> [(i64 x.Agent_),(i64 x.Zone_),(i64 x.Since),(i64 x.Rank)]
abbrev A4:Int→List D:=fun x=> [.v (.int .i64 x)]
structure KitActor where
  R:Int
  S:Int
  V:Int
  Len:Int
  Begin:Int
  Disobeys:Bool
  deriving Inhabited
abbrev Mo:KitActor→List D:=fun x=> [(i64 x.R),(i64 x.S),(i64 x.V),(i64 x.Len),(i64 x.Begin),(bo x.Disobeys)]
abbrev iW:Bool→List D:=fun x=> [bo x]
structure Lane where
  Kind:Int
  Curve_:Curve
  Half:Int
  Limit:Int
  Next:(List Int)
  deriving Inhabited
structure Part where
  Lane_:Int
  From:Int
  To:Int
  Rank:Int
  deriving Inhabited
structure Zone where
  Parts:(List Part)
  Signal_:Int
  deriving Inhabited
structure Phase where
  Ticks:Int
  Green:(List Int)
  deriving Inhabited
structure Signal where
  Offset:Int
  Phases:(List Phase)
  deriving Inhabited
structure Work where
  Lane_:Int
  From:Int
  To:Int
  Begin:Int
  End:Int
  Limit:Int
  deriving Inhabited
structure Map where
  Version:Int
  Lanes:(List Lane)
  Zones:(List Zone)
  Signals:(List Signal)
  Works:(List Work)
  deriving Inhabited
abbrev Ev:Lane→List D:=fun x=> [(i64 x.Kind),(.list (List.map Bk x.Curve_.Pts)),(i64 x.Half),(i64 x.Limit),(.list (List.map A4 x.Next))]
abbrev At:Part→List D:=fun x=> [(i64 x.Lane_),(i64 x.From),(i64 x.To),(i64 x.Rank)]
abbrev Ew:Zone→List D:=fun x=> [(.list (List.map At x.Parts)),(i64 x.Signal_)]
abbrev Ak:Phase→List D:=fun x=> [(i64 x.Ticks),(.list (List.map A4 x.Green))]
abbrev Lq:Signal→List D:=fun x=> [(i64 x.Offset),(.list (List.map Ak x.Phases))]
abbrev Sp:Work→List D:=fun x=> [(i64 x.Lane_),(i64 x.From),(i64 x.To),(i64 x.Begin),(i64 x.End),(i64 x.Limit)]
structure Agent where
  Route:(List Int)
  S:Int
  V:Int
  Len:Int
  Begin:Int
  Obey:Bool
  Gone:Bool
  deriving Inhabited
structure State where
  Tick:Int
  Agents:(List Agent)
  In:(List Stay)
  deriving Inhabited
abbrev C6:Agent→List D:=fun x=> [(.list (List.map A4 x.Route)),(i64 x.S),(i64 x.V),(i64 x.Len),(i64 x.Begin),(bo x.Obey),(bo x.Gone)]
structure Pass where
  Zone_:Int
  Part_:Int
  From:Int
  To:Int
  deriving Inhabited
abbrev Q0:Pass→List D:=fun x=> [(i64 x.Zone_),(i64 x.Part_),(i64 x.From),(i64 x.To)]
structure Span where
  Lane_:Int
  From:Int
  To:Int
  deriving Inhabited
abbrev Bz:Span→List D:=fun x=> [(i64 x.Lane_),(i64 x.From),(i64 x.To)]
structure Mark where
  Stamp:Int
  Lo:Int
  Hi:Int
  deriving Inhabited
abbrev kH:Nat→List D:=fun x=> [.fn (.func x) [] []]
structure RoadsCheck where
  Map_:Map
  deriving Inhabited
abbrev iX:(Int×Int×Int)→List D:=fun x=> [(i64 x.1),(i64 x.2.1),(i64 x.2.2)]
structure RoadsWay where
  Map_:Map
  lanes:(List Int)
  starts:(List Int)
  length:Int
  deriving Inhabited
structure WorldSpan where
  from_:Int
  to:Int
  deriving Inhabited
structure Crash where
  Tick:Int
  A:Int
  B:Int
  Lane_:Int
  Zone_:Int
  Who:(List Int)
  deriving Inhabited
structure WorldScene where
  m:Map
  before:State
  after:State
  acts:(List Int)
  crashes:(List Crash)
  deriving Inhabited
abbrev Dk:Crash→List D:=fun x=> [(i64 x.Tick),(i64 x.A),(i64 x.B),(i64 x.Lane_),(i64 x.Zone_),(.list (List.map A4 x.Who))]
abbrev iY:(List Agent)→List D:=fun x=> [.list (List.map C6 x)]
abbrev jP:(List Stay)→List D:=fun x=> [.list (List.map I7 x)]
structure Anon7 where
  x:Int
  y:Int
  signed:Bool
  code:Int
  deriving Inhabited
structure RuntimeBoundsError where
  x:Int
  y:Int
  signed:Bool
  code:Int
  deriving Inhabited
structure Anon13 where
  msg:ByteArray
  addr:Int
  deriving Inhabited
structure RuntimeErrorAddressString where
  msg:ByteArray
  addr:Int
  deriving Inhabited
structure Anon24 where
  Tick:Int
  Agents:(List Agent)
  In:(List Stay)
  deriving Inhabited
structure Anon32 where
  Version:Int
  Lanes:(List Lane)
  Zones:(List Zone)
  Signals:(List Signal)
  Works:(List Work)
  deriving Inhabited
structure Anon44 where
  Route:(List Int)
  S:Int
  V:Int
  Len:Int
  Begin:Int
  Obey:Bool
  Gone:Bool
  deriving Inhabited
structure Anon60 where
  Pts:(List Spot)
  deriving Inhabited
structure Anon62 where
  Kind:Int
  Curve_:Curve
  Half:Int
  Limit:Int
  Next:(List Int)
  deriving Inhabited
structure Anon72 where
  R:Int
  S:Int
  V:Int
  Len:Int
  Begin:Int
  Disobeys:Bool
  deriving Inhabited
structure Anon76 where
  Tick:Int
  A:Int
  B:Int
  Lane_:Int
  Zone_:Int
  Who:(List Int)
  deriving Inhabited
structure Anon82 where
  Stamp:Int
  Lo:Int
  Hi:Int
  deriving Inhabited
structure Anon92 where
  Lane_:Int
  From:Int
  To:Int
  deriving Inhabited
structure Point where
  X:Int
  Y:Int
  V:Int
  deriving Inhabited
structure Anon98 where
  Stamp:Int
  Seen:(List Span)
  Points:(List Point)
  deriving Inhabited
structure Scan where
  Stamp:Int
  Seen:(List Span)
  Points:(List Point)
  deriving Inhabited
structure Anon103 where
  X:Int
  Y:Int
  deriving Inhabited
structure Anon106 where
  X:Int
  Y:Int
  V:Int
  deriving Inhabited
structure Anon113 where
  Lane_:Int
  From:Int
  To:Int
  Rank:Int
  deriving Inhabited
structure Anon116 where
  Parts:(List Part)
  Signal_:Int
  deriving Inhabited
structure Anon119 where
  Offset:Int
  Phases:(List Phase)
  deriving Inhabited
structure Anon122 where
  Lane_:Int
  From:Int
  To:Int
  Begin:Int
  End:Int
  Limit:Int
  deriving Inhabited
structure Anon126 where
  Agent_:Int
  Zone_:Int
  Since:Int
  Rank:Int
  deriving Inhabited
structure Anon134 where
  m:Map
  before:State
  after:State
  acts:(List Int)
  crashes:(List Crash)
  deriving Inhabited
structure Anon164 where
  s:ByteArray
  bad:Bool
  deriving Inhabited
structure WorldReader where
  s:ByteArray
  bad:Bool
  deriving Inhabited
structure Anon171 where
  s:ByteArray
  bad:Bool
  deriving Inhabited
structure Ref04Reader where
  s:ByteArray
  bad:Bool
  deriving Inhabited
structure Anon190 where
  from_:Int
  to:Int
  deriving Inhabited
structure Anon207 where
  Ticks:Int
  Green:(List Int)
  deriving Inhabited
structure Anon211 where
  Map_:Map
  deriving Inhabited
structure Anon228 where
  Zone_:Int
  Part_:Int
  From:Int
  To:Int
  deriving Inhabited
structure WorldBar where
  front:Spot
  rear:Spot
  deriving Inhabited
structure Anon245 where
  m:Map
  eye:Spot
  view:Int
  bodies:(List (List Span))
  bars:(List WorldBar)
  deriving Inhabited
structure WorldLooks where
  m:Map
  eye:Spot
  view:Int
  bodies:(List (List Span))
  bars:(List WorldBar)
  deriving Inhabited
structure Anon247 where
  front:Spot
  rear:Spot
  deriving Inhabited
structure Anon252 where
  x:Int
  y:Int
  deriving Inhabited
structure Anon254 where
  p:Spot
  v:CurveVector
  l:Int
  start:Int
  deriving Inhabited
structure Anon259 where
  Map_:Map
  lanes:(List Int)
  starts:(List Int)
  length:Int
  deriving Inhabited
abbrev Nu:WorldScene→List D:=fun x=> [(i64 x.m.Version),(.list (List.map Ev x.m.Lanes)),(.list (List.map Ew x.m.Zones)),(.list (List.map Lq x.m.Signals)),(.list (List.map Sp x.m.Works)),(i64 x.before.Tick),(.list (List.map C6 x.before.Agents)),(.list (List.map I7 x.before.In)),(i64 x.after.Tick),(.list (List.map C6 x.after.Agents)),(.list (List.map I7 x.after.In)),(.list (List.map A4 x.acts)),(.list (List.map Dk x.crashes))]
abbrev V2:WorldScene→List AV:=fun x=> [(.d (i64 x.m.Version)),(.d (.list (List.map Ev x.m.Lanes))),(.d (.list (List.map Ew x.m.Zones))),(.d (.list (List.map Lq x.m.Signals))),(.d (.list (List.map Sp x.m.Works))),(.d (i64 x.before.Tick)),(.d (.list (List.map C6 x.before.Agents))),(.d (.list (List.map I7 x.before.In))),(.d (i64 x.after.Tick)),(.d (.list (List.map C6 x.after.Agents))),(.d (.list (List.map I7 x.after.In))),(.d (.list (List.map A4 x.acts))),(.d (.list (List.map Dk x.crashes)))]
abbrev VI:RoadsWay→List D:=fun x=> [(i64 x.Map_.Version),(.list (List.map Ev x.Map_.Lanes)),(.list (List.map Ew x.Map_.Zones)),(.list (List.map Lq x.Map_.Signals)),(.list (List.map Sp x.Map_.Works)),(.list (List.map A4 x.lanes)),(.list (List.map A4 x.starts)),(i64 x.length)]
abbrev Mp:RoadsWay→List AV:=fun x=> [(.d (i64 x.Map_.Version)),(.d (.list (List.map Ev x.Map_.Lanes))),(.d (.list (List.map Ew x.Map_.Zones))),(.d (.list (List.map Lq x.Map_.Signals))),(.d (.list (List.map Sp x.Map_.Works))),(.d (.list (List.map A4 x.lanes))),(.d (.list (List.map A4 x.starts))),(.d (i64 x.length))]
abbrev Q8:Agent→List AV:=fun x=> [(.d (.list (List.map A4 x.Route))),(.d (i64 x.S)),(.d (i64 x.V)),(.d (i64 x.Len)),(.d (i64 x.Begin)),(.d (bo x.Obey)),(.d (bo x.Gone))]
abbrev KO:KitActor→List AV:=fun x=> [(.d (i64 x.R)),(.d (i64 x.S)),(.d (i64 x.V)),(.d (i64 x.Len)),(.d (i64 x.Begin)),(.d (bo x.Disobeys))]
abbrev iZ:Work→List AV:=fun x=> [(.d (i64 x.Lane_)),(.d (i64 x.From)),(.d (i64 x.To)),(.d (i64 x.Begin)),(.d (i64 x.End)),(.d (i64 x.Limit))]
abbrev PC:CurvePiece→List D:=fun x=> [(i64 x.p.X),(i64 x.p.Y),(i64 x.v.x),(i64 x.v.y),(i64 x.l),(i64 x.start)]
abbrev PD:CurvePiece→List AV:=fun x=> [(.d (i64 x.p.X)),(.d (i64 x.p.Y)),(.d (i64 x.v.x)),(.d (i64 x.v.y)),(.d (i64 x.l)),(.d (i64 x.start))]
abbrev P6:Map→List D:=fun x=> [(i64 x.Version),(.list (List.map Ev x.Lanes)),(.list (List.map Ew x.Zones)),(.list (List.map Lq x.Signals)),(.list (List.map Sp x.Works))]
abbrev L4:Map→List AV:=fun x=> [(.d (i64 x.Version)),(.d (.list (List.map Ev x.Lanes))),(.d (.list (List.map Ew x.Zones))),(.d (.list (List.map Lq x.Signals))),(.d (.list (List.map Sp x.Works)))]
abbrev BK:Lane→List AV:=fun x=> [(.d (i64 x.Kind)),(.d (.list (List.map Bk x.Curve_.Pts))),(.d (i64 x.Half)),(.d (i64 x.Limit)),(.d (.list (List.map A4 x.Next)))]
abbrev Ya:Part→List AV:=fun x=> [(.d (i64 x.Lane_)),(.d (i64 x.From)),(.d (i64 x.To)),(.d (i64 x.Rank))]
abbrev Uo:Stay→List AV:=fun x=> [(.d (i64 x.Agent_)),(.d (i64 x.Zone_)),(.d (i64 x.Since)),(.d (i64 x.Rank))]
abbrev Y1:State→List D:=fun x=> [(i64 x.Tick),(.list (List.map C6 x.Agents)),(.list (List.map I7 x.In))]
abbrev K1:State→List AV:=fun x=> [(.d (i64 x.Tick)),(.d (.list (List.map C6 x.Agents))),(.d (.list (List.map I7 x.In)))]
abbrev fM:Mark→List D:=fun x=> [(i64 x.Stamp),(i64 x.Lo),(i64 x.Hi)]
abbrev fN:Mark→List AV:=fun x=> [(.d (i64 x.Stamp)),(.d (i64 x.Lo)),(.d (i64 x.Hi))]
def Pd (p1:Int)(p2:Int):Option Int:=
  (Re p1 p2).bind fun v1=>cond (decide (v1<0)) (some (D9 (v1+p2))) (some v1)
theorem Py(p1 p2 r)(h:Pd p1 p2=some r):PCall prog 37 [(i64 p1),(i64 p2)] (i64 r):=by
 refine C2 (fk func37 ntmps37 m0 (by with_unfolding_all rfl)) (nl W) ?_
 unfold Pd at h
 refine B4 (s0:=⟨T [(0,(.d _)),(1,(.d _))],G []⟩) (F0 W W) ?_
 refine B0<|sv W<|A1<|B0<|sv W<|sv W<|bs h fun _ hv1 h=>sd W (Ul W W hv1)<|sv W<|A1<|A5<|B0<|sv W<|sv W<|A1<|cc W h (fun c1 h=> ?_)<|fun c1 h=> ?_
 refine B9<|sv W<|sv W<|sv W<|sv W<|A1<|B0<|sv W<|sv W<|A1<|B1 ?_
 cases h
 exact A6 (.inr W) (B6 (B3 W) C0) (.refl _)
 refine A8<|B0<|sv W<|sv W<|A1<|B1 ?_
 cases h
 exact A6 (.inr W) (B6 (B3 W) C0) (.refl _)
def Wd (p4:(List Int))(x1:(Int× (List Spot))):Option (Stp (Int× (List Spot)) (List Spot)):=
  cond (decide ((D9 (x1.1+1))< (p4.length:Int))) ((C3 p4 x1.1).bind fun v1=>(C3 p4 (D9 (x1.1+1))).bind fun v2=>(Au x1.2 [(Spot.mk v1 v2)]).bind fun v3=>some (.go ((D9 (x1.1+2)),v3))) (some (.out x1.2))
def T5 [Lp](p1:Int)(p2:Int)(p3:(List Int))(p4:(List Int)):Option Lane:=
  (loop (Wd p4) (0,[])).bind fun y1=>cond (p1==3) (some (Lane.mk p1 (Curve.mk y1) 500 p2 p3)) (some (Lane.mk p1 (Curve.mk y1) 1500 p2 p3))
theorem R5(p1 p2 p3 p4 r)(h:T5 p1 p2 p3 p4=some r):PCall prog 69 [(i64 p1),(i64 p2),(.list (List.map A4 p3)),(.list (List.map A4 p4))] (.agg (Ev r)):=by
 refine C2 (fk func69 ntmps69 (fun r=>if r==5 then [1013]else []) (by with_unfolding_all rfl)) (nl W) ?_
 unfold T5 at h
 refine B4 (s0:=⟨T [(0,(.d _)),(1,(.d _)),(2,(.d _)),(3,(.d _))],G []⟩) (F0 W W) ?_
 refine lr<|fun u1 _=>sm W<|A1<|lr<|fun u2 _=>sv W<|sv W<|sv W<|sv W<|sm W<|S5 W G_hit [(di p1),(.d .nilS),(di 1500),(di p2),(dl A4 p3)] W (A1<|A5<|B0<|sv W<|A1<|bs h fun y1 hy1 h=>D6 (fun s=> ∃g1:Nat,Sb ⟨T [(0,(di p1)),(8,(.ptr (8,u1) 0)),(9,(.ptr (9,u2) 0))],G [((8,u1),some<|.box 63 (((zs 4).set 1 (.d .nilS))++ [(.d .nilS)])),((9,u2),some<|.box 63 [(di p1),(oS y1 (36,g1)),(di 1500),(di p2),(dl A4 p3)]),((36,g1),oB 104 2 Bk y1)]⟩ s) ?_ ?_)
 refine A7<|E1 (Wd p4) (fun (x1:(Int× (List Spot))) (g2:Nat)=>⟨T [(0,(di p1)),(3,(dl A4 p4)),(8,(.ptr (8,u1) 0)),(9,(.ptr (9,u2) 0)),(10,(di x1.1))],G [((8,u1),some<|.box 63 (((zs 4).set 1 (.d .nilS))++ [(.d .nilS)])),((9,u2),some<|.box 63 [(di p1),(oS x1.2 (36,g2)),(di 1500),(di p2),(dl A4 p3)]),((36,g2),oB 104 2 Bk x1.2)]⟩) (0,[]) 0 _ hy1 (D8 (Y0 W)<|sg W<|B5 G_hit (.of W)<|R6 trivial) ?_
 intro x1 g2 z1 hz1 ez1
 unfold Wd at hz1
 refine A5<|B0<|sv W<|sv W<|sv W<|sd W (D3 W)<|sv W<|A1<|cc W hz1 (fun c1 hz1=> ?_)<|fun c1 hz1=> ?_
 refine A8<|A5<|A7<|Lj W fun u5 _=>sq W<|sq W<|B8 (oS x1.2 (36,g2)) W (P8 W (gq W) W) (sv W<|sv W<|bs hz1 fun v1 hv1 hz1=>sd W (C4 W W hv1 W)<|sd W (C9 W hv1 W)<|sv W<|sv W<|sv W<|bs hz1 fun v2 hv2 hz1=>sd W (C4 W W hv2 W)<|sd W (C9 W hv2 W)<|sv W<|B8 (dl Bk [(Spot.mk v1 v2)]) W W (bs hz1 fun _ hv3 hz1=>P1 Bk (36,g2) x1.2 (Spot.mk v1 v2) [] _ (L3<|fun _=>W) W (gq W) hv3 (sq W<|sp W W<|S5 W (gq W) [(di p1),(.sl (36,u5)),(di 1500),(di p2),(dl A4 p3)] W (A1<|E0<|B9<|sv W<|sv W<|sv W<|A1<|E2 ?_))))
 cases hz1
 exact ⟨W,u5,(D8 (Y0 W)<|sg W<|B5 G_hit (.box (cv<|.cons (.of (T9<|U2 hv3).symm) cw))<|N0 (gq W) trivial)⟩
 refine C7 W ?_
 cases hz1
 obtain rfl:=ez1 _ rfl
 refine ⟨nofun,C5 W<|U1 ?_⟩
 exact ⟨g2,(D8 (Y0 W)<|B5 G_hit (.of W)<|sg W<|B7 (gq W) trivial)⟩
 rintro _ ⟨g1,q1⟩
 refine B4 q1<|A5<|B0<|sv W<|sv W<|A1<|cc W h (fun c2 h=> ?_)<|fun c2 h=> ?_
 refine B9<|sq W<|S5 W (gq W) [(di p1),(oS y1 (36,g1)),(di 500),(di p2),(dl A4 p3)] W (A1<|B0<|B8 (W2 [(di p1),(oS y1 (36,g1)),(di 500),(di p2),(dl A4 p3)]) W (B2 W G_hit W W) (Ie _ _ _ _ _ (V8 _) W W (gq W) (nl W) [(di p1),(oS y1 (36,g1)),(di 500),(di p2),(dl A4 p3)] W (A1<|B1 ?_)))
 cases h
 exact A6 (.inr W) (B6 (H5 W G_hit (nl W) W)<|Lk<|rD<|E4 (S9<|gq W)<|rD<|rD<|rD F9) (.agg (ca W<|.cons ⟨S8,W⟩ (cz W)))
 refine A8<|B0<|B8 (W2 [(di p1),(oS y1 (36,g1)),(di 1500),(di p2),(dl A4 p3)]) W (B2 W (gq W) W W) (Ie _ _ _ _ _ (V8 _) W W G_hit (nl W) [(di p1),(oS y1 (36,g1)),(di 1500),(di p2),(dl A4 p3)] W (A1<|B1 ?_))
 cases h
 exact A6 (.inr W) (B6 (H5 W G_hit (nl W) W)<|Lk<|rD<|E4 (S9<|gq W)<|rD<|rD<|rD F9) (.agg (ca W<|.cons ⟨S8,W⟩ (cz W)))
def Pz (p1:Int)(p2:Int)(p3:Int):Option Signal:=
  some (Signal.mk p1 [(Phase.mk 12 [p2]),(Phase.mk 5 []),(Phase.mk 9 [p3]),(Phase.mk 4 [])])
theorem Sa(p1 p2 p3 r)(h:Pz p1 p2 p3=some r):PCall prog 70 [(i64 p1),(i64 p2),(i64 p3)] (.agg [(i64 r.Offset),(.list (List.map Ak r.Phases))]):=by
 refine C2 (fk func70 ntmps70 (fun r=>if r==1 then [1002,1006,1009]else []) (by with_unfolding_all rfl)) (nl W) ?_
 unfold Pz at h
 refine B4 (s0:=⟨T [(0,(.d _)),(1,(.d _)),(2,(.d _))],G []⟩) (F0 W W) ?_
 refine B0<|sm W<|A1<|B0<|sv W<|sv W<|B8 (dl A4 [p2]) W W (sv W<|sv W<|sv W<|B8 (dl A4 [p3]) W W (sv W<|sv W<|B8 (dl Ak [(Phase.mk 12 [p2]),(Phase.mk 5 []),(Phase.mk 9 [p3]),(Phase.mk 4 [])]) W W (sv W<|S5 W G_hit [(di p1),(dl Ak [(Phase.mk 12 [p2]),(Phase.mk 5 []),(Phase.mk 9 [p3]),(Phase.mk 4 [])])] W (A1<|B1 ?_))))
 cases h
 exact A6 (.inr W) (B6 (H5 W G_hit (nl W) W) C0) (.refl _)
def Xi [Lp](p1:Int):Option Map:=
  (Pd p1 16777216).bind fun v1=>(C3 [1500,600,1000,300] ((D9 (v1.tdiv 7)).tmod 4)).bind fun v2=>(cond ((v1.tmod 7)==0) ((T5 1 v2 [] [0,0,60000,0]).bind fun v3=>some ([v3],[],[])) ((cond ((v1.tmod 7)==1) (some ((v1.tmod 7)==1)) (some ((v1.tmod 7)==2))).bind fun y2=>cond y2 ((T5 1 v2 [] [0,0,50000,0]).bind fun v4=>(T5 1 1500 [] [30000,(-20000),30000,20000]).bind fun v5=>cond ((v1.tmod 7)==2) ((C3 [(Zone.mk [(Part.mk 0 28000 32000 ((D9 (v1.tdiv 28)).tmod 2)),(Part.mk 1 18000 22000 (D9 (2 - (D9 (2* ((D9 (v1.tdiv 28)).tmod 2))))))] 0)] 0).bind fun v6=>(Pz ((D9 (v1.tdiv 28)).tmod 31) 0 1).bind fun v7=>some ([v4,v5],(Mh [(Zone.mk [(Part.mk 0 28000 32000 ((D9 (v1.tdiv 28)).tmod 2)),(Part.mk 1 18000 22000 (D9 (2 - (D9 (2* ((D9 (v1.tdiv 28)).tmod 2))))))] 0)] 0 (Zone.mk v6.Parts 1)),[v7])) (some ([v4,v5],[(Zone.mk [(Part.mk 0 28000 32000 ((D9 (v1.tdiv 28)).tmod 2)),(Part.mk 1 18000 22000 (D9 (2 - (D9 (2* ((D9 (v1.tdiv 28)).tmod 2))))))] 0)],[]))) (cond ((v1.tmod 7)==3) ((T5 1 v2 [1,2] [0,0,30000,0]).bind fun v8=>(T5 1 1500 [] [30000,0,60000,0]).bind fun v9=>(T5 1 800 [] [30000,0,54000,10000]).bind fun v10=>some ([v8,v9,v10],[],[])) (cond ((v1.tmod 7)==4) ((T5 1 v2 [2] [0,0,30000,0]).bind fun v11=>(T5 1 1500 [2] [6000,(-10000),30000,0]).bind fun v12=>(T5 1 1500 [] [30000,0,60000,0]).bind fun v13=>some ([v11,v12,v13],[(Zone.mk [(Part.mk 0 25000 30000 1),(Part.mk 1 20000 26000 0),(Part.mk 2 0 5000 0)] 0)],[])) (cond ((v1.tmod 7)==5) ((T5 1 v2 [1] [0,0,20000,0]).bind fun v14=>(T5 1 v2 [] [20000,0,50000,0]).bind fun v15=>(T5 3 200 [] [35000,(-8000),35000,8000]).bind fun v16=>some ([v14,v15,v16],[(Zone.mk [(Part.mk 1 14000 16000 0),(Part.mk 2 6000 10000 3)] 0)],[])) (cond ((v1.tmod 7)==6) ((T5 1 v2 [1,2] [0,0,20000,0]).bind fun v17=>(T5 1 1500 [] [20000,0,50000,0]).bind fun v18=>(T5 1 1000 [] [20000,0,44000,10000]).bind fun v19=>(T5 2 700 [] [36000,(-12000),36000,18000]).bind fun v20=>cond (((D9 (v1.tdiv 28)).tmod 2)==1) ((C3 [(Zone.mk [(Part.mk 1 14000 18000 1),(Part.mk 3 10000 14000 0)] 0),(Zone.mk [(Part.mk 2 14000 21000 1),(Part.mk 3 14500 23000 0)] 0)] 0).bind fun v21=>(C3 (Mh [(Zone.mk [(Part.mk 1 14000 18000 1),(Part.mk 3 10000 14000 0)] 0),(Zone.mk [(Part.mk 2 14000 21000 1),(Part.mk 3 14500 23000 0)] 0)] 0 (Zone.mk v21.Parts 1)) 1).bind fun v22=>(Pz ((D9 (v1.tdiv 56)).tmod 31) 1 3).bind fun v23=>(Pz ((D9 (v1.tdiv 56)).tmod 17) 2 3).bind fun v24=>some ([v17,v18,v19,v20],(Mh (Mh [(Zone.mk [(Part.mk 1 14000 18000 1),(Part.mk 3 10000 14000 0)] 0),(Zone.mk [(Part.mk 2 14000 21000 1),(Part.mk 3 14500 23000 0)] 0)] 0 (Zone.mk v21.Parts 1)) 1 (Zone.mk v22.Parts 2)),[v23,v24])) (some ([v17,v18,v19,v20],[(Zone.mk [(Part.mk 1 14000 18000 1),(Part.mk 3 10000 14000 0)] 0),(Zone.mk [(Part.mk 2 14000 21000 1),(Part.mk 3 14500 23000 0)] 0)],[]))) (some ([],[],[])))))))).bind fun y1=>cond (((D9 (v1.tdiv 1736)).tmod 3)==1) (some (Map.mk ((D9 (v1.tdiv 28)).tmod 5) y1.1 y1.2.1 y1.2.2 [(Work.mk 0 10000 15000 ((D9 (v1.tdiv 5208)).tmod 40) (D9 (((D9 (v1.tdiv 5208)).tmod 40)+20)) (D9 (((D9 (v1.tdiv 208320)).tmod 3)*200)))])) (some (Map.mk ((D9 (v1.tdiv 28)).tmod 5) y1.1 y1.2.1 y1.2.2 []))
theorem RY(p1 r)(h:Xi p1=some r):PCall prog 22 [(i64 p1)] (.agg (P6 r)):=by
 refine C2 (fk func22 ntmps22 (fun r=>if r==2 then [1000]else if r==6 then [1001]else if r==9 then [1001,1003]else if r==10 then [1010]else if r==15 then [1001,1002,1004,1006]else if r==17 then [1001,1002,1004,1005,1007]else if r==18 then [1003]else if r==20 then [1001,1002,1005,1007]else if r==21 then [1002]else if r==23 then [1001,1002,1004,1006,1008]else if r==24 then [1002,1006]else if r==30 then [1012]else []) (by with_unfolding_all rfl)) (nl W) ?_
 unfold Xi at h
 refine B4 (s0:=⟨T [(0,(.d _))],G []⟩) (F0 W W) ?_
 refine lr<|fun u1 _=>sm W<|A1<|B0<|sv W<|bs h fun v1 hv1 h=>A9 W W A3 (Py _ _ _ hv1) (.inl W) (sv W<|A1<|B0<|B8 (dl A4 [1500,600,1000,300]) W W (sv W<|sv W<|sv W<|bs h fun v2 hv2 h=>sd W (C4 W W hv2 W)<|sd W (C9 W hv2 W)<|sv W<|A1<|lr<|fun u4 _=>sm W<|A1<|A5<|B0<|sv W<|sv W<|A1<|bs h fun y1 hy1 h=>D6 (fun s=> ∃g1:(({d:Nat // d∈ [20,30,69,82,102,122]}×Nat)× ({d:Nat // d∈ [44,89,108,132]}×Nat)× ({d:Nat // d∈ [57,154]}×Nat)),Sb ⟨T [(0,(di v1)),(2,(.ptr (2,u1) 0)),(4,(.ptr (4,u4) 0))],G [((2,u1),some<|.box 33 [(di 0),(.d .nilS),(.d .nilS),(.d .nilS),(.d .nilS)]),((4,u4),some<|.box 33 [(di 0),(oS y1.1 (g1.1.1.val,g1.1.2)),(oS y1.2.1 (g1.2.1.1.val,g1.2.1.2)),(oS y1.2.2 (g1.2.2.1.val,g1.2.2.2)),(.d .nilS)]),((g1.1.1.val,g1.1.2),oB 63 5 Ev y1.1),((g1.2.1.1.val,g1.2.1.2),oB 117 2 Ew y1.2.1),((g1.2.2.1.val,g1.2.2.2),oB 120 2 Lq y1.2.2)]⟩ s) ?_ ?_))
 refine A7<|B0<|sv W<|sv W<|A1<|cc W hy1 (fun c1 hy1=> ?_)<|fun c1 hy1=> ?_
 refine As fun u7 _=>sv W<|B8 (dl A4 [0,0,60000,0]) W W (bs hy1 fun v3 hv3 hy1=>A9 W W (.cons (.refl _) (.cons (.refl _) (.cons DLe.nil A3))) (R5 _ _ _ _ _ hv3) (.inl W) (Mj (.sl _) (.arr 63 5 (List.map Ev ([v3]:List Lane))) W W (sq W<|S5 W (gq W) [(di 0),(.sl (20,u7)),(.d .nilS),(.d .nilS),(.d .nilS)] W (A1<|E0 ?_))))
 cases hy1
 exact U1 ⟨((⟨20, .head _⟩,u7),(⟨44, .head _⟩,0),(⟨57, .head _⟩,0)),(D8 (Y0 W)<|sg W<|B5 G_hit (.box (cv<|.cons (.of (T9<|List.cons_ne_nil _ _).symm) cw))<|N0 (gq W)<|R6<|R6 trivial)⟩
 refine A5<|B0<|sv W<|sv W<|A1<|bs hy1 fun y2 hy2 hy1=>D6 (fun s=> ∃g2:Unit,Sb ⟨T [(0,(di v1)),(2,(.ptr (2,u1) 0)),(3,(di v2)),(4,(.ptr (4,u4) 0)),(14,(di<|v1.tmod 7)),(22,(.d (bo y2)))],G [((2,u1),some<|.box 33 [(di 0),(.d .nilS),(.d .nilS),(.d .nilS),(.d .nilS)]),((4,u4),some<|.box 33 [(di 0),(.d .nilS),(.d .nilS),(.d .nilS),(.d .nilS)])]⟩ s) ?_ ?_
 refine cc W hy2 (fun c2 hy2=> ?_)<|fun c2 hy2=> ?_
 refine A8 ?_
 cases hy2
 exact U1 ⟨(),(F0 W W)⟩
 refine B9<|sv W<|sv W<|A1 ?_
 cases hy2
 exact U1 ⟨(),(F0 W W)⟩
 rintro _ ⟨g2,q1⟩
 refine B4 q1<|cc W hy1 (fun c3 hy1=> ?_)<|fun c3 hy1=> ?_
 refine lr<|fun u10 _=>sv W<|B8 (dl A4 [0,0,50000,0]) W W (bs hy1 fun v4 hv4 hy1=>A9 W W (.cons (.refl _) (.cons (.refl _) (.cons DLe.nil A3))) (R5 _ _ _ _ _ hv4) (.inl W) (B8 (dl A4 [30000,(-20000),30000,20000]) W W (bs hy1 fun v5 hv5 hy1=>A9 W W (.cons (.refl _) (.cons (.refl _) (.cons DLe.nil A3))) (R5 _ _ _ _ _ hv5) (.inl W) (Mj (.sl _) (.arr 63 5 (List.map Ev ([v4,v5]:List Lane))) W (Ln Ev _ (fun _=>W) W W ⟨W,W,W,W,W,W,trivial⟩) (sq W<|S5 W (gq W) [(di 0),(.sl (30,u10)),(.d .nilS),(.d .nilS),(.d .nilS)] W (A1<|lr<|fun u11 _=>sv W<|sv W<|sv W<|sv W<|sv W<|sv W<|sv W<|sv W<|sv W<|sv W<|B8 (dl At [(Part.mk 0 28000 32000 ((D9<|v1.tdiv 28).tmod 2)),(Part.mk 1 18000 22000<|D9 (2 - (D9 (2* ((D9<|v1.tdiv 28).tmod 2)))))]) W W (sv W<|Mj (.sl _) (.arr 117 2 (List.map Ew ([(Zone.mk [(Part.mk 0 28000 32000 ((D9<|v1.tdiv 28).tmod 2)),(Part.mk 1 18000 22000<|D9 (2 - (D9 (2* ((D9<|v1.tdiv 28).tmod 2)))))] 0)]:List Zone))) W W (sq W<|S5 W (gq W) [(di 0),(.sl (30,u10)),(.sl (44,u11)),(.d .nilS),(.d .nilS)] W (A1<|B0<|sv W<|sv W<|sv W<|A1<|cc W hy1 (fun c4 hy1=> ?_)<|fun c4 hy1=> ?_)))))))))
 refine B0<|sq W<|B8 (.sl _) W (P8 W G_hit W) (bs hy1 fun v6 hv6 hy1=>B8 (.aptr _ _ _ _) W (Ij W W (gq W) hv6) (B8 (.aptr _ _ _ _) W W (Ns Ew _ _ _ (0) _ (Zone.mk v6.Parts 1) [(i64 1)] W W W (gq W) hv6 (nl W) W (A1<|As fun u14 _=>sv W<|sv W<|sv W<|bs hy1 fun v7 hv7 hy1=>A9 W W A3 (Sa _ _ _ _ hv7) (.inl W) (Mj (.sl _) (.arr 120 2 (List.map Lq ([v7]:List Signal))) W W (sq W<|S5 W (gq W) [(di 0),(.sl (30,u10)),(.sl (44,u11)),(.sl (57,u14)),(.d .nilS)] W (A1<|E0 ?_)))))))
 cases hy1
 exact U1 ⟨((⟨30, .tail _ (.head _)⟩,u10),(⟨44, .head _⟩,u11),(⟨57, .head _⟩,u14)),(D8 (Y0 W)<|sg W<|B5 G_hit (.box (cv<|.cons (.of (T9<|List.cons_ne_nil _ _).symm) (.cons (.of (T9<|Xe<|List.cons_ne_nil _ _).symm) (.cons (.of (T9<|List.cons_ne_nil _ _).symm) cw))))<|N0 (gq W)<|N0 (gq W)<|N0 (gq W) trivial)⟩
 refine A8<|E0 ?_
 cases hy1
 exact U1 ⟨((⟨30, .tail _ (.head _)⟩,u10),(⟨44, .head _⟩,u11),(⟨57, .head _⟩,0)),(D8 (Y0 W)<|sg W<|B5 G_hit (.box (cv<|.cons (.of (T9<|List.cons_ne_nil _ _).symm) (.cons (.of (T9<|List.cons_ne_nil _ _).symm) cw)))<|N0 (gq W)<|N0 (gq W)<|R6 trivial)⟩
 refine B0<|sv W<|sv W<|A1<|cc W hy1 (fun c5 hy1=> ?_)<|fun c5 hy1=> ?_
 refine As fun u16 _=>sv W<|B8 (dl A4 [1,2]) W W (B8 (dl A4 [0,0,30000,0]) W W (bs hy1 fun v8 hv8 hy1=>A9 W W A3 (R5 _ _ _ _ _ hv8) (.inl W) (B8 (dl A4 [30000,0,60000,0]) W W (bs hy1 fun v9 hv9 hy1=>A9 W W (.cons (.refl _) (.cons (.refl _) (.cons DLe.nil A3))) (R5 _ _ _ _ _ hv9) (.inl W) (B8 (dl A4 [30000,0,54000,10000]) W W (bs hy1 fun v10 hv10 hy1=>A9 W W (.cons (.refl _) (.cons (.refl _) (.cons DLe.nil A3))) (R5 _ _ _ _ _ hv10) (.inl W) (Mj (.sl _) (.arr 63 5 (List.map Ev ([v8,v9,v10]:List Lane))) W (Ln Ev _ (fun _=>W) W W ⟨W,W,W,W,W,W,W,W,W,trivial⟩) (sq W<|S5 W (gq W) [(di 0),(.sl (69,u16)),(.d .nilS),(.d .nilS),(.d .nilS)] W (A1<|E0 ?_)))))))))
 cases hy1
 exact U1 ⟨((⟨69, .tail _ (.tail _ (.head _))⟩,u16),(⟨44, .head _⟩,0),(⟨57, .head _⟩,0)),(D8 (Y0 W)<|sg W<|B5 G_hit (.box (cv<|.cons (.of (T9<|List.cons_ne_nil _ _).symm) cw))<|N0 (gq W)<|R6<|R6 trivial)⟩
 refine B0<|sv W<|sv W<|A1<|cc W hy1 (fun c6 hy1=> ?_)<|fun c6 hy1=> ?_
 refine lr<|fun u18 _=>sv W<|B8 (dl A4 [2]) W W (B8 (dl A4 [0,0,30000,0]) W W (bs hy1 fun v11 hv11 hy1=>A9 W W A3 (R5 _ _ _ _ _ hv11) (.inl W) (B8 (dl A4 [2]) W W (B8 (dl A4 [6000,(-10000),30000,0]) W W (bs hy1 fun v12 hv12 hy1=>A9 W W A3 (R5 _ _ _ _ _ hv12) (.inl W) (B8 (dl A4 [30000,0,60000,0]) W W (bs hy1 fun v13 hv13 hy1=>A9 W W (.cons (.refl _) (.cons (.refl _) (.cons DLe.nil A3))) (R5 _ _ _ _ _ hv13) (.inl W) (Mj (.sl _) (.arr 63 5 (List.map Ev ([v11,v12,v13]:List Lane))) W (Ln Ev _ (fun _=>W) W W ⟨W,W,W,W,W,W,W,W,W,trivial⟩) (sq W<|S5 W (gq W) [(di 0),(.sl (82,u18)),(.d .nilS),(.d .nilS),(.d .nilS)] W (A1<|As fun u19 _=>sv W<|sv W<|sv W<|B8 (dl At [(Part.mk 0 25000 30000 1),(Part.mk 1 20000 26000 0),(Part.mk 2 0 5000 0)]) W (CZ At ([(Part.mk 0 25000 30000 1),(Part.mk 1 20000 26000 0),(Part.mk 2 0 5000 0)]:List Part) (fun _=>W) W W ⟨W,W,W,W,W,W,W,W,W,trivial⟩ (fun _=>W)) (sv W<|Mj (.sl _) (.arr 117 2 (List.map Ew ([(Zone.mk [(Part.mk 0 25000 30000 1),(Part.mk 1 20000 26000 0),(Part.mk 2 0 5000 0)] 0)]:List Zone))) W W (sq W<|S5 W (gq W) [(di 0),(.sl (82,u18)),(.sl (89,u19)),(.d .nilS),(.d .nilS)] W (A1<|E0 ?_)))))))))))))
 cases hy1
 exact U1 ⟨((⟨82, .tail _ (.tail _ (.tail _ (.head _)))⟩,u18),(⟨89, .tail _ (.head _)⟩,u19),(⟨57, .head _⟩,0)),(D8 (Y0 W)<|sg W<|B5 G_hit (.box (cv<|.cons (.of (T9<|List.cons_ne_nil _ _).symm) (.cons (.of (T9<|List.cons_ne_nil _ _).symm) cw)))<|N0 (gq W)<|N0 (gq W)<|R6 trivial)⟩
 refine B0<|sv W<|sv W<|A1<|cc W hy1 (fun c7 hy1=> ?_)<|fun c7 hy1=> ?_
 refine lr<|fun u21 _=>sv W<|B8 (dl A4 [1]) W W (B8 (dl A4 [0,0,20000,0]) W W (bs hy1 fun v14 hv14 hy1=>A9 W W A3 (R5 _ _ _ _ _ hv14) (.inl W) (sv W<|B8 (dl A4 [20000,0,50000,0]) W W (bs hy1 fun v15 hv15 hy1=>A9 W W (.cons (.refl _) (.cons (.refl _) (.cons DLe.nil A3))) (R5 _ _ _ _ _ hv15) (.inl W) (B8 (dl A4 [35000,(-8000),35000,8000]) W W (bs hy1 fun v16 hv16 hy1=>A9 W W (.cons (.refl _) (.cons (.refl _) (.cons DLe.nil A3))) (R5 _ _ _ _ _ hv16) (.inl W) (Mj (.sl _) (.arr 63 5 (List.map Ev ([v14,v15,v16]:List Lane))) W (Ln Ev _ (fun _=>W) W W ⟨W,W,W,W,W,W,W,W,W,trivial⟩) (sq W<|S5 W (gq W) [(di 0),(.sl (102,u21)),(.d .nilS),(.d .nilS),(.d .nilS)] W (A1<|As fun u22 _=>sv W<|sv W<|B8 (dl At [(Part.mk 1 14000 16000 0),(Part.mk 2 6000 10000 3)]) W W (sv W<|Mj (.sl _) (.arr 117 2 (List.map Ew ([(Zone.mk [(Part.mk 1 14000 16000 0),(Part.mk 2 6000 10000 3)] 0)]:List Zone))) W W (sq W<|S5 W (gq W) [(di 0),(.sl (102,u21)),(.sl (108,u22)),(.d .nilS),(.d .nilS)] W (A1<|E0 ?_))))))))))))
 cases hy1
 exact U1 ⟨((⟨102, .tail _ (.tail _ (.tail _ (.tail _ (.head _))))⟩,u21),(⟨108, .tail _ (.tail _ (.head _))⟩,u22),(⟨57, .head _⟩,0)),(D8 (Y0 W)<|sg W<|B5 G_hit (.box (cv<|.cons (.of (T9<|List.cons_ne_nil _ _).symm) (.cons (.of (T9<|List.cons_ne_nil _ _).symm) cw)))<|N0 (gq W)<|N0 (gq W)<|R6 trivial)⟩
 refine B0<|sv W<|sv W<|A1<|cc W hy1 (fun c8 hy1=> ?_)<|fun c8 hy1=> ?_
 refine lr<|fun u24 _=>sv W<|B8 (dl A4 [1,2]) W W (B8 (dl A4 [0,0,20000,0]) W W (bs hy1 fun v17 hv17 hy1=>A9 W W A3 (R5 _ _ _ _ _ hv17) (.inl W) (B8 (dl A4 [20000,0,50000,0]) W W (bs hy1 fun v18 hv18 hy1=>A9 W W (.cons (.refl _) (.cons (.refl _) (.cons DLe.nil A3))) (R5 _ _ _ _ _ hv18) (.inl W) (B8 (dl A4 [20000,0,44000,10000]) W W (bs hy1 fun v19 hv19 hy1=>A9 W W (.cons (.refl _) (.cons (.refl _) (.cons DLe.nil A3))) (R5 _ _ _ _ _ hv19) (.inl W) (B8 (dl A4 [36000,(-12000),36000,18000]) W W (bs hy1 fun v20 hv20 hy1=>A9 W W (.cons (.refl _) (.cons (.refl _) (.cons DLe.nil A3))) (R5 _ _ _ _ _ hv20) (.inl W) (Mj (.sl _) (.arr 63 5 (List.map Ev ([v17,v18,v19,v20]:List Lane))) W (Ln Ev _ (fun _=>W) W W ⟨W,W,W,W,W,W,W,W,W,W,W,W,trivial⟩) (sq W<|S5 W (gq W) [(di 0),(.sl (122,u24)),(.d .nilS),(.d .nilS),(.d .nilS)] W (A1<|lr<|fun u25 _=>sv W<|sv W<|B8 (dl At [(Part.mk 1 14000 18000 1),(Part.mk 3 10000 14000 0)]) W W (sv W<|sv W<|sv W<|B8 (dl At [(Part.mk 2 14000 21000 1),(Part.mk 3 14500 23000 0)]) W W (sv W<|Mj (.sl _) (.arr 117 2 (List.map Ew ([(Zone.mk [(Part.mk 1 14000 18000 1),(Part.mk 3 10000 14000 0)] 0),(Zone.mk [(Part.mk 2 14000 21000 1),(Part.mk 3 14500 23000 0)] 0)]:List Zone))) W W (sq W<|S5 W (gq W) [(di 0),(.sl (122,u24)),(.sl (132,u25)),(.d .nilS),(.d .nilS)] W (A1<|B0<|sv W<|sv W<|sv W<|sv W<|A1<|cc W hy1 (fun c9 hy1=> ?_)<|fun c9 hy1=> ?_)))))))))))))))
 refine A5<|Pc fun _ _=>N1 (.ptr _ _) W W (N1 (.sl _) W (P8 W G_hit W) (N1 (.ptr _ _) W W (N1 (.sl _) W (P8 W G_hit W) (bs hy1 fun v21 hv21 hy1=>N1 (.aptr _ _ _ _) W (Ij W W (gq W) hv21) (N1 (.aptr _ _ _ _) W W (PA Ew _ _ _ (0) _ (Zone.mk v21.Parts 1) [(i64 1)] W W W (gq W) hv21 (nl W) W (bs hy1 fun v22 hv22 hy1=>N1 (.aptr _ _ _ _) W (Ij W W G_hit hv22) (N1 (.aptr _ _ _ _) W W (PA Ew _ _ _ (1) _ (Zone.mk v22.Parts 2) [(i64 2)] W W W G_hit hv22 (nl W) W (BD ⟨W,?_⟩))))))))))
 refine As fun u28 _=>sv W<|sv W<|sv W<|bs hy1 fun v23 hv23 hy1=>A9 W W A3 (Sa _ _ _ _ hv23) (.inl W) (sv W<|sv W<|sv W<|bs hy1 fun v24 hv24 hy1=>A9 W W A3 (Sa _ _ _ _ hv24) (.inl W) (Mj (.sl _) (.arr 120 2 (List.map Lq ([v23,v24]:List Signal))) W W (sq W<|S5 W (gq W) [(di 0),(.sl (122,u24)),(.sl (132,u25)),(.sl (154,u28)),(.d .nilS)] W (A1<|E0 ?_))))
 cases hy1
 exact U1 ⟨((⟨122, .tail _ (.tail _ (.tail _ (.tail _ (.tail _ (.head _)))))⟩,u24),(⟨132, .tail _ (.tail _ (.tail _ (.head _)))⟩,u25),(⟨154, .tail _ (.head _)⟩,u28)),(D8 (Y0 W)<|sg W<|B5 G_hit (.box (cv<|.cons (.of (T9<|List.cons_ne_nil _ _).symm) (.cons (.of (T9<|Xe<|Xe<|List.cons_ne_nil _ _).symm) (.cons (.of (T9<|List.cons_ne_nil _ _).symm) cw))))<|N0 (gq W)<|N0 (gq W)<|N0 (gq W) trivial)⟩
 refine A8<|E0 ?_
 cases hy1
 exact U1 ⟨((⟨122, .tail _ (.tail _ (.tail _ (.tail _ (.tail _ (.head _)))))⟩,u24),(⟨132, .tail _ (.tail _ (.tail _ (.head _)))⟩,u25),(⟨57, .head _⟩,0)),(D8 (Y0 W)<|sg W<|B5 G_hit (.box (cv<|.cons (.of (T9<|List.cons_ne_nil _ _).symm) (.cons (.of (T9<|List.cons_ne_nil _ _).symm) cw)))<|N0 (gq W)<|N0 (gq W)<|R6 trivial)⟩
 refine A8<|E0 ?_
 cases hy1
 exact U1 ⟨((⟨20, .head _⟩,0),(⟨44, .head _⟩,0),(⟨57, .head _⟩,0)),(D8 (Y0 W)<|B5 G_hit (.of W)<|sg W<|R6<|R6<|R6 trivial)⟩
 rintro _ ⟨g1,q2⟩
 refine B4 q2<|B0<|sv W<|sv W<|sv W<|sq W<|S5 W (gq W) [(di ((D9<|v1.tdiv 28).tmod 5)),(oS y1.1 (g1.1.1.val,g1.1.2)),(oS y1.2.1 (g1.2.1.1.val,g1.2.1.2)),(oS y1.2.2 (g1.2.2.1.val,g1.2.2.2)),(.d .nilS)] W (A1<|A5<|B0<|sv W<|sv W<|sv W<|sv W<|A1<|cc W h (fun c10 h=> ?_)<|fun c10 h=> ?_)
 refine B9<|sv W<|sv W<|sv W<|sv W<|sv W<|sv W<|sv W<|sv W<|sv W<|sv W<|sv W<|sv W<|B8 (dl Sp [(Work.mk 0 10000 15000 ((D9<|v1.tdiv 5208).tmod 40) (D9 (((D9<|v1.tdiv 5208).tmod 40)+20)) (D9 (((D9<|v1.tdiv 208320).tmod 3)*200)))]) W W (sq W<|S5 W G_hit [(di ((D9<|v1.tdiv 28).tmod 5)),(oS y1.1 (g1.1.1.val,g1.1.2)),(oS y1.2.1 (g1.2.1.1.val,g1.2.1.2)),(oS y1.2.2 (g1.2.2.1.val,g1.2.2.2)),(dl Sp [(Work.mk 0 10000 15000 ((D9<|v1.tdiv 5208).tmod 40) (D9 (((D9<|v1.tdiv 5208).tmod 40)+20)) (D9 (((D9<|v1.tdiv 208320).tmod 3)*200)))])] W (A1<|B0<|B8 (W2 [(di ((D9<|v1.tdiv 28).tmod 5)),(oS y1.1 (g1.1.1.val,g1.1.2)),(oS y1.2.1 (g1.2.1.1.val,g1.2.1.2)),(oS y1.2.2 (g1.2.2.1.val,g1.2.2.2)),(dl Sp [(Work.mk 0 10000 15000 ((D9<|v1.tdiv 5208).tmod 40) (D9 (((D9<|v1.tdiv 5208).tmod 40)+20)) (D9 (((D9<|v1.tdiv 208320).tmod 3)*200)))])]) W (B2 W G_hit W W) (Ie _ _ _ _ _ (V8 _) W W (gq W) (nl W) [(di ((D9<|v1.tdiv 28).tmod 5)),(oS y1.1 (g1.1.1.val,g1.1.2)),(oS y1.2.1 (g1.2.1.1.val,g1.2.1.2)),(oS y1.2.2 (g1.2.2.1.val,g1.2.2.2)),(dl Sp [(Work.mk 0 10000 15000 ((D9<|v1.tdiv 5208).tmod 40) (D9 (((D9<|v1.tdiv 5208).tmod 40)+20)) (D9 (((D9<|v1.tdiv 208320).tmod 3)*200)))])] W (A1<|B1 ?_))))
 cases h
 exact A6 (.inr W) (B6 (H5 W G_hit (nl W) W)<|Lk<|rD<|E4 (S9<|Tl g1.1.1.property 5 W G_hit)<|E4 (S9<|Tl g1.2.1.1.property 5 W<|F1 (VD g1.2.1.1.property g1.1.1.property W) G_hit)<|E4 (S9<|Tl g1.2.2.1.property 5 W<|F1 (VD g1.2.2.1.property g1.1.1.property W)<|F1 (VD g1.2.2.1.property g1.2.1.1.property W) G_hit)<|rD F9) (.agg (ca W<|.cons ⟨S8,W⟩ (.cons ⟨S8,W⟩ (.cons ⟨S8,W⟩ (cz W)))))
 refine A8<|B0<|B8 (W2 [(di ((D9<|v1.tdiv 28).tmod 5)),(oS y1.1 (g1.1.1.val,g1.1.2)),(oS y1.2.1 (g1.2.1.1.val,g1.2.1.2)),(oS y1.2.2 (g1.2.2.1.val,g1.2.2.2)),(.d .nilS)]) W (B2 W G_hit W W) (Ie _ _ _ _ _ (V8 _) W W (gq W) (nl W) [(di ((D9<|v1.tdiv 28).tmod 5)),(oS y1.1 (g1.1.1.val,g1.1.2)),(oS y1.2.1 (g1.2.1.1.val,g1.2.1.2)),(oS y1.2.2 (g1.2.2.1.val,g1.2.2.2)),(.d .nilS)] W (A1<|B1 ?_))
 cases h
 exact A6 (.inr W) (B6 (H5 W G_hit (nl W) W)<|Lk<|rD<|E4 (S9<|Tl g1.1.1.property 4 W G_hit)<|E4 (S9<|Tl g1.2.1.1.property 4 W<|F1 (VD g1.2.1.1.property g1.1.1.property W) G_hit)<|E4 (S9<|Tl g1.2.2.1.property 4 W<|F1 (VD g1.2.2.1.property g1.1.1.property W)<|F1 (VD g1.2.2.1.property g1.2.1.1.property W) G_hit)<|rD F9) (.agg (ca W<|.cons ⟨S8,W⟩ (.cons ⟨S8,W⟩ (.cons ⟨S8,W⟩ (.cons ⟨DLe.nil,W⟩ .nil)))))
def Cc (p1:Int)(p2:Int)(p3:Int):Option Bool:=
  some ((decide (p1≥p2))&& (decide (p1≤p3)))
theorem Do(p1 p2 p3 r)(h:Cc p1 p2 p3=some r):PCall prog 162 [(i64 p1),(i64 p2),(i64 p3)] (bo r):=by
 refine C2 (fk func162 ntmps162 m0 (by with_unfolding_all rfl)) (nl W) ?_
 unfold Cc at h
 refine B4 (s0:=⟨T [(0,(.d _)),(1,(.d _)),(2,(.d _))],G []⟩) (F0 W W) ?_
 refine B0<|sv W<|A1<|B0<|sv W<|sv W<|sv W<|sv W<|gt W (fun _=>W)<|gt W (fun _=>W)<|gt W (fun w3=>(M4 (A2 w3) (A2 w3) W))<|sa W W W<|sv W<|A1<|B1 ?_
 cases h
 exact A6 (.inr W) (B6 (B3 W) C0) (.refl _)
def Nv (p1:Spot):Option Bool:=
  some ((((decide (p1.X≥(-16777216)))&& (decide (p1.X≤16777216)))&& (decide (p1.Y≥(-16777216))))&& (decide (p1.Y≤16777216)))
theorem HG(p1 r)(h:Nv p1=some r):PCall prog 234 [(.agg [(i64 p1.X),(i64 p1.Y)])] (bo r):=by
 refine C2 (fk func234 ntmps234 m0 (by with_unfolding_all rfl)) (nl W) ?_
 unfold Nv at h
 refine B4 (s0:=⟨T [(0,(.d _))],G []⟩) (F0 W W) ?_
 refine B0<|sm W<|sv W<|A1<|B0<|sq W<|sl W G_hit W<|sv W<|sv W<|gp W (K3 W) (fun _=>W) (gt W (vl W G_hit W)<|gt W (vb W W W)<|sa W W W<|sv W<|gp W (K3 W) (fun _=>W) (gt W (vl W G_hit W)<|gt W (vb W W W)<|sa W W W<|sv W<|gp W (K3 W) (fun _=>W) (gt W (vl W G_hit W)<|gt W (vb W W W)<|sa W W W<|sv W<|A1<|B1 ?_)))
 cases h
 exact A6 (.inr W) (B6 (B3 W) C0) (.refl _)
def Ik (p1:Spot)(p2:Spot):Option Spot:=
  some (Spot.mk (D9 (p1.X - p2.X)) (D9 (p1.Y - p2.Y)))
theorem Qa(p1 p2 r)(h:Ik p1 p2=some r):PCall prog 136 [(.agg [(i64 p1.X),(i64 p1.Y)]),(.agg [(i64 p2.X),(i64 p2.Y)])] (.agg [(i64 r.X),(i64 r.Y)]):=by
 refine C2 (fk func136 ntmps136 m0 (by with_unfolding_all rfl)) (nl W) ?_
 unfold Ik at h
 refine B4 (s0:=⟨T [(0,(.d _)),(1,(.d _))],G []⟩) (F0 W W) ?_
 refine B0<|sm W<|sn W W<|sm W<|A1<|B0<|sq W<|sl W (gq W) W (sq W<|sl W (gq W) W (sv W<|sq W<|sl W (gq W) W (sq W<|sl W (gq W) W (sv W<|sv W<|S5 W G_hit [(di<|D9 (p1.X - p2.X)),(di<|D9 (p1.Y - p2.Y))] W (A1<|B1 ?_)))))
 cases h
 exact A6 (.inr W) (B6 (H5 W G_hit (nl W) W) C0) (.refl _)
def Ky (p1:Spot)(p2:Spot):Option Int:=
  some (D9 ((D9 (p1.X*p2.X))+ (D9 (p1.Y*p2.Y))))
theorem Pe(p1 p2 r)(h:Ky p1 p2=some r):PCall prog 203 [(.agg [(i64 p1.X),(i64 p1.Y)]),(.agg [(i64 p2.X),(i64 p2.Y)])] (i64 r):=by
 refine C2 (fk func203 ntmps203 m0 (by with_unfolding_all rfl)) (nl W) ?_
 unfold Ky at h
 refine B4 (s0:=⟨T [(0,(.d _)),(1,(.d _))],G []⟩) (F0 W W) ?_
 refine B0<|sm W<|sn W W<|sv W<|A1<|B0<|sq W<|sl W (gq W) W (sq W<|sl W G_hit W<|sv W<|sq W<|sl W (gq W) W (sq W<|sl W G_hit W<|sv W<|sv W<|sv W<|A1<|B1 ?_))
 cases h
 exact A6 (.inr W) (B6 (B3 W) C0) (.refl _)
def Kb (p1:Int)(x1:(Int×Int)):Option (Stp (Int×Int) Int):=
  cond (decide (x1.2>0)) (cond (decide ((D9 ((D9 (x1.1+x1.2))* (D9 (x1.1+x1.2))))≤p1)) (some (.go ((D9 (x1.1+x1.2)),(D9 (x1.2.tdiv 2))))) (some (.go (x1.1,(D9 (x1.2.tdiv 2)))))) (some (.out x1.1))
def Il [Lp](p1:Int):Option Int:=
  (loop (Kb p1) (0,67108864)).bind fun y1=>some y1
theorem Yb(p1 r)(h:Il p1=some r):PCall prog 202 [(i64 p1)] (i64 r):=by
 refine C2 (fk func202 ntmps202 m0 (by with_unfolding_all rfl)) (nl W) ?_
 unfold Il at h
 refine B4 (s0:=⟨T [(0,(.d _))],G []⟩) (F0 W W) ?_
 refine B0<|sv W<|A1<|B0<|sv W<|A1<|A5<|B0<|sv W<|A1<|bs h fun y1 hy1 h=>D6 (fun s=> ∃g1:Unit,Sb ⟨T [(3,(di y1))],G []⟩ s) ?_ ?_
 refine A7<|E1 (Kb p1) (fun (x1:(Int×Int)) (g2:Unit)=>⟨T [(0,(di p1)),(3,(di x1.1)),(4,(di x1.2))],G []⟩) (0,67108864) () _ hy1 (F0 W W) ?_
 intro x1 g2 z1 hz1 ez1
 unfold Kb at hz1
 refine A5<|B0<|sv W<|sv W<|A1<|cc W hz1 (fun c1 hz1=> ?_)<|fun c1 hz1=> ?_
 refine A8<|A5<|A7<|B0<|sv W<|sv W<|sv W<|sv W<|sv W<|sv W<|sv W<|sv W<|sv W<|A1<|cc W hz1 (fun c2 hz1=> ?_)<|fun c2 hz1=> ?_
 refine B9<|sv W<|sv W<|sv W<|sv W<|A1<|E0<|B9<|sv W<|sv W<|sv W<|A1<|E2 ?_
 cases hz1
 exact ⟨W,(),(F0 W W)⟩
 refine A8<|E0<|B9<|sv W<|sv W<|sv W<|A1<|E2 ?_
 cases hz1
 exact ⟨W,(),(F0 W W)⟩
 refine C7 W ?_
 cases hz1
 obtain rfl:=ez1 _ rfl
 refine ⟨nofun,C5 W<|U1 ?_⟩
 exact ⟨(),(F0 W W)⟩
 rintro _ ⟨g1,q1⟩
 refine B4 q1<|B0<|sv W<|sv W<|A1<|B1 ?_
 cases h
 exact A6 (.inr W) (B6 (B3 W) C0) (.refl _)
def Cw [Lp](p1:Curve)(x2:Int):Option (Stp Int (Sum Unit Int)):=
  cond (decide ((D9 (x2+1))< (p1.Pts.length:Int))) ((C3 p1.Pts (D9 (x2+1))).bind fun v3=>(C3 p1.Pts x2).bind fun v4=>(Ik v3 v4).bind fun v5=>(Ky v5 v5).bind fun v6=>(Il v6).bind fun v7=>(Ky v5 v5).bind fun v8=>cond ((D9 (v7*v7)) !=v8) (some (.out (.inr 3))) (cond ((decide (v7<1000))||(decide (v7>1048576))) (some (.out (.inr 2))) (((cond (decide (x2>0)) (C3 p1.Pts x2) (some default))).bind fun v9=>((cond (decide (x2>0)) (C3 p1.Pts (D9 (x2 - 1))) (some default))).bind fun v10=>((cond (decide (x2>0)) (Ik v9 v10) (some default))).bind fun v11=>((cond (decide (x2>0)) (Ky v5 v11) (some default))).bind fun v12=>cond ((decide (x2>0))&& (decide (v12≤0))) (some (.out (.inr 12))) (some (.go (D9 (x2+1))))))) (some (.out (.inl ())))
def Cx (p1:Curve)(x1:Int):Option (Stp Int (Sum Unit Int)):=
  cond (decide (x1< (p1.Pts.length:Int))) ((C3 p1.Pts x1).bind fun v1=>(Nv v1).bind fun v2=>cond (!v2) (some (.out (.inr 2))) (some (.go (D9 (x1+1))))) (some (.out (.inl ())))
def Kz [Lp](p1:Curve):Option Int:=
  cond (decide ((p1.Pts.length:Int)<2)) (some 6) (cond (decide ((p1.Pts.length:Int)>16)) (some 5) (thenS (loop (Cx p1) 0) (fun _=>thenS (loop (Cw p1) 0) (fun _=>some 0) (fun r=>some r)) (fun r=>some r)))
theorem We(p1 r)(h:Kz p1=some r):PCall prog 201 [(.agg [(.list (List.map Bk p1.Pts))])] (i64 r):=by
 refine C2 (fk func201 ntmps201 m0 (by with_unfolding_all rfl)) (nl W) ?_
 unfold Kz at h
 refine B4 (s0:=⟨T [(0,(.d _))],G []⟩) (F0 W W) ?_
 refine lr<|fun u1 _=>sm W<|sv W<|A1<|A5<|B0<|sq W<|sl W G_hit W<|sd W (D3 W)<|sv W<|A1<|cc W h (fun c1 h=> ?_)<|fun c1 h=> ?_
 refine B0<|sv W<|A1<|B1 ?_
 cases h
 exact A6 (.inr W) (B6 (B3 W) C0) (.refl _)
 refine A8<|A5<|B0<|sq W<|sl W G_hit W<|sd W (D3 W)<|sv W<|A1<|cc W h (fun c2 h=> ?_)<|fun c2 h=> ?_
 refine B0<|sv W<|A1<|B1 ?_
 cases h
 exact A6 (.inr W) (B6 (B3 W) C0) (.refl _)
 refine A8<|A5<|B0<|sv W<|A1<|js h fun z1 hz1 h=>D6 (fun s=> ∃(y1:Unit) (g1:Unit),z1= .inl y1∧Sb ⟨T [(1,(.ptr (1,u1) 0))],G [((1,u1),some<|.box 61 [(dl Bk p1.Pts)])]⟩ s) ?_ ?_
 refine A7<|E1 (Cx p1) (fun (x1:Int) (g2:Unit)=>⟨T [(1,(.ptr (1,u1) 0)),(3,(di x1))],G [((1,u1),some<|.box 61 [(dl Bk p1.Pts)])]⟩) 0 () _ hz1 (F0 W W) ?_
 intro x1 g2 z2 hz2 ez2
 unfold Cx at hz2
 refine A5<|B0<|sv W<|sq W<|sl W G_hit W<|sd W (D3 W)<|sv W<|A1<|cc W hz2 (fun c3 hz2=> ?_)<|fun c3 hz2=> ?_
 refine A8<|A5<|A7<|B0<|sq W<|sl W G_hit W<|sv W<|bs hz2 fun _ hv1 hz2=>sd W (C4 W W hv1 W)<|sd W (D1 W hv1 W W)<|bs hz2 fun v2 hv2 hz2=>A9 W W A3 (HG _ _ hv2) (.inl W) (B8 (.d (bo (!v2))) W W (A1<|cc W hz2 (fun c4 hz2=> ?_)<|fun c4 hz2=> ?_))
 refine B0<|sv W<|A1<|B1 ?_
 cases hz2
 obtain rfl:=ez2 _ rfl
 refine ⟨nofun,F2 ?_⟩
 rw [bX]at h
 cases h
 exact A6 (.inr W) (B6 (B3 W) C0) (.refl _)
 refine A8<|E0<|B9<|sv W<|sv W<|sv W<|A1<|E2 ?_
 cases hz2
 exact ⟨W,(),(F0 W W)⟩
 refine C7 W ?_
 cases hz2
 obtain rfl:=ez2 _ rfl
 refine ⟨nofun,C5 W<|U1 ?_⟩
 exact ⟨_,(),W,(F0 W W)⟩
 rintro _ ⟨y1,g1,rfl,q1⟩
 rw [bW]at h
 refine B4 q1<|A5<|B0<|sv W<|A1<|js h fun z3 hz3 h=>D6 (fun s=> ∃(y2:Unit) (g3:Unit),z3= .inl y2∧Sb ⟨T [],G []⟩ s) ?_ ?_
 refine A7<|E1 (Cw p1) (fun (x2:Int) (g4:Unit)=>⟨T [(1,(.ptr (1,u1) 0)),(4,(di x2))],G [((1,u1),some<|.box 61 [(dl Bk p1.Pts)])]⟩) 0 () _ hz3 (F0 W W) ?_
 intro x2 g4 z4 hz4 ez4
 unfold Cw at hz4
 refine A5<|B0<|sv W<|sv W<|sq W<|sl W G_hit W<|sd W (D3 W)<|sv W<|A1<|cc W hz4 (fun c5 hz4=> ?_)<|fun c5 hz4=> ?_
 refine A8<|A5<|A7<|A5<|E8 W<|sq W<|sl W G_hit W<|sv W<|sv W<|bs hz4 fun _ hv3 hz4=>sd W (C4 W W hv3 W)<|sd W (D1 W hv3 W W)<|sq W<|sl W G_hit W<|sv W<|bs hz4 fun _ hv4 hz4=>sd W (C4 W W hv4 W)<|sd W (D1 W hv4 W W)<|bs hz4 fun v5 hv5 hz4=>A9 W W A3 (Qa _ _ _ hv5) (.inl W) (sm W<|S5 W G_hit [(di v5.X),(di v5.Y)] W (A1<|B0<|sd W (B2 W G_hit W W)<|sd W (B2 W G_hit W W)<|bs hz4 fun _ hv6 hz4=>A9 W W A3 (Pe _ _ _ hv6) (.inl W) (bs hz4 fun _ hv7 hz4=>A9 W W A3 (Yb _ _ hv7) (.inl W) (sv W<|A1<|A5<|B0<|sv W<|sv W<|sv W<|sd W (B2 W G_hit W W)<|sd W (B2 W G_hit W W)<|bs hz4 fun _ hv8 hz4=>A9 W W A3 (Pe _ _ _ hv8) (.inl W) (sv W<|A1<|cc W hz4 (fun c6 hz4=> ?_)<|fun c6 hz4=> ?_)))))
 refine B0<|sv W<|A1<|B1 ?_
 cases hz4
 obtain rfl:=ez4 _ rfl
 refine ⟨nofun,F2 ?_⟩
 rw [bX]at h
 cases h
 exact A6 (.inr W) (B6 (B3 W) C0) (.refl _)
 refine A8<|A5<|B0<|sv W<|sv W<|sv W<|gf W (fun _=>W)<|gf W (vb W W W)<|sd W (O5 W W<|fun hc=>A2<|J6 hc)<|A1<|cc W hz4 (fun c7 hz4=> ?_)<|fun c7 hz4=> ?_
 refine B0<|sv W<|A1<|B1 ?_
 cases hz4
 obtain rfl:=ez4 _ rfl
 refine ⟨nofun,F2 ?_⟩
 rw [bX]at h
 cases h
 exact A6 (.inr W) (B6 (B3 W) C0) (.refl _)
 refine A8<|A5<|E8 W<|sv W<|sv W<|sv W<|gt W (fun _=>(B2 W G_hit W W))<|gp W (K3 W) (fun _=>W) (gt W (vl W (gq W) W)<|gt W (fun _=>W)<|bs hz4 fun v9 hv9 hz4=>gt W (fun w7=>(C4 (A2 w7) (A2 w7) (C1 w7 hv9) W))<|gt W (fun w8=>(D1 (A2 w8) (C1 w8 hv9) W W))<|gp W (K3 W) (fun _=>W) (gt W (vl W (gq W) W)<|gt W (fun _=>W)<|gt W (vb W W W)<|bs hz4 fun v10 hv10 hz4=>gt W (fun w13=>(C4 (A2 w13) (A2 w13) (C1 w13 hv10) W))<|gt W (fun w14=>(D1 (A2 w14) (C1 w14 hv10) W W))<|bs hz4 fun v11 hv11 hz4=> ?_))
 refine N4 _ (.agg [(i64 v11.X),(i64 v11.Y)]) (K3 W) (fun w15=>⟨_,[(.d (.agg [(i64 v9.X),(i64 v9.Y)])),(.d (.agg [(i64 v10.X),(i64 v10.Y)]))],_,_,(by simp only [A2 w15];rfl),W,A3,Qa _ _ _<|C1 w15 hv11,(.inl W)⟩) ?_
 refine bs hz4 fun v12 hv12 hz4=> ?_
 refine N4 _ (i64 v12) (K3 W) (fun w16=>⟨_,[(.d (.agg [(i64 v5.X),(i64 v5.Y)])),(.d (.agg [(i64 v11.X),(i64 v11.Y)]))],_,_,(by simp only [A2 w16];rfl),W,A3,Pe _ _ _<|C1 w16 hv12,(.inl W)⟩) ?_
 refine gt W (vb W W W)<|sa W W W<|A1<|cc W hz4 (fun c8 hz4=> ?_)<|fun c8 hz4=> ?_
 refine B0<|sv W<|A1<|B1 ?_
 cases hz4
 obtain rfl:=ez4 _ rfl
 refine ⟨nofun,F2 ?_⟩
 rw [bX]at h
 cases h
 exact A6 (.inr W) (B6 (B3 W) C0) (.refl _)
 refine A8<|E0<|B9<|sv W<|sv W<|sv W<|A1<|E2 ?_
 cases hz4
 exact ⟨W,(),(F0 W W)⟩
 refine C7 W ?_
 cases hz4
 obtain rfl:=ez4 _ rfl
 refine ⟨nofun,C5 W<|U1 ?_⟩
 exact ⟨_,(),W,(F0 W W)⟩
 rintro _ ⟨y2,g3,rfl,q2⟩
 rw [bW]at h
 refine B4 q2<|B0<|sv W<|A1<|B1 ?_
 cases h
 exact A6 (.inr W) (B6 (B3 W) C0) (.refl _)
def Du (p1:Int):Option (Int×Int×Int):=
  cond (p1==1) (some (2000,30,90)) (cond (p1==2) (some (1000,20,60)) (cond (p1==3) (some (300,100,300)) (some (0,0,0))))
theorem Kl(p1 r)(h:Du p1=some r):PCall prog 35 [(i64 p1)] (.tup [(i64 r.1),(i64 r.2.1),(i64 r.2.2)]):=by
 refine C2 (fk func35 ntmps35 m0 (by with_unfolding_all rfl)) (nl W) ?_
 unfold Du at h
 refine B4 (s0:=⟨T [(0,(.d _))],G []⟩) (F0 W W) ?_
 refine B0<|sv W<|sv W<|sv W<|A1<|A5<|B0<|sv W<|A1<|A7<|B0<|sv W<|sv W<|A1<|cc W h (fun c1 h=> ?_)<|fun c1 h=> ?_
 refine B0<|sv W<|sv W<|sv W<|A1<|B1 ?_
 cases h
 exact A6 (.inr W) (AU (B3 W) (B3 W) (B3 W) C0 C0 C0) (.refl _)
 refine B0<|sv W<|sv W<|A1<|cc W h (fun c2 h=> ?_)<|fun c2 h=> ?_
 refine B0<|sv W<|sv W<|sv W<|A1<|B1 ?_
 cases h
 exact A6 (.inr W) (AU (B3 W) (B3 W) (B3 W) C0 C0 C0) (.refl _)
 refine B0<|sv W<|sv W<|A1<|cc W h (fun c3 h=> ?_)<|fun c3 h=> ?_
 refine B0<|sv W<|sv W<|sv W<|A1<|B1 ?_
 cases h
 exact A6 (.inr W) (AU (B3 W) (B3 W) (B3 W) C0 C0 C0) (.refl _)
 refine A8<|E0<|B0<|sv W<|sv W<|sv W<|A1<|B1 ?_
 cases h
 exact A6 (.inr W) (AU (B3 W) (B3 W) (B3 W) C0 C0 C0) (.refl _)
def Al (p1:(List Int))(p2:Int)(p3:Int)(x1:Int):Option (Stp Int (Sum Unit Bool)):=
  cond (decide (x1< (p1.length:Int))) ((C3 p1 x1).bind fun v1=>((cond (!(decide (v1<p2))) (C3 p1 x1) (some default))).bind fun v2=>((cond ((!((decide (v1<p2))||(decide (v2≥p3))))&& (decide (x1>0))) (C3 p1 x1) (some default))).bind fun v3=>((cond ((!((decide (v1<p2))||(decide (v2≥p3))))&& (decide (x1>0))) (C3 p1 (D9 (x1 - 1))) (some default))).bind fun v4=>cond (((decide (v1<p2))||(decide (v2≥p3)))||((decide (x1>0))&& (decide (v3≤v4)))) (some (.out (.inr false))) (some (.go (D9 (x1+1))))) (some (.out (.inl ())))
def Em [Lp](p1:(List Int))(p2:Int)(p3:Int):Option Bool:=
  thenS (loop (Al p1 p2 p3) 0) (fun _=>some true) (fun r=>some r)
theorem Mq(p1 p2 p3 r)(h:Em p1 p2 p3=some r):PCall prog 217 [(.list (List.map A4 p1)),(i64 p2),(i64 p3)] (bo r):=by
 refine C2 (fk func217 ntmps217 m0 (by with_unfolding_all rfl)) (nl W) ?_
 unfold Em at h
 refine B4 (s0:=⟨T [(0,(.d _)),(1,(.d _)),(2,(.d _))],G []⟩) (F0 W W) ?_
 refine B0<|sv W<|A1<|A5<|B0<|sv W<|A1<|js h fun z1 hz1 h=>D6 (fun s=> ∃(y1:Unit) (g1:Unit),z1= .inl y1∧Sb ⟨T [],G []⟩ s) ?_ ?_
 refine A7<|E1 (Al p1 p2 p3) (fun (x1:Int) (g2:Unit)=>⟨T [(0,(dl A4 p1)),(1,(di p2)),(2,(di p3)),(7,(di x1))],G []⟩) 0 () _ hz1 (F0 W W) ?_
 intro x1 g2 z2 hz2 ez2
 unfold Al at hz2
 refine A5<|B0<|sv W<|sv W<|sd W (D3 W)<|sv W<|A1<|cc W hz2 (fun c1 hz2=> ?_)<|fun c1 hz2=> ?_
 refine A8<|A5<|A7<|A5<|E8 W<|sv W<|sv W<|bs hz2 fun _ hv1 hz2=>sd W (C4 W W hv1 W)<|sd W (C9 W hv1 W)<|sv W<|sv W<|sv W<|gf W (fun _=>W)<|gf W (fun _=>W)<|bs hz2 fun _ hv2 hz2=>gf W (fun w3=>(C4 (A2 w3) (A2 w3) (C1 w3 hv2) W))<|gf W (fun w4=>(C9 (A2 w4) (C1 w4 hv2) W))<|gf W (fun _=>W)<|gf W (fun w6=>(M4 (A2 w6) (A2 w6) W))<|sd W (O5 W W<|fun hc=>A2<|J6 hc)<|sv W<|gf W (fun _=>W)<|gf W (vb W W W)<|gf W (fun w9=>(MD<|A2 w9))<|gv W (U0 W) (fun _=>W) (gv W (U0 W) (fun _=>W) (bs hz2 fun _ hv3 hz2=>gv W (U0 W) (fun w12=>(C4 (A2 w12) (A2 w12) (C1 w12 hv3) W)) (gv W (U0 W) (fun w13=>(C9 (A2 w13) (C1 w13 hv3) W)) (gv W (U0 W) (fun _=>W) (gv W (U0 W) (fun _=>W) (gv W (U0 W) (vb W W W) (bs hz2 fun _ hv4 hz2=>gv W (U0 W) (fun w17=>(C4 (A2 w17) (A2 w17) (C1 w17 hv4) W)) (gv W (U0 W) (fun w18=>(C9 (A2 w18) (C1 w18 hv4) W)) (gv W (U0 W) (fun w19=>(M4 (A2 w19) (A2 w19) W)) (gf W (fun w20=>(BB (A2 w20) (fun hc=>A2<|BC w20 hc) W))<|sd W (O5 W W<|fun hc=>A2<|J6 hc)<|A1<|cc W hz2 (fun c2 hz2=> ?_)<|fun c2 hz2=> ?_))))))))))
 refine B0<|sv W<|A1<|B1 ?_
 cases hz2
 obtain rfl:=ez2 _ rfl
 refine ⟨nofun,F2 ?_⟩
 rw [bX]at h
 cases h
 exact A6 (.inr W) (B6 (B3 W) C0) (.refl _)
 refine A8<|E0<|B9<|sv W<|sv W<|sv W<|A1<|E2 ?_
 cases hz2
 exact ⟨W,(),(F0 W W)⟩
 refine C7 W ?_
 cases hz2
 obtain rfl:=ez2 _ rfl
 refine ⟨nofun,C5 W<|U1 ?_⟩
 exact ⟨_,(),W,(F0 W W)⟩
 rintro _ ⟨y1,g1,rfl,q1⟩
 rw [bW]at h
 refine B4 q1<|B0<|sv W<|A1<|B1 ?_
 cases h
 exact A6 (.inr W) (B6 (B3 W) C0) (.refl _)
def Ha [Lp](p1:Map)(p2:Int):Option Int:=
  (C3 p1.Lanes p2).bind fun v1=>cond ((decide (v1.Kind<1))||(decide (v1.Kind>3))) (some 4) ((Kz v1.Curve_).bind fun v2=>cond (v2 !=0) (some v2) ((Du v1.Kind).bind fun v3=>(Cc v1.Half 200 4000).bind fun v4=>((cond (!(!v4)) (Cc v1.Limit 1 v3.1) (some default))).bind fun v5=>cond ((!v4)||(!v5)) (some 2) (cond (decide ((v1.Next.length:Int)>3)) (some 8) ((Em v1.Next (D9 (p2+1)) (p1.Lanes.length:Int)).bind fun v6=>cond (!v6) (some 11) (some 0)))))
theorem Zk(p1 p2 r)(h:Ha p1 p2=some r):PCall prog 163 [(.agg (P6 p1)),(i64 p2)] (i64 r):=by
 refine C2 (fk func163 ntmps163 m0 (by with_unfolding_all rfl)) (nl W) ?_
 unfold Ha at h
 refine B4 (s0:=⟨T [(0,(.d _)),(1,(.d _))],G []⟩) (F0 W W) ?_
 refine B0<|sm W<|sv W<|A1<|B0<|sq W<|sl W G_hit W<|sv W<|bs h fun v1 hv1 h=>sd W (C4 W W hv1 W)<|sd W (D1 W hv1 W W)<|sm W<|S5 W G_hit (BK v1) W (A1<|A5<|B0<|sq W<|sl W G_hit W<|sv W<|sv W<|gp W (K6 W) (fun _=>W) (gf W (vl W G_hit W)<|gf W (vb W W W)<|sd W (O5 W W<|fun hc=>A2<|J6 hc)<|A1<|cc W h (fun c1 h=> ?_)<|fun c1 h=> ?_))
 refine B0<|sv W<|A1<|B1 ?_
 cases h
 exact A6 (.inr W) (B6 (B3 W) C0) (.refl _)
 refine A8<|B0<|sq W<|sd W (B2 W G_hit W W)<|bs h fun _ hv2 h=>A9 W W A3 (We _ _ hv2) (.inl W) (sv W<|A1<|A5<|B0<|sv W<|sv W<|A1<|cc W h (fun c2 h=> ?_)<|fun c2 h=> ?_)
 refine B0<|sv W<|sv W<|A1<|B1 ?_
 cases h
 exact A6 (.inr W) (B6 (B3 W) C0) (.refl _)
 refine A8<|B0<|sq W<|sl W G_hit W<|bs h fun v3 hv3 h=>A9 W W A3 (Kl _ _ hv3) (.inl W) (sv W<|sv W<|sv W<|sv W<|sv W<|sv W<|sv W<|A1<|A5<|B0<|sq W<|sl W G_hit W<|bs h fun v4 hv4 h=>A9 W W A3 (Do _ _ _ _ hv4) (.inl W) (B8 (.d (bo (!v4))) W W (sv W<|gp W (K6 W) (fun _=>W) (gf W (vl W G_hit W)<|gf W (fun _=>W)<|bs h fun v5 hv5 h=> ?_))))
 refine N4 _ (bo v5) (K6 W) (fun w7=>⟨_,[(di v1.Limit),(di 1),(di v3.1)],_,_,(by simp only [A2 w7];rfl),W,A3,Do _ _ _ _<|C1 w7 hv5,(.inl W)⟩) ?_
 refine M5 _ (.d (bo (!v5))) W (K6 W) (fun w8=>(by simp only [A2 w8];rfl)) ?_
 refine sd W (O5 W W<|fun hc=>A2<|J6 hc)<|A1<|cc W h (fun c3 h=> ?_)<|fun c3 h=> ?_
 refine B0<|sv W<|A1<|B1 ?_
 cases h
 exact A6 (.inr W) (B6 (B3 W) C0) (.refl _)
 refine A8<|A5<|B0<|sq W<|sl W G_hit W<|sd W (D3 W)<|sv W<|A1<|cc W h (fun c4 h=> ?_)<|fun c4 h=> ?_
 refine B0<|sv W<|A1<|B1 ?_
 cases h
 exact A6 (.inr W) (B6 (B3 W) C0) (.refl _)
 refine A8<|A5<|B0<|sq W<|sl W G_hit W<|sv W<|sv W<|sq W<|sl W (gq W) W (sd W (D3 W)<|bs h fun v6 hv6 h=>A9 W W A3 (Mq _ _ _ _ hv6) (.inl W) (B8 (.d (bo (!v6))) W W (A1<|cc W h (fun c5 h=> ?_)<|fun c5 h=> ?_)))
 refine B0<|sv W<|A1<|B1 ?_
 cases h
 exact A6 (.inr W) (B6 (B3 W) C0) (.refl _)
 refine A8<|B0<|sv W<|A1<|B1 ?_
 cases h
 exact A6 (.inr W) (B6 (B3 W) C0) (.refl _)
def Am (p1:Map)(v1:Lane)(x2:Int):Option (Stp Int (Sum Unit Int)):=
  cond (decide (x2< (v1.Next.length:Int))) ((C3 v1.Next x2).bind fun v2=>(C3 p1.Lanes v2).bind fun v3=>cond (v3.Kind !=v1.Kind) (some (.out (.inr 4))) ((C3 v3.Curve_.Pts 0).bind fun v4=>(C3 v1.Curve_.Pts (D9 ((v1.Curve_.Pts.length:Int) - 1))).bind fun v5=>cond (!(v4.X==v5.X&& (v4.Y==v5.Y&&true))) (some (.out (.inr 3))) (some (.go (D9 (x2+1)))))) (some (.out (.inl ())))
def An [Lp](p1:Map)(x1:Int):Option (Stp Int (Sum Unit Int)):=
  cond (decide (x1< (p1.Lanes.length:Int))) ((C3 p1.Lanes x1).bind fun v1=>thenS (loop (Am p1 v1) 0) (fun _=>some (.go (D9 (x1+1)))) (fun r=>some (.out (.inr r)))) (some (.out (.inl ())))
def Hb [Lp](p1:Map):Option Int:=
  thenS (loop (An p1) 0) (fun _=>some 0) (fun r=>some r)
theorem Zl(p1 r)(h:Hb p1=some r):PCall prog 164 [(.agg (P6 p1))] (i64 r):=by
 refine C2 (fk func164 ntmps164 m0 (by with_unfolding_all rfl)) (nl W) ?_
 unfold Hb at h
 refine B4 (s0:=⟨T [(0,(.d _))],G []⟩) (F0 W W) ?_
 refine lr<|fun u1 _=>sm W<|sv W<|A1<|A5<|B0<|sv W<|A1<|js h fun z1 hz1 h=>D6 (fun s=> ∃(y1:Unit) (g1:Unit),z1= .inl y1∧Sb ⟨T [],G []⟩ s) ?_ ?_
 refine A7<|E1 (An p1) (fun (x1:Int) (g2:Unit)=>⟨T [(1,(.ptr (1,u1) 0)),(3,(di x1))],G [((1,u1),some<|.box 33 (L4 p1))]⟩) 0 () _ hz1 (F0 W W) ?_
 intro x1 g2 z2 hz2 ez2
 unfold An at hz2
 refine A5<|B0<|sv W<|sq W<|sl W G_hit W<|sd W (D3 W)<|sv W<|A1<|cc W hz2 (fun c1 hz2=> ?_)<|fun c1 hz2=> ?_
 refine A8<|A5<|A7<|lr<|fun u4 _=>sq W<|sl W G_hit W<|sv W<|bs hz2 fun v1 hv1 hz2=>sd W (C4 W W hv1 W)<|sd W (D1 W hv1 W W)<|sm W<|S5 W G_hit (BK v1) W (A1<|B0<|sv W<|A1<|js hz2 fun z3 hz3 hz2=>D6 (fun s=> ∃(y2:Unit) (g3:Unit),z3= .inl y2∧Sb ⟨T [(1,(.ptr (1,u1) 0)),(3,(di x1))],G [((1,u1),some<|.box 33 (L4 p1))]⟩ s) ?_ ?_)
 refine A7<|E1 (Am p1 v1) (fun (x2:Int) (g4:Unit)=>⟨T [(1,(.ptr (1,u1) 0)),(3,(di x1)),(4,(.ptr (4,u4) 0)),(5,(di x2))],G [((1,u1),some<|.box 33 (L4 p1)),((4,u4),some<|.box 63 (BK v1))]⟩) 0 () _ hz3 (F0 W W) ?_
 intro x2 g4 z4 hz4 ez4
 unfold Am at hz4
 refine A5<|B0<|sv W<|sq W<|sl W (gq W) W (sd W (D3 W)<|sv W<|A1<|cc W hz4 (fun c2 hz4=> ?_)<|fun c2 hz4=> ?_)
 refine A8<|A5<|A7<|A5<|E8 W<|sq W<|sl W G_hit W<|sq W<|sl W (gq W) W (sv W<|bs hz4 fun _ hv2 hz4=>sd W (C4 W W hv2 W)<|sd W (C9 W hv2 W)<|bs hz4 fun v3 hv3 hz4=>sd W (C4 W W hv3 W)<|sd W (D1 W hv3 W W)<|sm W<|S5 W G_hit (BK v3) W (A1<|A5<|B0<|sq W<|sl W G_hit W<|sq W<|sl W (gq W) W (sv W<|A1<|cc W hz4 (fun c3 hz4=> ?_)<|fun c3 hz4=> ?_)))
 refine B0<|sv W<|A1<|B1 ?_
 cases hz4
 obtain rfl:=ez4 _ rfl
 refine ⟨nofun,F2 ?_⟩
 rw [bX]at hz2
 cases hz2
 obtain rfl:=ez2 _ rfl
 refine ⟨nofun,F2 ?_⟩
 rw [bX]at h
 cases h
 exact A6 (.inr W) (B6 (B3 W) C0) (.refl _)
 refine A8<|A5<|E8 W<|sq W<|sq W<|sl W G_hit W<|bs hz4 fun v4 hv4 hz4=>sd W (C4 W W hv4 W)<|sd W (D1 W hv4 W W)<|sq W<|sp W W<|sl W (gq W) W (sq W<|sp W W<|sl W (gq W) W (sd W (D3 W)<|sv W<|bs hz4 fun v5 hv5 hz4=>sd W (C4 W W hv5 W)<|sd W (D1 W hv5 W W)<|B8 (.d (bo (!(v4.X==v5.X&& (v4.Y==v5.Y&&true))))) W W (A1<|cc W hz4 (fun c4 hz4=> ?_)<|fun c4 hz4=> ?_)))
 refine B0<|sv W<|A1<|B1 ?_
 cases hz4
 obtain rfl:=ez4 _ rfl
 refine ⟨nofun,F2 ?_⟩
 rw [bX]at hz2
 cases hz2
 obtain rfl:=ez2 _ rfl
 refine ⟨nofun,F2 ?_⟩
 rw [bX]at h
 cases h
 exact A6 (.inr W) (B6 (B3 W) C0) (.refl _)
 refine A8<|E0<|B9<|sv W<|sv W<|sv W<|A1<|E2 ?_
 cases hz4
 exact ⟨W,(),(F0 W W)⟩
 refine C7 W ?_
 cases hz4
 obtain rfl:=ez4 _ rfl
 refine ⟨nofun,C5 W<|U1 ?_⟩
 exact ⟨_,(),W,(F0 W W)⟩
 rintro _ ⟨y2,g3,rfl,q1⟩
 rw [bW]at hz2
 refine E0<|B4 q1<|B9<|sv W<|sv W<|sv W<|A1<|E2 ?_
 cases hz2
 exact ⟨W,(),(F0 W W)⟩
 refine C7 W ?_
 cases hz2
 obtain rfl:=ez2 _ rfl
 refine ⟨nofun,C5 W<|U1 ?_⟩
 exact ⟨_,(),W,(F0 W W)⟩
 rintro _ ⟨y1,g1,rfl,q2⟩
 rw [bW]at h
 refine B4 q2<|B0<|sv W<|A1<|B1 ?_
 cases h
 exact A6 (.inr W) (B6 (B3 W) C0) (.refl _)
def V3 [Lp](p1:Map)(p2:Signal)(x2:Int):Option (Stp Int (Sum Unit Int)):=
  cond (decide (x2< (p2.Phases.length:Int))) ((C3 p2.Phases x2).bind fun v4=>(Em v4.Green 0 (p1.Lanes.length:Int)).bind fun v5=>cond (!v5) (some (.out (.inr 11))) (some (.go (D9 (x2+1))))) (some (.out (.inl ())))
def V4 (p2:Signal)(x1:(Bool×Int)):Option (Stp (Bool×Int) Bool):=
  cond (decide (x1.2< (p2.Phases.length:Int))) (((cond x1.1 (C3 p2.Phases x1.2) (some default))).bind fun v2=>((cond x1.1 (Cc v2.Ticks 1 10000) (some default))).bind fun v3=>some (.go ((x1.1&&v3),(D9 (x1.2+1))))) (some (.out x1.1))
def Dv [Lp](p1:Map)(p2:Signal):Option Int:=
  cond ((p2.Phases.length:Int)==0) (some 6) (cond (decide ((p2.Phases.length:Int)>6)) (some 8) ((Cc p2.Offset 0 1099511627776).bind fun v1=>(loop (V4 p2) (v1,0)).bind fun y1=>cond (!y1) (some 2) (thenS (loop (V3 p1 p2) 0) (fun _=>some 0) (fun r=>some r))))
theorem Wf(p1 p2 r)(h:Dv p1 p2=some r):PCall prog 165 [(.agg (P6 p1)),(.agg [(i64 p2.Offset),(.list (List.map Ak p2.Phases))])] (i64 r):=by
 refine C2 (fk func165 ntmps165 m0 (by with_unfolding_all rfl)) (nl W) ?_
 unfold Dv at h
 refine B4 (s0:=⟨T [(0,(.d _)),(1,(.d _))],G []⟩) (F0 W W) ?_
 refine lr<|fun u1 _=>sm W<|sm W<|sv W<|A1<|A5<|B0<|sq W<|sl W G_hit W<|sd W (D3 W)<|sv W<|A1<|cc W h (fun c1 h=> ?_)<|fun c1 h=> ?_
 refine B0<|sv W<|A1<|B1 ?_
 cases h
 exact A6 (.inr W) (B6 (B3 W) C0) (.refl _)
 refine A8<|A5<|B0<|sq W<|sl W G_hit W<|sd W (D3 W)<|sv W<|A1<|cc W h (fun c2 h=> ?_)<|fun c2 h=> ?_
 refine B0<|sv W<|A1<|B1 ?_
 cases h
 exact A6 (.inr W) (B6 (B3 W) C0) (.refl _)
 refine A8<|B0<|sq W<|sl W G_hit W<|bs h fun v1 hv1 h=>A9 W W A3 (Do _ _ _ _ hv1) (.inl W) (sv W<|A1<|A5<|B0<|sv W<|A1<|bs h fun y1 hy1 h=>D6 (fun s=> ∃g1:Unit,Sb ⟨T [(2,(.ptr (2,u1) 0)),(3,(.ptr (3,u1) 0)),(5,(.d (bo y1)))],G [((2,u1),some<|.box 33 (L4 p1)),((3,u1),some<|.box 120 [(di p2.Offset),(dl Ak p2.Phases)])]⟩ s) ?_ ?_)
 refine A7<|E1 (V4 p2) (fun (x1:(Bool×Int)) (g2:Unit)=>⟨T [(2,(.ptr (2,u1) 0)),(3,(.ptr (3,u1) 0)),(5,(.d (bo x1.1))),(6,(di x1.2))],G [((2,u1),some<|.box 33 (L4 p1)),((3,u1),some<|.box 120 [(di p2.Offset),(dl Ak p2.Phases)])]⟩) (v1,0) () _ hy1 (F0 W W) ?_
 intro x1 g2 z1 hz1 ez1
 unfold V4 at hz1
 refine A5<|B0<|sv W<|sq W<|sl W (gq W) W (sd W (D3 W)<|sv W<|A1<|cc W hz1 (fun c3 hz1=> ?_)<|fun c3 hz1=> ?_)
 refine A8<|A5<|A7<|B9<|sv W<|sv W<|gp W (K3 W) (fun _=>W) (gt W (vl W (gq W) W)<|gt W (fun _=>W)<|bs hz1 fun v2 hv2 hz1=>gt W (fun w4=>(C4 (A2 w4) (A2 w4) (C1 w4 hv2) W)) ?_)
 refine gt W (fun w5=>(by simp only [A2 w5];rfl)) ?_
 refine gt W (fun w6=>(C9 (A2 w6) (C1 w6 hv2) W))<|bs hz1 fun v3 hv3 hz1=> ?_
 refine N4 x1.1 (bo v3) (K3 W) (fun w7=>⟨_,[(di v2.Ticks),(di 1),(di 10000)],_,_,(by simp only [A2 w7];rfl),W,A3,Do _ _ _ _<|C1 w7 hv3,(.inl W)⟩) ?_
 refine sa W W W<|sv W<|A1<|E0<|B9<|sv W<|sv W<|sv W<|A1<|E2 ?_
 cases hz1
 exact ⟨W,(),(F0 W W)⟩
 refine C7 W ?_
 cases hz1
 obtain rfl:=ez1 _ rfl
 refine ⟨nofun,C5 W<|U1 ?_⟩
 exact ⟨(),(F0 W W)⟩
 rintro _ ⟨g1,q1⟩
 refine B4 q1<|A5<|B0<|sv W<|B8 (.d (bo (!y1))) W W (A1<|cc W h (fun c4 h=> ?_)<|fun c4 h=> ?_)
 refine B0<|sv W<|A1<|B1 ?_
 cases h
 exact A6 (.inr W) (B6 (B3 W) C0) (.refl _)
 refine A8<|A5<|B0<|sv W<|A1<|js h fun z2 hz2 h=>D6 (fun s=> ∃(y2:Unit) (g3:Unit),z2= .inl y2∧Sb ⟨T [],G []⟩ s) ?_ ?_
 refine A7<|E1 (V3 p1 p2) (fun (x2:Int) (g4:Unit)=>⟨T [(2,(.ptr (2,u1) 0)),(3,(.ptr (3,u1) 0)),(7,(di x2))],G [((2,u1),some<|.box 33 (L4 p1)),((3,u1),some<|.box 120 [(di p2.Offset),(dl Ak p2.Phases)])]⟩) 0 () _ hz2 (F0 W W) ?_
 intro x2 g4 z3 hz3 ez3
 unfold V3 at hz3
 refine A5<|B0<|sv W<|sq W<|sl W (gq W) W (sd W (D3 W)<|sv W<|A1<|cc W hz3 (fun c5 hz3=> ?_)<|fun c5 hz3=> ?_)
 refine A8<|A5<|A7<|A5<|E8 W<|sq W<|sl W (gq W) W (sv W<|bs hz3 fun _ hv4 hz3=>sd W (C4 W W hv4 W)<|sv W<|sd W (C9 W hv4 W)<|sq W<|sl W G_hit W<|sd W (D3 W)<|bs hz3 fun v5 hv5 hz3=>A9 W W A3 (Mq _ _ _ _ hv5) (.inl W) (B8 (.d (bo (!v5))) W W (A1<|cc W hz3 (fun c6 hz3=> ?_)<|fun c6 hz3=> ?_)))
 refine B0<|sv W<|A1<|B1 ?_
 cases hz3
 obtain rfl:=ez3 _ rfl
 refine ⟨nofun,F2 ?_⟩
 rw [bX]at h
 cases h
 exact A6 (.inr W) (B6 (B3 W) C0) (.refl _)
 refine A8<|E0<|B9<|sv W<|sv W<|sv W<|A1<|E2 ?_
 cases hz3
 exact ⟨W,(),(F0 W W)⟩
 refine C7 W ?_
 cases hz3
 obtain rfl:=ez3 _ rfl
 refine ⟨nofun,C5 W<|U1 ?_⟩
 exact ⟨_,(),W,(F0 W W)⟩
 rintro _ ⟨y2,g3,rfl,q2⟩
 rw [bW]at h
 refine B4 q2<|B0<|sv W<|A1<|B1 ?_
 cases h
 exact A6 (.inr W) (B6 (B3 W) C0) (.refl _)
def Bq [Lp](p1:Curve)(x1:((List Int)×Int)):Option (Stp ((List Int)×Int) (List Int)):=
  cond (decide ((D9 (x1.2+1))< (p1.Pts.length:Int))) ((C3 p1.Pts (D9 (x1.2+1))).bind fun v2=>(C3 p1.Pts x1.2).bind fun v3=>(Ik v2 v3).bind fun v4=>(Ky v4 v4).bind fun v5=>(Il v5).bind fun v6=>(Au x1.1 [v6]).bind fun v7=>some (.go (v7,(D9 (x1.2+1))))) (some (.out x1.1))
def Lr [Lp](p1:Curve):Option (List Int):=
  (Kz p1).bind fun v1=>cond (v1 !=0) (some []) ((loop (Bq p1) ([],0)).bind fun y1=>some y1)
theorem ER(p1 r)(h:Lr p1=some r):PCall prog 134 [(.agg [(.list (List.map Bk p1.Pts))])] (.list (List.map A4 r)):=by
 refine C2 (fk func134 ntmps134 (fun r=>if r==8 then [1005]else []) (by with_unfolding_all rfl)) (nl W) ?_
 unfold Lr at h
 refine B4 (s0:=⟨T [(0,(.d _))],G []⟩) (F0 W W) ?_
 refine lr<|fun u1 _=>sm W<|sv W<|A1<|A5<|B0<|sd W (B2 W G_hit W W)<|bs h fun _ hv1 h=>A9 W W A3 (We _ _ hv1) (.inl W) (sv W<|A1<|cc W h (fun c1 h=> ?_)<|fun c1 h=> ?_)
 refine B0<|sv W<|A1<|B1 ?_
 cases h
 exact A6 (.inr W) (B6 (B3 W) C0) DLe.nil
 refine A8<|B0<|sv W<|A1<|A5<|B0<|sv W<|A1<|bs h fun y1 hy1 h=>D6 (fun s=> ∃g1:Nat,Sb ⟨T [(3,(oS y1 (35,g1)))],G [((35,g1),oB 2 1 A4 y1)]⟩ s) ?_ ?_
 refine A7<|E1 (Bq p1) (fun (x1:((List Int)×Int)) (g2:Nat)=>⟨T [(1,(.ptr (1,u1) 0)),(3,(oS x1.1 (35,g2))),(4,(di x1.2))],G [((1,u1),some<|.box 61 [(dl Bk p1.Pts)]),((35,g2),oB 2 1 A4 x1.1)]⟩) ([],0) 0 _ hy1 (D8 (Y0 W)<|B5 G_hit (.of W)<|R6 trivial) ?_
 intro x1 g2 z1 hz1 ez1
 unfold Bq at hz1
 refine A5<|B0<|sv W<|sv W<|sq W<|sl W G_hit W<|sd W (D3 W)<|sv W<|A1<|cc W hz1 (fun c2 hz1=> ?_)<|fun c2 hz1=> ?_
 refine A8<|A5<|A7<|A5<|E8 W<|sq W<|sl W G_hit W<|sv W<|sv W<|bs hz1 fun _ hv2 hz1=>sd W (C4 W W hv2 W)<|sd W (D1 W hv2 W W)<|sq W<|sl W G_hit W<|sv W<|bs hz1 fun _ hv3 hz1=>sd W (C4 W W hv3 W)<|sd W (D1 W hv3 W W)<|bs hz1 fun v4 hv4 hz1=>A9 W W A3 (Qa _ _ _ hv4) (.inl W) (sm W<|S5 W G_hit [(di v4.X),(di v4.Y)] W (A1<|As fun u8 _=>B8 (oS x1.1 (35,g2)) W W (sd W (B2 W G_hit W W)<|sd W (B2 W G_hit W W)<|bs hz1 fun _ hv5 hz1=>A9 W W A3 (Pe _ _ _ hv5) (.inl W) (bs hz1 fun v6 hv6 hz1=>A9 W W A3 (Yb _ _ hv6) (.inl W) (B8 (dl A4 [v6]) W W (bs hz1 fun _ hv7 hz1=>P1 A4 (35,g2) x1.1 v6 [] _ (L3<|fun _=>W) W (gq W) hv7 (ss W<|A1<|E0<|B9<|sv W<|sv W<|sv W<|A1<|E2 ?_)))))))
 cases hz1
 exact ⟨W,u8,(D8 ⟨.of W,(.of (T9<|U2 hv7).symm), .of W,trivial⟩<|sg W<|N0 G_hit trivial)⟩
 refine C7 W ?_
 cases hz1
 obtain rfl:=ez1 _ rfl
 refine ⟨nofun,C5 W<|U1 ?_⟩
 exact ⟨g2,(D8 ⟨.of W,trivial⟩<|B7 (gq W) trivial)⟩
 rintro _ ⟨g1,q1⟩
 refine B4 q1<|B0<|B8 (oS y1 (35,g1)) W W (B8 (oS y1 (35,g1)) W W (A1<|B1 ?_))
 cases h
 exact A6 (.inr W) (B6 (B3 W)<|S9 G_hit) S8
def Z5 (v1:(List Int))(x1:(Int×Int)):Option (Stp (Int×Int) Int):=
  cond (decide (x1.2< (v1.length:Int))) ((C3 v1 x1.2).bind fun v2=>some (.go ((D9 (x1.1+v2)),(D9 (x1.2+1))))) (some (.out x1.1))
def Dw [Lp](p1:Curve):Option Int:=
  (Lr p1).bind fun v1=>(loop (Z5 v1) (0,0)).bind fun y1=>some y1
theorem Oi(p1 r)(h:Dw p1=some r):PCall prog 204 [(.agg [(.list (List.map Bk p1.Pts))])] (i64 r):=by
 refine C2 (fk func204 ntmps204 m0 (by with_unfolding_all rfl)) (nl W) ?_
 unfold Dw at h
 refine B4 (s0:=⟨T [(0,(.d _))],G []⟩) (F0 W W) ?_
 refine B0<|sm W<|sv W<|A1<|B0<|sv W<|A1<|B0<|sd W (B2 W G_hit W W)<|bs h fun v1 hv1 h=>A9 W W A3 (ER _ _ hv1) (.inl W) (sv W<|A1<|A5<|B0<|sv W<|A1<|bs h fun y1 hy1 h=>D6 (fun s=> ∃g1:Unit,Sb ⟨T [(3,(di y1))],G []⟩ s) ?_ ?_)
 refine A7<|E1 (Z5 v1) (fun (x1:(Int×Int)) (g2:Unit)=>⟨T [(3,(di x1.1)),(4,(dl A4 v1)),(5,(di x1.2))],G []⟩) (0,0) () _ hy1 (F0 W W) ?_
 intro x1 g2 z1 hz1 ez1
 unfold Z5 at hz1
 refine A5<|B0<|sv W<|sv W<|sd W (D3 W)<|sv W<|A1<|cc W hz1 (fun c1 hz1=> ?_)<|fun c1 hz1=> ?_
 refine A8<|A5<|A7<|B9<|sv W<|sv W<|sv W<|bs hz1 fun _ hv2 hz1=>sd W (C4 W W hv2 W)<|sd W (C9 W hv2 W)<|sv W<|sv W<|A1<|E0<|B9<|sv W<|sv W<|sv W<|A1<|E2 ?_
 cases hz1
 exact ⟨W,(),(F0 W W)⟩
 refine C7 W ?_
 cases hz1
 obtain rfl:=ez1 _ rfl
 refine ⟨nofun,C5 W<|U1 ?_⟩
 exact ⟨(),(F0 W W)⟩
 rintro _ ⟨g1,q1⟩
 refine B4 q1<|B0<|sv W<|sv W<|A1<|B1 ?_
 cases h
 exact A6 (.inr W) (B6 (B3 W) C0) (.refl _)
def Ao [Lp](p1:Map)(p2:Zone)(x2:Int):Option (Stp Int (Sum Unit Int)):=
  cond (decide (x2< (p2.Parts.length:Int))) ((C3 p2.Parts x2).bind fun v4=>((cond (!((decide (v4.From<0))||(decide (v4.From≥v4.To)))) (C3 p1.Lanes v4.Lane_) (some default))).bind fun v5=>((cond (!((decide (v4.From<0))||(decide (v4.From≥v4.To)))) (Dw v5.Curve_) (some default))).bind fun v6=>cond (((((decide (v4.From<0))||(decide (v4.From≥v4.To)))||(decide (v4.To>v6)))||(decide (v4.Rank<0)))||(decide (v4.Rank>100))) (some (.out (.inr 2))) (some (.go (D9 (x2+1))))) (some (.out (.inl ())))
def Gi (p2:Zone)(x1:((List Int)×Int)):Option (Stp ((List Int)×Int) (List Int)):=
  cond (decide (x1.2< (p2.Parts.length:Int))) ((C3 p2.Parts x1.2).bind fun v1=>(Au x1.1 [v1.Lane_]).bind fun v2=>some (.go (v2,(D9 (x1.2+1))))) (some (.out x1.1))
def Hc [Lp](p1:Map)(p2:Zone):Option Int:=
  cond (decide ((p2.Parts.length:Int)<2)) (some 6) (cond (decide ((p2.Parts.length:Int)>6)) (some 8) (cond ((decide (p2.Signal_<0))||(decide (p2.Signal_>(p1.Signals.length:Int)))) (some 2) ((loop (Gi p2) ([],0)).bind fun y1=>(Em y1 0 (p1.Lanes.length:Int)).bind fun v3=>cond (!v3) (some 11) (thenS (loop (Ao p1 p2) 0) (fun _=>some 0) (fun r=>some r)))))
theorem Zm(p1 p2 r)(h:Hc p1 p2=some r):PCall prog 166 [(.agg (P6 p1)),(.agg [(.list (List.map At p2.Parts)),(i64 p2.Signal_)])] (i64 r):=by
 refine C2 (fk func166 ntmps166 (fun r=>if r==11 then [1007]else []) (by with_unfolding_all rfl)) (nl W) ?_
 unfold Hc at h
 refine B4 (s0:=⟨T [(0,(.d _)),(1,(.d _))],G []⟩) (F0 W W) ?_
 refine lr<|fun u1 _=>sm W<|sm W<|sv W<|A1<|A5<|B0<|sq W<|sl W G_hit W<|sd W (D3 W)<|sv W<|A1<|cc W h (fun c1 h=> ?_)<|fun c1 h=> ?_
 refine B0<|sv W<|A1<|B1 ?_
 cases h
 exact A6 (.inr W) (B6 (B3 W) C0) (.refl _)
 refine A8<|A5<|B0<|sq W<|sl W G_hit W<|sd W (D3 W)<|sv W<|A1<|cc W h (fun c2 h=> ?_)<|fun c2 h=> ?_
 refine B0<|sv W<|A1<|B1 ?_
 cases h
 exact A6 (.inr W) (B6 (B3 W) C0) (.refl _)
 refine A8<|A5<|B0<|sq W<|sl W G_hit W<|sv W<|sv W<|gp W (K6 W) (fun _=>W) (gf W (vl W G_hit W)<|gp W (K6 W) (fun _=>W) (gf W (vl W (gq W) W)<|gf W (fun w5=>(D3<|A2 w5))<|gf W (fun w6=>(M4 (A2 w6) (A2 w6) W))<|sd W (O5 W W<|fun hc=>A2<|J6 hc)<|A1<|cc W h (fun c3 h=> ?_)<|fun c3 h=> ?_))
 refine B0<|sv W<|A1<|B1 ?_
 cases h
 exact A6 (.inr W) (B6 (B3 W) C0) (.refl _)
 refine A8<|B0<|sv W<|A1<|A5<|B0<|sv W<|A1<|bs h fun y1 hy1 h=>D6 (fun s=> ∃g1:Nat,Sb ⟨T [(2,(.ptr (2,u1) 0)),(3,(.ptr (3,u1) 0)),(5,(oS y1 (43,g1)))],G [((2,u1),some<|.box 33 (L4 p1)),((3,u1),some<|.box 117 [(dl At p2.Parts),(di p2.Signal_)]),((43,g1),oB 3 1 A4 y1)]⟩ s) ?_ ?_
 refine A7<|E1 (Gi p2) (fun (x1:((List Int)×Int)) (g2:Nat)=>⟨T [(2,(.ptr (2,u1) 0)),(3,(.ptr (3,u1) 0)),(5,(oS x1.1 (43,g2))),(6,(di x1.2))],G [((2,u1),some<|.box 33 (L4 p1)),((3,u1),some<|.box 117 [(dl At p2.Parts),(di p2.Signal_)]),((43,g2),oB 3 1 A4 x1.1)]⟩) ([],0) 0 _ hy1 (D8 (Y0 W)<|sg W<|B5 G_hit (.of W)<|R6 trivial) ?_
 intro x1 g2 z1 hz1 ez1
 unfold Gi at hz1
 refine A5<|B0<|sv W<|sq W<|sl W (gq W) W (sd W (D3 W)<|sv W<|A1<|cc W hz1 (fun c4 hz1=> ?_)<|fun c4 hz1=> ?_)
 refine A8<|A5<|A7<|As fun u11 _=>B8 (oS x1.1 (43,g2)) W W (sq W<|sl W (gq W) W (sv W<|bs hz1 fun v1 hv1 hz1=>sd W (C4 W W hv1 W)<|sv W<|sd W (C9 W hv1 W)<|B8 (dl A4 [v1.Lane_]) W W (bs hz1 fun _ hv2 hz1=>P1 A4 (43,g2) x1.1 v1.Lane_ [] _ (L3<|fun _=>W) W (gq W) hv2 (ss W<|A1<|E0<|B9<|sv W<|sv W<|sv W<|A1<|E2 ?_))))
 cases hz1
 exact ⟨W,u11,(D8 ⟨.of W, .of W,(.of (T9<|U2 hv2).symm), .of W,trivial⟩<|sg W<|sg W<|N0 G_hit trivial)⟩
 refine C7 W ?_
 cases hz1
 obtain rfl:=ez1 _ rfl
 refine ⟨nofun,C5 W<|U1 ?_⟩
 exact ⟨g2,(D8 (Y0 W)<|B5 G_hit (.of W)<|sg W<|B7 (gq W) trivial)⟩
 rintro _ ⟨g1,q1⟩
 refine B4 q1<|A5<|B0<|B8 (oS y1 (43,g1)) W W (sq W<|sl W G_hit W<|sd W (D3 W)<|bs h fun v3 hv3 h=>A9 W (E4 (S9<|gq W)<|rD<|rD F9) (.cons S8 (.cons (.refl _) A3)) (Mq _ _ _ _ hv3) (.inr W) (B8 (.d (bo (!v3))) W W (A1<|cc W h (fun c5 h=> ?_)<|fun c5 h=> ?_)))
 refine B0<|sv W<|A1<|B1 ?_
 cases h
 exact A6 (.inr W) (B6 (B3 W) C0) (.refl _)
 refine A8<|A5<|B0<|sv W<|A1<|js h fun z2 hz2 h=>D6 (fun s=> ∃(y2:Unit) (g3:Unit),z2= .inl y2∧Sb ⟨T [],G []⟩ s) ?_ ?_
 refine A7<|E1 (Ao p1 p2) (fun (x2:Int) (g4:Unit)=>⟨T [(2,(.ptr (2,u1) 0)),(3,(.ptr (3,u1) 0)),(7,(di x2))],G [((2,u1),some<|.box 33 (L4 p1)),((3,u1),some<|.box 117 [(dl At p2.Parts),(di p2.Signal_)])]⟩) 0 () _ hz2 (F0 W W) ?_
 intro x2 g4 z3 hz3 ez3
 unfold Ao at hz3
 refine A5<|B0<|sv W<|sq W<|sl W (gq W) W (sd W (D3 W)<|sv W<|A1<|cc W hz3 (fun c6 hz3=> ?_)<|fun c6 hz3=> ?_)
 refine A8<|A5<|A7<|B0<|sq W<|sl W (gq W) W (sv W<|bs hz3 fun v4 hv4 hz3=>sd W (C4 W W hv4 W)<|sd W (D1 W hv4 W W)<|sm W<|S5 W G_hit (Ya v4) W (A1<|A5<|E8 W<|sq W<|sl W G_hit W<|sv W<|sv W<|gp W (K6 W) (fun _=>W) (gf W (vl W G_hit W)<|gp W (K6 W) (fun _=>W) (gf W (vl W G_hit W)<|gf W (fun w11=>(M4 (A2 w11) (A2 w11) W))<|sd W (O5 W W<|fun hc=>A2<|J6 hc)<|sv W<|gp W (K6 W) (fun _=>W) (gf W (vl W G_hit W)<|gp W (K6 W) (fun _=>W) (gf W (vl W (gq W) W)<|gp W (K6 W) (fun _=>W) (gf W (vl W G_hit W)<|bs hz3 fun v5 hv5 hz3=>gf W (fun w18=>(C4 (A2 w18) (A2 w18) (C1 w18 hv5) W)) ?_)))))))
 refine gf W (fun w19=>(by simp only [A2 w19];rfl)) ?_
 refine gf W (fun w20=>(D1 (A2 w20) (C1 w20 hv5) W W))<|bs hz3 fun v6 hv6 hz3=> ?_
 refine N4 _ (i64 v6) (K6 W) (fun w21=>⟨_,[(.d (.agg [(.list (List.map Bk v5.Curve_.Pts))]))],_,_,(by simp only [A2 w21];rfl),W,A3,Oi _ _<|C1 w21 hv6,(.inl W)⟩) ?_
 refine gf W (fun w22=>(M4 (A2 w22) (A2 w22) W))<|sd W (O5 W W<|fun hc=>A2<|J6 hc)<|sv W<|gp W (K6 W) (fun _=>W) (gf W (vl W G_hit W)<|gf W (vb W W W)<|sd W (O5 W W<|fun hc=>A2<|J6 hc)<|sv W<|gp W (K6 W) (fun _=>W) (gf W (vl W G_hit W)<|gf W (vb W W W)<|sd W (O5 W W<|fun hc=>A2<|J6 hc)<|A1<|cc W hz3 (fun c7 hz3=> ?_)<|fun c7 hz3=> ?_))
 refine B0<|sv W<|A1<|B1 ?_
 cases hz3
 obtain rfl:=ez3 _ rfl
 refine ⟨nofun,F2 ?_⟩
 rw [bX]at h
 cases h
 exact A6 (.inr W) (B6 (B3 W) C0) (.refl _)
 refine A8<|E0<|B9<|sv W<|sv W<|sv W<|A1<|E2 ?_
 cases hz3
 exact ⟨W,(),(F0 W W)⟩
 refine C7 W ?_
 cases hz3
 obtain rfl:=ez3 _ rfl
 refine ⟨nofun,C5 W<|U1 ?_⟩
 exact ⟨_,(),W,(F0 W W)⟩
 rintro _ ⟨y2,g3,rfl,q2⟩
 rw [bW]at h
 refine B4 q2<|B0<|sv W<|A1<|B1 ?_
 cases h
 exact A6 (.inr W) (B6 (B3 W) C0) (.refl _)
def Hd [Lp](p1:Map)(p2:Work):Option Int:=
  cond ((decide (p2.Lane_<0))||(decide (p2.Lane_≥(p1.Lanes.length:Int)))) (some 7) ((C3 p1.Lanes p2.Lane_).bind fun v1=>(Du v1.Kind).bind fun v2=>((cond (!((decide (p2.From<0))||(decide (p2.From>p2.To)))) (Dw v1.Curve_) (some default))).bind fun v3=>((cond (!((((((decide (p2.From<0))||(decide (p2.From>p2.To)))||(decide (p2.To>v3)))||(decide (p2.Begin<0)))||(decide (p2.Begin≥p2.End)))||(decide (p2.End>1099511627776)))) (Cc p2.Limit 0 v2.1) (some default))).bind fun v4=>cond (((((((decide (p2.From<0))||(decide (p2.From>p2.To)))||(decide (p2.To>v3)))||(decide (p2.Begin<0)))||(decide (p2.Begin≥p2.End)))||(decide (p2.End>1099511627776)))||(!v4)) (some 2) (some 0))
theorem Zn(p1 p2 r)(h:Hd p1 p2=some r):PCall prog 167 [(.agg (P6 p1)),(.agg (Sp p2))] (i64 r):=by
 refine C2 (fk func167 ntmps167 m0 (by with_unfolding_all rfl)) (nl W) ?_
 unfold Hd at h
 refine B4 (s0:=⟨T [(0,(.d _)),(1,(.d _))],G []⟩) (F0 W W) ?_
 refine B0<|sm W<|sn W W<|sv W<|A1<|A5<|B0<|sq W<|sl W G_hit W<|sv W<|sv W<|gp W (K6 W) (fun _=>W) (gf W (vl W G_hit W)<|gp W (K6 W) (fun _=>W) (gf W (vl W (gq W) W)<|gf W (fun w5=>(D3<|A2 w5))<|gf W (fun w6=>(M4 (A2 w6) (A2 w6) W))<|sd W (O5 W W<|fun hc=>A2<|J6 hc)<|A1<|cc W h (fun c1 h=> ?_)<|fun c1 h=> ?_))
 refine B0<|sv W<|A1<|B1 ?_
 cases h
 exact A6 (.inr W) (B6 (B3 W) C0) (.refl _)
 refine A8<|B0<|sq W<|sl W (gq W) W (sq W<|sl W G_hit W<|bs h fun v1 hv1 h=>sd W (C4 W W hv1 W)<|sd W (D1 W hv1 W W)<|sm W<|S5 W G_hit (BK v1) W (A1<|B0<|sq W<|sl W G_hit W<|bs h fun v2 hv2 h=>A9 W W A3 (Kl _ _ hv2) (.inl W) (sv W<|sv W<|sv W<|sv W<|sv W<|sv W<|sv W<|A1<|A5<|A5<|E8 W<|sq W<|sl W (gq W) W (sv W<|sv W<|gp W (K6 W) (fun _=>W) (gf W (vl W (gq W) W)<|gp W (K6 W) (fun _=>W) (gf W (vl W (gq W) W)<|gf W (fun w11=>(M4 (A2 w11) (A2 w11) W))<|sd W (O5 W W<|fun hc=>A2<|J6 hc)<|sv W<|gp W (K6 W) (fun _=>W) (gf W (vl W (gq W) W)<|gp W (K6 W) (fun _=>W) (gf W (fun w15=>(B2 (A2 w15) G_hit W W))<|bs h fun v3 hv3 h=> ?_))))))))
 refine N4 _ (i64 v3) (K6 W) (fun w16=>⟨_,[(.d (.agg [(.list (List.map Bk v1.Curve_.Pts))]))],_,_,(by simp only [A2 w16];rfl),W,A3,Oi _ _<|C1 w16 hv3,(.inl W)⟩) ?_
 refine gf W (fun w17=>(M4 (A2 w17) (A2 w17) W))<|sd W (O5 W W<|fun hc=>A2<|J6 hc)<|sv W<|gp W (K6 W) (fun _=>W) (gf W (vl W (gq W) W)<|gf W (vb W W W)<|sd W (O5 W W<|fun hc=>A2<|J6 hc)<|sv W<|gp W (K6 W) (fun _=>W) (gf W (vl W (gq W) W)<|gp W (K6 W) (fun _=>W) (gf W (vl W (gq W) W)<|gf W (fun w25=>(M4 (A2 w25) (A2 w25) W))<|sd W (O5 W W<|fun hc=>A2<|J6 hc)<|sv W<|gp W (K6 W) (fun _=>W) (gf W (vl W (gq W) W)<|gf W (vb W W W)<|sd W (O5 W W<|fun hc=>A2<|J6 hc)<|sv W<|gp W (K6 W) (fun _=>W) (gf W (vl W (gq W) W)<|gf W (fun _=>W)<|bs h fun v4 hv4 h=> ?_)))))
 refine N4 _ (bo v4) (K6 W) (fun w32=>⟨_,[(di p2.Limit),(di 0),(di v2.1)],_,_,(by simp only [A2 w32];rfl),W,A3,Do _ _ _ _<|C1 w32 hv4,(.inl W)⟩) ?_
 refine M5 _ (.d (bo (!v4))) W (K6 W) (fun w33=>(by simp only [A2 w33];rfl)) ?_
 refine sd W (O5 W W<|fun hc=>A2<|J6 hc)<|A1<|cc W h (fun c2 h=> ?_)<|fun c2 h=> ?_
 refine B0<|sv W<|A1<|B1 ?_
 cases h
 exact A6 (.inr W) (B6 (B3 W) C0) (.refl _)
 refine A8<|B0<|sv W<|A1<|B1 ?_
 cases h
 exact A6 (.inr W) (B6 (B3 W) C0) (.refl _)
def Fh [Lp](p1:Map)(x4:(Int×Int)):Option (Stp (Int×Int) Int):=
  cond ((decide (x4.2< (p1.Works.length:Int)))&& (x4.1==0)) ((C3 p1.Works x4.2).bind fun v8=>(Hd p1 v8).bind fun v9=>some (.go (v9,(D9 (x4.2+1))))) (some (.out x4.1))
def Fi [Lp](p1:Map)(x3:(Int×Int)):Option (Stp (Int×Int) Int):=
  cond ((decide (x3.2< (p1.Zones.length:Int)))&& (x3.1==0)) ((C3 p1.Zones x3.2).bind fun v6=>(Hc p1 v6).bind fun v7=>some (.go (v7,(D9 (x3.2+1))))) (some (.out x3.1))
def Fj [Lp](p1:Map)(x2:(Int×Int)):Option (Stp (Int×Int) Int):=
  cond ((decide (x2.2< (p1.Signals.length:Int)))&& (x2.1==0)) ((C3 p1.Signals x2.2).bind fun v4=>(Dv p1 v4).bind fun v5=>some (.go (v5,(D9 (x2.2+1))))) (some (.out x2.1))
def Cy [Lp](p1:Map)(x1:Int):Option (Stp Int (Sum Unit Int)):=
  cond (decide (x1< (p1.Lanes.length:Int))) ((Ha p1 x1).bind fun v2=>cond (v2 !=0) (some (.out (.inr v2))) (some (.go (D9 (x1+1))))) (some (.out (.inl ())))
def Im [Lp](p1:Map):Option Int:=
  (Cc p1.Version 0 1099511627776).bind fun v1=>cond (!v1) (some 2) (cond ((p1.Lanes.length:Int)==0) (some 6) (cond ((((decide ((p1.Lanes.length:Int)>12))||(decide ((p1.Zones.length:Int)>12)))||(decide ((p1.Signals.length:Int)>4)))||(decide ((p1.Works.length:Int)>8))) (some 8) (thenS (loop (Cy p1) 0) (fun _=>(Hb p1).bind fun v3=>(loop (Fj p1) (v3,0)).bind fun y2=>(loop (Fi p1) (y2,0)).bind fun y3=>(loop (Fh p1) (y3,0)).bind fun y4=>some y4) (fun r=>some r))))
theorem Qb(p1 r)(h:Im p1=some r):PCall prog 76 [(.agg (P6 p1))] (i64 r):=by
 refine C2 (fk func76 ntmps76 m0 (by with_unfolding_all rfl)) (nl W) ?_
 unfold Im at h
 refine B4 (s0:=⟨T [(0,(.d _))],G []⟩) (F0 W W) ?_
 refine lr<|fun u1 _=>sm W<|sv W<|A1<|A5<|B0<|sq W<|sl W G_hit W<|bs h fun v1 hv1 h=>A9 W W A3 (Do _ _ _ _ hv1) (.inl W) (B8 (.d (bo (!v1))) W W (A1<|cc W h (fun c1 h=> ?_)<|fun c1 h=> ?_))
 refine B0<|sv W<|A1<|B1 ?_
 cases h
 exact A6 (.inr W) (B6 (B3 W) C0) (.refl _)
 refine A8<|A5<|B0<|sq W<|sl W G_hit W<|sd W (D3 W)<|sv W<|A1<|cc W h (fun c2 h=> ?_)<|fun c2 h=> ?_
 refine B0<|sv W<|A1<|B1 ?_
 cases h
 exact A6 (.inr W) (B6 (B3 W) C0) (.refl _)
 refine A8<|A5<|B0<|sq W<|sl W G_hit W<|sd W (D3 W)<|sv W<|sv W<|gp W (K6 W) (fun _=>W) (gf W (vl W G_hit W)<|gf W (fun w3=>(D3<|A2 w3))<|gf W (vb W W W)<|sd W (O5 W W<|fun hc=>A2<|J6 hc)<|sv W<|gp W (K6 W) (fun _=>W) (gf W (vl W G_hit W)<|gf W (fun w7=>(D3<|A2 w7))<|gf W (vb W W W)<|sd W (O5 W W<|fun hc=>A2<|J6 hc)<|sv W<|gp W (K6 W) (fun _=>W) (gf W (vl W G_hit W)<|gf W (fun w11=>(D3<|A2 w11))<|gf W (vb W W W)<|sd W (O5 W W<|fun hc=>A2<|J6 hc)<|A1<|cc W h (fun c3 h=> ?_)<|fun c3 h=> ?_)))
 refine B0<|sv W<|A1<|B1 ?_
 cases h
 exact A6 (.inr W) (B6 (B3 W) C0) (.refl _)
 refine A8<|A5<|B0<|sv W<|A1<|js h fun z1 hz1 h=>D6 (fun s=> ∃(y1:Unit) (g1:Unit),z1= .inl y1∧Sb ⟨T [(1,(.ptr (1,u1) 0))],G [((1,u1),some<|.box 33 (L4 p1))]⟩ s) ?_ ?_
 refine A7<|E1 (Cy p1) (fun (x1:Int) (g2:Unit)=>⟨T [(1,(.ptr (1,u1) 0)),(3,(di x1))],G [((1,u1),some<|.box 33 (L4 p1))]⟩) 0 () _ hz1 (F0 W W) ?_
 intro x1 g2 z2 hz2 ez2
 unfold Cy at hz2
 refine A5<|B0<|sv W<|sq W<|sl W G_hit W<|sd W (D3 W)<|sv W<|A1<|cc W hz2 (fun c4 hz2=> ?_)<|fun c4 hz2=> ?_
 refine A8<|A5<|A7<|B0<|sd W (B2 W G_hit W W)<|sv W<|bs hz2 fun _ hv2 hz2=>A9 W W A3 (Zk _ _ _ hv2) (.inl W) (sv W<|A1<|B0<|sv W<|sv W<|A1<|cc W hz2 (fun c5 hz2=> ?_)<|fun c5 hz2=> ?_)
 refine B0<|sv W<|sv W<|A1<|B1 ?_
 cases hz2
 obtain rfl:=ez2 _ rfl
 refine ⟨nofun,F2 ?_⟩
 rw [bX]at h
 cases h
 exact A6 (.inr W) (B6 (B3 W) C0) (.refl _)
 refine A8<|E0<|B9<|sv W<|sv W<|sv W<|A1<|E2 ?_
 cases hz2
 exact ⟨W,(),(F0 W W)⟩
 refine C7 W ?_
 cases hz2
 obtain rfl:=ez2 _ rfl
 refine ⟨nofun,C5 W<|U1 ?_⟩
 exact ⟨_,(),W,(F0 W W)⟩
 rintro _ ⟨y1,g1,rfl,q1⟩
 rw [bW]at h
 refine B4 q1<|B0<|sd W (B2 W G_hit W W)<|bs h fun v3 hv3 h=>A9 W W A3 (Zl _ _ hv3) (.inl W) (sv W<|A1<|A5<|B0<|sv W<|A1<|bs h fun y2 hy2 h=>D6 (fun s=> ∃g3:Unit,Sb ⟨T [(1,(.ptr (1,u1) 0)),(5,(di y2))],G [((1,u1),some<|.box 33 (L4 p1))]⟩ s) ?_ ?_)
 refine A7<|E1 (Fj p1) (fun (x2:(Int×Int)) (g4:Unit)=>⟨T [(1,(.ptr (1,u1) 0)),(5,(di x2.1)),(6,(di x2.2))],G [((1,u1),some<|.box 33 (L4 p1))]⟩) (v3,0) () _ hy2 (F0 W W) ?_
 intro x2 g4 z3 hz3 ez3
 unfold Fj at hz3
 refine A5<|B0<|sv W<|sq W<|sl W G_hit W<|sd W (D3 W)<|sv W<|sv W<|gt W (fun _=>W)<|gt W (vb W W W)<|sa W W W<|A1<|cc W hz3 (fun c6 hz3=> ?_)<|fun c6 hz3=> ?_
 refine A8<|A5<|A7<|E8 W<|sd W (B2 W G_hit W W)<|sq W<|sl W G_hit W<|sv W<|bs hz3 fun _ hv4 hz3=>sd W (C4 W W hv4 W)<|sd W (D1 W hv4 W W)<|bs hz3 fun _ hv5 hz3=>A9 W W A3 (Wf _ _ _ hv5) (.inl W) (sv W<|A1<|E0<|B9<|sv W<|sv W<|sv W<|A1<|E2 ?_)
 cases hz3
 exact ⟨W,(),(F0 W W)⟩
 refine C7 W ?_
 cases hz3
 obtain rfl:=ez3 _ rfl
 refine ⟨nofun,C5 W<|U1 ?_⟩
 exact ⟨(),(F0 W W)⟩
 rintro _ ⟨g3,q2⟩
 refine B4 q2<|A5<|B0<|sv W<|A1<|bs h fun y3 hy3 h=>D6 (fun s=> ∃g5:Unit,Sb ⟨T [(1,(.ptr (1,u1) 0)),(5,(di y3))],G [((1,u1),some<|.box 33 (L4 p1))]⟩ s) ?_ ?_
 refine A7<|E1 (Fi p1) (fun (x3:(Int×Int)) (g6:Unit)=>⟨T [(1,(.ptr (1,u1) 0)),(5,(di x3.1)),(7,(di x3.2))],G [((1,u1),some<|.box 33 (L4 p1))]⟩) (y2,0) () _ hy3 (F0 W W) ?_
 intro x3 g6 z4 hz4 ez4
 unfold Fi at hz4
 refine A5<|B0<|sv W<|sq W<|sl W G_hit W<|sd W (D3 W)<|sv W<|sv W<|gt W (fun _=>W)<|gt W (vb W W W)<|sa W W W<|A1<|cc W hz4 (fun c7 hz4=> ?_)<|fun c7 hz4=> ?_
 refine A8<|A5<|A7<|E8 W<|sd W (B2 W G_hit W W)<|sq W<|sl W G_hit W<|sv W<|bs hz4 fun _ hv6 hz4=>sd W (C4 W W hv6 W)<|sd W (D1 W hv6 W W)<|bs hz4 fun _ hv7 hz4=>A9 W W A3 (Zm _ _ _ hv7) (.inl W) (sv W<|A1<|E0<|B9<|sv W<|sv W<|sv W<|A1<|E2 ?_)
 cases hz4
 exact ⟨W,(),(F0 W W)⟩
 refine C7 W ?_
 cases hz4
 obtain rfl:=ez4 _ rfl
 refine ⟨nofun,C5 W<|U1 ?_⟩
 exact ⟨(),(F0 W W)⟩
 rintro _ ⟨g5,q3⟩
 refine B4 q3<|A5<|B0<|sv W<|A1<|bs h fun y4 hy4 h=>D6 (fun s=> ∃g7:Unit,Sb ⟨T [(5,(di y4))],G []⟩ s) ?_ ?_
 refine A7<|E1 (Fh p1) (fun (x4:(Int×Int)) (g8:Unit)=>⟨T [(1,(.ptr (1,u1) 0)),(5,(di x4.1)),(8,(di x4.2))],G [((1,u1),some<|.box 33 (L4 p1))]⟩) (y3,0) () _ hy4 (F0 W W) ?_
 intro x4 g8 z5 hz5 ez5
 unfold Fh at hz5
 refine A5<|B0<|sv W<|sq W<|sl W G_hit W<|sd W (D3 W)<|sv W<|sv W<|gt W (fun _=>W)<|gt W (vb W W W)<|sa W W W<|A1<|cc W hz5 (fun c8 hz5=> ?_)<|fun c8 hz5=> ?_
 refine A8<|A5<|A7<|E8 W<|sd W (B2 W G_hit W W)<|sq W<|sl W G_hit W<|sv W<|bs hz5 fun _ hv8 hz5=>sd W (C4 W W hv8 W)<|sd W (D1 W hv8 W W)<|bs hz5 fun _ hv9 hz5=>A9 W W A3 (Zn _ _ _ hv9) (.inl W) (sv W<|A1<|E0<|B9<|sv W<|sv W<|sv W<|A1<|E2 ?_)
 cases hz5
 exact ⟨W,(),(F0 W W)⟩
 refine C7 W ?_
 cases hz5
 obtain rfl:=ez5 _ rfl
 refine ⟨nofun,C5 W<|U1 ?_⟩
 exact ⟨(),(F0 W W)⟩
 rintro _ ⟨g7,q4⟩
 refine B4 q4<|B0<|sv W<|sv W<|A1<|B1 ?_
 cases h
 exact A6 (.inr W) (B6 (B3 W) C0) (.refl _)
def Ls (p1:(List Int))(p2:Int)(x1:Int):Option (Stp Int (Sum Unit Bool)):=
  cond (decide (x1< (p1.length:Int))) ((C3 p1 x1).bind fun v1=>cond (v1==p2) (some (.out (.inr true))) (some (.go (D9 (x1+1))))) (some (.out (.inl ())))
def Mr [Lp](p1:(List Int))(p2:Int):Option Bool:=
  thenS (loop (Ls p1 p2) 0) (fun _=>some false) (fun r=>some r)
theorem Tn(p1 p2 r)(h:Mr p1 p2=some r):PCall prog 190 [(.list (List.map A4 p1)),(i64 p2)] (bo r):=by
 refine C2 (fk func190 ntmps190 m0 (by with_unfolding_all rfl)) (nl W) ?_
 unfold Mr at h
 refine B4 (s0:=⟨T [(0,(.d _)),(1,(.d _))],G []⟩) (F0 W W) ?_
 refine B0<|sv W<|A1<|A5<|B0<|sv W<|A1<|js h fun z1 hz1 h=>D6 (fun s=> ∃(y1:Unit) (g1:Unit),z1= .inl y1∧Sb ⟨T [],G []⟩ s) ?_ ?_
 refine A7<|E1 (Ls p1 p2) (fun (x1:Int) (g2:Unit)=>⟨T [(0,(dl A4 p1)),(1,(di p2)),(5,(di x1))],G []⟩) 0 () _ hz1 (F0 W W) ?_
 intro x1 g2 z2 hz2 ez2
 unfold Ls at hz2
 refine A5<|B0<|sv W<|sv W<|sd W (D3 W)<|sv W<|A1<|cc W hz2 (fun c1 hz2=> ?_)<|fun c1 hz2=> ?_
 refine A8<|A5<|A7<|B0<|sv W<|sv W<|bs hz2 fun _ hv1 hz2=>sd W (C4 W W hv1 W)<|sd W (C9 W hv1 W)<|sv W<|sv W<|A1<|cc W hz2 (fun c2 hz2=> ?_)<|fun c2 hz2=> ?_
 refine B0<|sv W<|A1<|B1 ?_
 cases hz2
 obtain rfl:=ez2 _ rfl
 refine ⟨nofun,F2 ?_⟩
 rw [bX]at h
 cases h
 exact A6 (.inr W) (B6 (B3 W) C0) (.refl _)
 refine A8<|E0<|B9<|sv W<|sv W<|sv W<|A1<|E2 ?_
 cases hz2
 exact ⟨W,(),(F0 W W)⟩
 refine C7 W ?_
 cases hz2
 obtain rfl:=ez2 _ rfl
 refine ⟨nofun,C5 W<|U1 ?_⟩
 exact ⟨_,(),W,(F0 W W)⟩
 rintro _ ⟨y1,g1,rfl,q1⟩
 rw [bW]at h
 refine B4 q1<|B0<|sv W<|A1<|B1 ?_
 cases h
 exact A6 (.inr W) (B6 (B3 W) C0) (.refl _)
def He [Lp](p1:Map)(p2:Int)(x1:((List Int)×Int)):Option (Stp ((List Int)×Int) (List Int)):=
  cond (decide (x1.2< (p1.Lanes.length:Int))) ((C3 p1.Lanes x1.2).bind fun v1=>(Mr v1.Next p2).bind fun v2=>cond v2 ((Au x1.1 [x1.2]).bind fun v3=>some (.go (v3,(D9 (x1.2+1))))) (some (.go (x1.1,(D9 (x1.2+1)))))) (some (.out x1.1))
def Jh [Lp](p1:Map)(p2:Int):Option (List Int):=
  (loop (He p1 p2) ([],0)).bind fun y1=>some y1
theorem Up(p1 p2 r)(h:Jh p1 p2=some r):PCall prog 189 [(.agg (P6 p1)),(i64 p2)] (.list (List.map A4 r)):=by
 refine C2 (fk func189 ntmps189 (fun r=>if r==6 then [1002]else []) (by with_unfolding_all rfl)) (nl W) ?_
 unfold Jh at h
 refine B4 (s0:=⟨T [(0,(.d _)),(1,(.d _))],G []⟩) (F0 W W) ?_
 refine lr<|fun u1 _=>sm W<|sv W<|A1<|B0<|sv W<|A1<|A5<|B0<|sv W<|A1<|bs h fun y1 hy1 h=>D6 (fun s=> ∃g1:Nat,Sb ⟨T [(5,(oS y1 (25,g1)))],G [((25,g1),oB 3 1 A4 y1)]⟩ s) ?_ ?_
 refine A7<|E1 (He p1 p2) (fun (x1:((List Int)×Int)) (g2:Nat)=>⟨T [(1,(di p2)),(2,(.ptr (2,u1) 0)),(5,(oS x1.1 (25,g2))),(6,(di x1.2))],G [((2,u1),some<|.box 33 (L4 p1)),((25,g2),oB 3 1 A4 x1.1)]⟩) ([],0) 0 _ hy1 (D8 (Y0 W)<|B5 G_hit (.of W)<|R6 trivial) ?_
 intro x1 g2 z1 hz1 ez1
 unfold He at hz1
 refine A5<|B0<|sv W<|sq W<|sl W G_hit W<|sd W (D3 W)<|sv W<|A1<|cc W hz1 (fun c1 hz1=> ?_)<|fun c1 hz1=> ?_
 refine A8<|A5<|A7<|B0<|sq W<|sl W G_hit W<|sv W<|bs hz1 fun _ hv1 hz1=>sd W (C4 W W hv1 W)<|sv W<|sd W (C9 W hv1 W)<|sv W<|bs hz1 fun _ hv2 hz1=>A9 W W A3 (Tn _ _ _ hv2) (.inl W) (A1<|cc W hz1 (fun c2 hz1=> ?_)<|fun c2 hz1=> ?_)
 refine As fun u6 _=>B8 (oS x1.1 (25,g2)) W W (sv W<|B8 (dl A4 [x1.2]) W W (bs hz1 fun _ hv3 hz1=>P1 A4 (25,g2) x1.1 x1.2 [] _ (L3<|fun _=>W) W (gq W) hv3 (ss W<|A1<|E0<|B9<|sv W<|sv W<|sv W<|A1<|E2 ?_)))
 cases hz1
 exact ⟨W,u6,(D8 ⟨.of W, .of W,(.of (T9<|U2 hv3).symm), .of W,trivial⟩<|sg W<|N0 G_hit trivial)⟩
 refine A8<|E0<|B9<|sv W<|sv W<|sv W<|A1<|E2 ?_
 cases hz1
 exact ⟨W,g2,(D8 (Y0 W)<|B5 G_hit (.of W)<|B7 (gq W) trivial)⟩
 refine C7 W ?_
 cases hz1
 obtain rfl:=ez1 _ rfl
 refine ⟨nofun,C5 W<|U1 ?_⟩
 exact ⟨g2,(D8 ⟨.of W,trivial⟩<|B7 (gq W) trivial)⟩
 rintro _ ⟨g1,q1⟩
 refine B4 q1<|B0<|B8 (oS y1 (25,g1)) W W (B8 (oS y1 (25,g1)) W W (A1<|B1 ?_))
 cases h
 exact A6 (.inr W) (B6 (B3 W)<|S9 G_hit) S8
def W3 [Lp](p1:Map)(p2:(List Int))(x1:Int):Option (Stp Int (Sum Unit Int)):=
  cond (decide (x1< (p2.length:Int))) ((C3 p2 (D9 (x1 - 1))).bind fun v6=>(C3 p1.Lanes v6).bind fun v7=>(C3 p2 x1).bind fun v8=>(Mr v7.Next v8).bind fun v9=>cond (!v9) (some (.out (.inr 13))) (some (.go (D9 (x1+1))))) (some (.out (.inl ())))
def X6 [Lp](p1:Map)(p2:(List Int)):Option Int:=
  (Im p1).bind fun v1=>cond (v1 !=0) (some v1) (((cond (!(((p2.length:Int)==0)||(decide ((p2.length:Int)>8)))) (C3 p2 0) (some default))).bind fun v2=>((cond (!((((p2.length:Int)==0)||(decide ((p2.length:Int)>8)))||(decide (v2<0)))) (C3 p2 0) (some default))).bind fun v3=>((cond (!(((((p2.length:Int)==0)||(decide ((p2.length:Int)>8)))||(decide (v2<0)))||(decide (v3≥(p1.Lanes.length:Int))))) (C3 p2 0) (some default))).bind fun v4=>((cond (!(((((p2.length:Int)==0)||(decide ((p2.length:Int)>8)))||(decide (v2<0)))||(decide (v3≥(p1.Lanes.length:Int))))) (Jh p1 v4) (some default))).bind fun v5=>cond ((((((p2.length:Int)==0)||(decide ((p2.length:Int)>8)))||(decide (v2<0)))||(decide (v3≥(p1.Lanes.length:Int))))||(decide ((v5.length:Int)>0))) (some 13) (thenS (loop (W3 p1 p2) 1) (fun _=>some 0) (fun r=>some r)))
theorem Fb(p1 p2 r)(h:X6 p1 p2=some r):PCall prog 102 [(.agg (P6 p1)),(.list (List.map A4 p2))] (i64 r):=by
 refine C2 (fk func102 ntmps102 m0 (by with_unfolding_all rfl)) (nl W) ?_
 unfold X6 at h
 refine B4 (s0:=⟨T [(0,(.d _)),(1,(.d _))],G []⟩) (F0 W W) ?_
 refine lr<|fun u1 _=>sm W<|sv W<|A1<|B0<|sd W (B2 W G_hit W W)<|bs h fun _ hv1 h=>A9 W W A3 (Qb _ _ hv1) (.inl W) (sv W<|A1<|A5<|B0<|sv W<|sv W<|A1<|cc W h (fun c1 h=> ?_)<|fun c1 h=> ?_)
 refine B0<|sv W<|sv W<|A1<|B1 ?_
 cases h
 exact A6 (.inr W) (B6 (B3 W) C0) (.refl _)
 refine A8<|A5<|A5<|E8 W<|sv W<|sd W (D3 W)<|sv W<|sv W<|gf W (fun _=>W)<|gf W (fun w2=>(D3<|A2 w2))<|gf W (vb W W W)<|sd W (O5 W W<|fun hc=>A2<|J6 hc)<|sv W<|gf W (fun _=>W)<|bs h fun _ hv2 h=>gf W (fun w5=>(C4 (A2 w5) W (C1 w5 hv2) W))<|gf W (fun w6=>(C9 (A2 w6) (C1 w6 hv2) W))<|gf W (vb W W W)<|sd W (O5 W W<|fun hc=>A2<|J6 hc)<|sv W<|gf W (fun _=>W)<|bs h fun _ hv3 h=>gf W (fun w9=>(C4 (A2 w9) W (C1 w9 hv3) W))<|gf W (fun w10=>(C9 (A2 w10) (C1 w10 hv3) W))<|gp W (K6 W) (fun _=>W) (gf W (vl W G_hit W)<|gf W (fun w13=>(D3<|A2 w13))<|gf W (fun w14=>(M4 (A2 w14) (A2 w14) W))<|sd W (O5 W W<|fun hc=>A2<|J6 hc)<|sv W<|gf W (fun _=>(B2 W G_hit W W))<|gf W (fun _=>W)<|bs h fun v4 hv4 h=>gf W (fun w17=>(C4 (A2 w17) W (C1 w17 hv4) W))<|gf W (fun w18=>(C9 (A2 w18) (C1 w18 hv4) W))<|bs h fun v5 hv5 h=> ?_)
 refine N4 _ (.list (List.map A4 v5)) (K6 W) (fun w19=>⟨_,[(.d (.agg (P6 p1))),(di v4)],_,_,(by simp only [A2 w19];rfl),W,A3,Up _ _ _<|C1 w19 hv5,(.inl W)⟩) ?_
 refine gf W (fun w20=>(D3<|A2 w20))<|gf W (vb W W W)<|sd W (O5 W W<|fun hc=>A2<|J6 hc)<|A1<|cc W h (fun c2 h=> ?_)<|fun c2 h=> ?_
 refine B0<|sv W<|A1<|B1 ?_
 cases h
 exact A6 (.inr W) (B6 (B3 W) C0) (.refl _)
 refine A8<|A5<|B0<|sv W<|A1<|js h fun z1 hz1 h=>D6 (fun s=> ∃(y1:Unit) (g1:Unit),z1= .inl y1∧Sb ⟨T [],G []⟩ s) ?_ ?_
 refine A7<|E1 (W3 p1 p2) (fun (x1:Int) (g2:Unit)=>⟨T [(1,(dl A4 p2)),(2,(.ptr (2,u1) 0)),(6,(di x1))],G [((2,u1),some<|.box 33 (L4 p1))]⟩) 1 () _ hz1 (F0 W W) ?_
 intro x1 g2 z2 hz2 ez2
 unfold W3 at hz2
 refine A5<|B0<|sv W<|sv W<|sd W (D3 W)<|sv W<|A1<|cc W hz2 (fun c3 hz2=> ?_)<|fun c3 hz2=> ?_
 refine A8<|A5<|A7<|A5<|E8 W<|sq W<|sl W G_hit W<|sv W<|sv W<|sv W<|bs hz2 fun _ hv6 hz2=>sd W (C4 W W hv6 W)<|sd W (C9 W hv6 W)<|bs hz2 fun _ hv7 hz2=>sd W (C4 W W hv7 W)<|sv W<|sd W (C9 W hv7 W)<|sv W<|sv W<|bs hz2 fun _ hv8 hz2=>sd W (C4 W W hv8 W)<|sd W (C9 W hv8 W)<|bs hz2 fun v9 hv9 hz2=>A9 W W A3 (Tn _ _ _ hv9) (.inl W) (B8 (.d (bo (!v9))) W W (A1<|cc W hz2 (fun c4 hz2=> ?_)<|fun c4 hz2=> ?_))
 refine B0<|sv W<|A1<|B1 ?_
 cases hz2
 obtain rfl:=ez2 _ rfl
 refine ⟨nofun,F2 ?_⟩
 rw [bX]at h
 cases h
 exact A6 (.inr W) (B6 (B3 W) C0) (.refl _)
 refine A8<|E0<|B9<|sv W<|sv W<|sv W<|A1<|E2 ?_
 cases hz2
 exact ⟨W,(),(F0 W W)⟩
 refine C7 W ?_
 cases hz2
 obtain rfl:=ez2 _ rfl
 refine ⟨nofun,C5 W<|U1 ?_⟩
 exact ⟨_,(),W,(F0 W W)⟩
 rintro _ ⟨y1,g1,rfl,q1⟩
 rw [bW]at h
 refine B4 q1<|B0<|sv W<|A1<|B1 ?_
 cases h
 exact A6 (.inr W) (B6 (B3 W) C0) (.refl _)
def Ji [Lp](p1:Map)(p2:Int):Option Int:=
  (C3 p1.Lanes p2).bind fun v1=>(Dw v1.Curve_).bind fun v2=>some v2
theorem Uq(p1 p2 r)(h:Ji p1 p2=some r):PCall prog 195 [(.agg (P6 p1)),(i64 p2)] (i64 r):=by
 refine C2 (fk func195 ntmps195 m0 (by with_unfolding_all rfl)) (nl W) ?_
 unfold Ji at h
 refine B4 (s0:=⟨T [(0,(.d _)),(1,(.d _))],G []⟩) (F0 W W) ?_
 refine B0<|sm W<|sv W<|A1<|B0<|sq W<|sl W G_hit W<|sv W<|bs h fun _ hv1 h=>sd W (C4 W W hv1 W)<|sv W<|sd W (D1 W hv1 W W)<|bs h fun _ hv2 h=>A9 W W A3 (Oi _ _ hv2) (.inl W) (sv W<|A1<|B1 ?_)
 cases h
 exact A6 (.inr W) (B6 (B3 W) C0) (.refl _)
def Br [Lp](p1:Map)(p2:(List Int))(x1:((List Int)×Int×Int)):Option (Stp ((List Int)×Int×Int) ((List Int)×Int)):=
  cond (decide (x1.2.2< (p2.length:Int))) ((Au x1.1 [x1.2.1]).bind fun v1=>(C3 p2 x1.2.2).bind fun v2=>(Ji p1 v2).bind fun v3=>some (.go (v1,(D9 (x1.2.1+v3)),(D9 (x1.2.2+1))))) (some (.out (x1.1,x1.2.1)))
def Jj [Lp](p1:Map)(p2:(List Int)):Option ((List Int)×Int):=
  (loop (Br p1 p2) ([],0,0)).bind fun y1=>some (y1.1,y1.2)
theorem Ur(p1 p2 r)(h:Jj p1 p2=some r):PCall prog 186 [(.agg (P6 p1)),(.list (List.map A4 p2))] (.tup [(.list (List.map A4 r.1)),(i64 r.2)]):=by
 refine C2 (fk func186 ntmps186 (fun r=>if r==6 then [1002]else []) (by with_unfolding_all rfl)) (nl W) ?_
 unfold Jj at h
 refine B4 (s0:=⟨T [(0,(.d _)),(1,(.d _))],G []⟩) (F0 W W) ?_
 refine lr<|fun u1 _=>sm W<|sv W<|sv W<|A1<|B0<|sv W<|A1<|B0<|sv W<|A1<|A5<|B0<|sv W<|A1<|bs h fun y1 hy1 h=>D6 (fun s=> ∃g1:Nat,Sb ⟨T [(6,(oS y1.1 (18,g1))),(7,(di y1.2))],G [((18,g1),oB 2 1 A4 y1.1)]⟩ s) ?_ ?_
 refine A7<|E1 (Br p1 p2) (fun (x1:((List Int)×Int×Int)) (g2:Nat)=>⟨T [(1,(dl A4 p2)),(2,(.ptr (2,u1) 0)),(6,(oS x1.1 (18,g2))),(7,(di x1.2.1)),(8,(di x1.2.2))],G [((2,u1),some<|.box 33 (L4 p1)),((18,g2),oB 2 1 A4 x1.1)]⟩) ([],0,0) 0 _ hy1 (D8 (Y0 W)<|B5 G_hit (.of W)<|R6 trivial) ?_
 intro x1 g2 z1 hz1 ez1
 unfold Br at hz1
 refine A5<|B0<|sv W<|sv W<|sd W (D3 W)<|sv W<|A1<|cc W hz1 (fun c1 hz1=> ?_)<|fun c1 hz1=> ?_
 refine A8<|A5<|A7<|lr<|fun u6 _=>B8 (oS x1.1 (18,g2)) W W (sv W<|B8 (dl A4 [x1.2.1]) W W (bs hz1 fun _ hv1 hz1=>P1 A4 (18,g2) x1.1 x1.2.1 [] _ (L3<|fun _=>W) W (gq W) hv1 (ss W<|A1<|E8 W<|sv W<|sd W (B2 W (gq W) W W)<|sv W<|sv W<|bs hz1 fun _ hv2 hz1=>sd W (C4 W W hv2 W)<|sd W (C9 W hv2 W)<|bs hz1 fun _ hv3 hz1=>A9 W W A3 (Uq _ _ _ hv3) (.inl W) (sv W<|sv W<|A1<|E0<|B9<|sv W<|sv W<|sv W<|A1<|E2 ?_))))
 cases hz1
 exact ⟨W,u6,(D8 ⟨.of W, .of W,(.of (T9<|U2 hv1).symm), .of W, .of W,trivial⟩<|sg W<|N0 G_hit trivial)⟩
 refine C7 W ?_
 cases hz1
 obtain rfl:=ez1 _ rfl
 refine ⟨nofun,C5 W<|U1 ?_⟩
 exact ⟨g2,(D8 (Y0 W)<|B7 (gq W) trivial)⟩
 rintro _ ⟨g1,q1⟩
 refine B4 q1<|B0<|B8 (oS y1.1 (18,g1)) W W (sv W<|B8 (oS y1.1 (18,g1)) W W (sv W<|A1<|B1 ?_))
 cases h
 exact A6 (.inr W) (Jt (B3 W) (B3 W) (S9 G_hit) C0) (.tup (.cons S8 A3))
def Y7 [Lp](p1:Map)(p2:(List Int)):Option Int:=
  (X6 p1 p2).bind fun v1=>cond (v1 !=0) (some 0) ((Jj p1 p2).bind fun v2=>some v2.2)
theorem Io(p1 p2 r)(h:Y7 p1 p2=some r):PCall prog 97 [(.agg (P6 p1)),(.list (List.map A4 p2))] (i64 r):=by
 refine C2 (fk func97 ntmps97 m0 (by with_unfolding_all rfl)) (nl W) ?_
 unfold Y7 at h
 refine B4 (s0:=⟨T [(0,(.d _)),(1,(.d _))],G []⟩) (F0 W W) ?_
 refine B0<|sm W<|sv W<|A1<|A5<|B0<|sd W (B2 W G_hit W W)<|sv W<|bs h fun _ hv1 h=>A9 W W A3 (Fb _ _ _ hv1) (.inl W) (sv W<|A1<|cc W h (fun c1 h=> ?_)<|fun c1 h=> ?_)
 refine B0<|sv W<|A1<|B1 ?_
 cases h
 exact A6 (.inr W) (B6 (B3 W) C0) (.refl _)
 refine A8<|B0<|sd W (B2 W G_hit W W)<|sv W<|bs h fun _ hv2 h=>A9 W W A3 (Ur _ _ _ hv2) (.inl W) (sv W<|sv W<|sv W<|sv W<|sv W<|A1<|B0<|sv W<|sv W<|A1<|B1 ?_)
 cases h
 exact A6 (.inr W) (B6 (B3 W) C0) (.refl _)
def Gj [Lp](p1:Map)(p2:(List Int)):Option (List Int):=
  (X6 p1 p2).bind fun v1=>cond (v1 !=0) (some []) ((Jj p1 p2).bind fun v2=>some v2.1)
theorem Oj(p1 p2 r)(h:Gj p1 p2=some r):PCall prog 96 [(.agg (P6 p1)),(.list (List.map A4 p2))] (.list (List.map A4 r)):=by
 refine C2 (fk func96 ntmps96 m0 (by with_unfolding_all rfl)) (nl W) ?_
 unfold Gj at h
 refine B4 (s0:=⟨T [(0,(.d _)),(1,(.d _))],G []⟩) (F0 W W) ?_
 refine B0<|sm W<|sv W<|A1<|A5<|B0<|sd W (B2 W G_hit W W)<|sv W<|bs h fun _ hv1 h=>A9 W W A3 (Fb _ _ _ hv1) (.inl W) (sv W<|A1<|cc W h (fun c1 h=> ?_)<|fun c1 h=> ?_)
 refine B0<|sv W<|A1<|B1 ?_
 cases h
 exact A6 (.inr W) (B6 (B3 W) C0) DLe.nil
 refine A8<|B0<|sd W (B2 W G_hit W W)<|sv W<|bs h fun _ hv2 h=>A9 W W A3 (Ur _ _ _ hv2) (.inl W) (sv W<|sv W<|sv W<|sv W<|sv W<|A1<|B0<|sv W<|sv W<|A1<|B1 ?_)
 cases h
 exact A6 (.inr W) (B6 (B3 W) C0) (.refl _)
def En (p2:Agent)(v1:(List Int))(x1:(Int×Int)):Option (Stp (Int×Int) Int):=
  cond (decide (x1.2< (v1.length:Int))) ((C3 v1 x1.2).bind fun v2=>cond (decide (v2≤p2.S)) (some (.go (x1.2,(D9 (x1.2+1))))) (some (.go (x1.1,(D9 (x1.2+1)))))) (some (.out x1.1))
def Qc [Lp](p1:Map)(p2:Agent):Option (Int×Int):=
  (Gj p1 p2.Route).bind fun v1=>(loop (En p2 v1) (0,0)).bind fun y1=>(C3 p2.Route y1).bind fun v3=>(C3 v1 y1).bind fun v4=>some (v3,(D9 (p2.S - v4)))
theorem JE(p1 p2 r)(h:Qc p1 p2=some r):PCall prog 168 [(.agg (P6 p1)),(.agg (C6 p2))] (.tup [(i64 r.1),(i64 r.2)]):=by
 refine C2 (fk func168 ntmps168 m0 (by with_unfolding_all rfl)) (nl W) ?_
 unfold Qc at h
 refine B4 (s0:=⟨T [(0,(.d _)),(1,(.d _))],G []⟩) (F0 W W) ?_
 refine lr<|fun u1 _=>sm W<|sm W<|sv W<|sv W<|A1<|B0<|sd W (B2 W (gq W) W W)<|sq W<|sl W G_hit W<|bs h fun v1 hv1 h=>A9 W W A3 (Oj _ _ _ hv1) (.inl W) (sv W<|A1<|B0<|sv W<|A1<|A5<|B0<|sv W<|A1<|bs h fun y1 hy1 h=>D6 (fun s=> ∃g1:Unit,Sb ⟨T [(3,(.ptr (3,u1) 0)),(6,(dl A4 v1)),(7,(di y1))],G [((3,u1),some<|.box 45 (Q8 p2))]⟩ s) ?_ ?_)
 refine A7<|E1 (En p2 v1) (fun (x1:(Int×Int)) (g2:Unit)=>⟨T [(3,(.ptr (3,u1) 0)),(6,(dl A4 v1)),(7,(di x1.1)),(8,(di x1.2))],G [((3,u1),some<|.box 45 (Q8 p2))]⟩) (0,0) () _ hy1 (F0 W W) ?_
 intro x1 g2 z1 hz1 ez1
 unfold En at hz1
 refine A5<|B0<|sv W<|sv W<|sd W (D3 W)<|sv W<|A1<|cc W hz1 (fun c1 hz1=> ?_)<|fun c1 hz1=> ?_
 refine A8<|A5<|A7<|A5<|E8 W<|sv W<|sv W<|bs hz1 fun _ hv2 hz1=>sd W (C4 W W hv2 W)<|sd W (C9 W hv2 W)<|sq W<|sl W G_hit W<|sv W<|A1<|cc W hz1 (fun c2 hz1=> ?_)<|fun c2 hz1=> ?_
 refine B9<|sv W<|sv W<|A1<|E0<|B9<|sv W<|sv W<|sv W<|A1<|E2 ?_
 cases hz1
 exact ⟨W,(),(F0 W W)⟩
 refine A8<|E0<|B9<|sv W<|sv W<|sv W<|A1<|E2 ?_
 cases hz1
 exact ⟨W,(),(F0 W W)⟩
 refine C7 W ?_
 cases hz1
 obtain rfl:=ez1 _ rfl
 refine ⟨nofun,C5 W<|U1 ?_⟩
 exact ⟨(),(F0 W W)⟩
 rintro _ ⟨g1,q1⟩
 refine B4 q1<|A5<|E8 W<|sq W<|sl W G_hit W<|sv W<|bs h fun _ hv3 h=>sd W (C4 W W hv3 W)<|sd W (C9 W hv3 W)<|sq W<|sl W G_hit W<|sv W<|sv W<|bs h fun _ hv4 h=>sd W (C4 W W hv4 W)<|sd W (C9 W hv4 W)<|sv W<|sv W<|sv W<|A1<|B1 ?_
 cases h
 exact A6 (.inr W) (Jt (B3 W) (B3 W) C0 C0) (.refl _)
def Qd [Lp](p1:Map)(p2:Agent):Option Bool:=
  (Y7 p1 p2.Route).bind fun v1=>some (decide ((D9 (p2.S - p2.Len))>v1))
theorem JF(p1 p2 r)(h:Qd p1 p2=some r):PCall prog 169 [(.agg (P6 p1)),(.agg (C6 p2))] (bo r):=by
 refine C2 (fk func169 ntmps169 m0 (by with_unfolding_all rfl)) (nl W) ?_
 unfold Qd at h
 refine B4 (s0:=⟨T [(0,(.d _)),(1,(.d _))],G []⟩) (F0 W W) ?_
 refine B0<|sm W<|sn W W<|sv W<|A1<|A5<|E8 W<|sq W<|sl W G_hit W<|sq W<|sl W G_hit W<|sv W<|sd W (B2 W (gq W) W W)<|sq W<|sl W G_hit W<|bs h fun _ hv1 h=>A9 W W A3 (Io _ _ _ hv1) (.inl W) (sv W<|sv W<|A1<|B1 ?_)
 cases h
 exact A6 (.inr W) (B6 (B3 W) C0) (.refl _)
def Fk [Lp](p1:Map)(p2:State)(p3:Int):Option Int:=
  (C3 p2.Agents p3).bind fun v1=>(X6 p1 v1.Route).bind fun v2=>cond (v2 !=0) (some 13) (((cond (!(((((decide (v1.Len<300))||(decide (v1.Len>20000)))||(decide (v1.Begin<0)))||(decide (v1.Begin>1099511627776)))||(decide (v1.S<0)))) (Y7 p1 v1.Route) (some default))).bind fun v3=>cond ((((((decide (v1.Len<300))||(decide (v1.Len>20000)))||(decide (v1.Begin<0)))||(decide (v1.Begin>1099511627776)))||(decide (v1.S<0)))||(decide (v1.S>(D9 ((D9 (v3+v1.Len))+2000))))) (some 2) ((Qc p1 v1).bind fun v4=>(C3 p1.Lanes v4.1).bind fun v5=>(Du v5.Kind).bind fun v6=>cond ((decide (v1.V<0))||(decide (v1.V>v6.1))) (some 2) ((Qd p1 v1).bind fun v7=>cond (((!(v1.Gone==v7))||((decide (v1.Begin>p2.Tick))&& (v1.S !=0)))||((p3==0)&& (v1.Begin !=0))) (some 10) (some 0))))
theorem Xr(p1 p2 p3 r)(h:Fk p1 p2 p3=some r):PCall prog 77 [(.agg (P6 p1)),(.agg (Y1 p2)),(i64 p3)] (i64 r):=by
 refine C2 (fk func77 ntmps77 m0 (by with_unfolding_all rfl)) (nl W) ?_
 unfold Fk at h
 refine B4 (s0:=⟨T [(0,(.d _)),(1,(.d _)),(2,(.d _))],G []⟩) (F0 W W) ?_
 refine B0<|sm W<|sn W W<|sv W<|A1<|B0<|sq W<|sl W G_hit W<|sv W<|bs h fun v1 hv1 h=>sd W (C4 W W hv1 W)<|sd W (D1 W hv1 W W)<|sm W<|S5 W G_hit (Q8 v1) W (A1<|A5<|B0<|sd W (B2 W (gq W) W W)<|sq W<|sl W G_hit W<|bs h fun _ hv2 h=>A9 W W A3 (Fb _ _ _ hv2) (.inl W) (sv W<|A1<|cc W h (fun c1 h=> ?_)<|fun c1 h=> ?_))
 refine B0<|sv W<|A1<|B1 ?_
 cases h
 exact A6 (.inr W) (B6 (B3 W) C0) (.refl _)
 refine A8<|A5<|A5<|E8 W<|sq W<|sl W G_hit W<|sv W<|sv W<|gp W (K6 W) (fun _=>W) (gf W (vl W G_hit W)<|gf W (vb W W W)<|sd W (O5 W W<|fun hc=>A2<|J6 hc)<|sv W<|gp W (K6 W) (fun _=>W) (gf W (vl W G_hit W)<|gf W (vb W W W)<|sd W (O5 W W<|fun hc=>A2<|J6 hc)<|sv W<|gp W (K6 W) (fun _=>W) (gf W (vl W G_hit W)<|gf W (vb W W W)<|sd W (O5 W W<|fun hc=>A2<|J6 hc)<|sv W<|gp W (K6 W) (fun _=>W) (gf W (vl W G_hit W)<|gf W (vb W W W)<|sd W (O5 W W<|fun hc=>A2<|J6 hc)<|sv W<|gp W (K6 W) (fun _=>W) (gf W (vl W G_hit W)<|gf W (fun _=>(B2 W (gq W) W W))<|gp W (K6 W) (fun _=>W) (gf W (vl W G_hit W)<|bs h fun v3 hv3 h=> ?_))))))
 refine N4 _ (i64 v3) (K6 W) (fun w18=>⟨_,[(.d (.agg (P6 p1))),(dl A4 v1.Route)],_,_,(by simp only [A2 w18];rfl),W,A3,Io _ _ _<|C1 w18 hv3,(.inl W)⟩) ?_
 refine gp W (K6 W) (fun _=>W) (gf W (vl W G_hit W)<|gf W (fun w21=>(M4 (A2 w21) (A2 w21) W))<|gf W (vb W W W)<|gf W (fun w23=>(M4 (A2 w23) (A2 w23) W))<|sd W (O5 W W<|fun hc=>A2<|J6 hc)<|A1<|cc W h (fun c2 h=> ?_)<|fun c2 h=> ?_)
 refine B0<|sv W<|A1<|B1 ?_
 cases h
 exact A6 (.inr W) (B6 (B3 W) C0) (.refl _)
 refine A8<|B0<|sd W (B2 W (gq W) W W)<|sd W (B2 W G_hit W W)<|bs h fun _ hv4 h=>A9 W W A3 (JE _ _ _ hv4) (.inl W) (sv W<|sv W<|sv W<|sv W<|sv W<|A1<|B0<|sq W<|sl W (gq W) W (sv W<|bs h fun _ hv5 h=>sd W (C4 W W hv5 W)<|sv W<|sd W (C9 W hv5 W)<|bs h fun _ hv6 h=>A9 W W A3 (Kl _ _ hv6) (.inl W) (sv W<|sv W<|sv W<|sv W<|sv W<|sv W<|sv W<|A1<|A5<|B0<|sq W<|sl W G_hit W<|sv W<|sv W<|gp W (K6 W) (fun _=>W) (gf W (vl W G_hit W)<|gf W (fun _=>W)<|gf W (fun w27=>(M4 (A2 w27) (A2 w27) W))<|sd W (O5 W W<|fun hc=>A2<|J6 hc)<|A1<|cc W h (fun c3 h=> ?_)<|fun c3 h=> ?_))))
 refine B0<|sv W<|A1<|B1 ?_
 cases h
 exact A6 (.inr W) (B6 (B3 W) C0) (.refl _)
 refine A8<|A5<|A5<|E8 W<|sq W<|sl W G_hit W<|sd W (B2 W (gq W) W W)<|sd W (B2 W G_hit W W)<|bs h fun v7 hv7 h=>A9 W W A3 (JF _ _ _ hv7) (.inl W) (B8 (.d (bo (!(v1.Gone==v7)))) W W (sv W<|gp W (K6 W) (fun _=>W) (gf W (vl W G_hit W)<|gp W (K6 W) (fun _=>W) (gf W (vl W (gq W) W)<|gf W (fun w32=>(M4 (A2 w32) (A2 w32) W))<|gf W (fun w33=>(MD<|A2 w33))<|M5 _ (.ptr _ _) W (U0 W) (fun _=>W) (gv W (U0 W) (vl W G_hit W) (gv W (U0 W) (vb W W W) (gf W (fun w37=>(BB (A2 w37) (fun hc=>A2<|BC w37 hc) W))<|sd W (O5 W W<|fun hc=>A2<|J6 hc)<|sv W<|gf W (fun _=>W)<|gf W (vb W W W)<|gf W (fun w40=>(MD<|A2 w40))<|M5 _ (.ptr _ _) W (U0 W) (fun _=>W) (gv W (U0 W) (vl W G_hit W) (gv W (U0 W) (vb W W W) (gf W (fun w44=>(BB (A2 w44) (fun hc=>A2<|BC w44 hc) W))<|sd W (O5 W W<|fun hc=>A2<|J6 hc)<|A1<|cc W h (fun c4 h=> ?_)<|fun c4 h=> ?_))))))))))
 refine B0<|sv W<|A1<|B1 ?_
 cases h
 exact A6 (.inr W) (B6 (B3 W) C0) (.refl _)
 refine A8<|B0<|sv W<|A1<|B1 ?_
 cases h
 exact A6 (.inr W) (B6 (B3 W) C0) (.refl _)
def Fl (p2:State)(x3:Int):Option (Stp Int (Sum Unit Int)):=
  cond (decide (x3< (p2.In.length:Int))) ((C3 p2.In x3).bind fun v7=>cond ((((decide (v7.Since<0))||(decide (v7.Since>p2.Tick)))||(decide (v7.Rank<0)))||(decide (v7.Rank>100))) (some (.out (.inr 2))) (some (.go (D9 (x3+1))))) (some (.out (.inl ())))
def Fm (p1:Map)(p2:State)(x2:Int):Option (Stp Int (Sum Unit Int)):=
  cond (decide (x2< (p2.In.length:Int))) ((C3 p2.In x2).bind fun v3=>cond ((((decide (v3.Agent_<0))||(decide (v3.Agent_≥(p2.Agents.length:Int))))||(decide (v3.Zone_<0)))||(decide (v3.Zone_≥(p1.Zones.length:Int)))) (some (.out (.inr 11))) (((cond (decide (x2>0)) (C3 p2.In (D9 (x2 - 1))) (some default))).bind fun v4=>((cond ((decide (x2>0))&& (!(decide (v3.Agent_<v4.Agent_)))) (C3 p2.In (D9 (x2 - 1))) (some default))).bind fun v5=>((cond (((decide (x2>0))&& (!(decide (v3.Agent_<v4.Agent_))))&& (v3.Agent_==v5.Agent_)) (C3 p2.In (D9 (x2 - 1))) (some default))).bind fun v6=>cond ((decide (x2>0))&& ((decide (v3.Agent_<v4.Agent_))||((v3.Agent_==v5.Agent_)&& (decide (v3.Zone_≤v6.Zone_))))) (some (.out (.inr 11))) (some (.go (D9 (x2+1)))))) (some (.out (.inl ())))
def Fo [Lp](p1:Map)(p2:State)(x1:Int):Option (Stp Int (Sum Unit Int)):=
  cond (decide (x1< (p2.Agents.length:Int))) ((Fk p1 p2 x1).bind fun v2=>cond (v2 !=0) (some (.out (.inr v2))) (some (.go (D9 (x1+1))))) (some (.out (.inl ())))
def Nw [Lp](p1:Map)(p2:State):Option Int:=
  (Im p1).bind fun v1=>cond (v1 !=0) (some v1) (cond ((decide (p2.Tick<0))||(decide (p2.Tick>1099511627776))) (some 2) (cond ((p2.Agents.length:Int)==0) (some 6) (cond (decide ((p2.Agents.length:Int)>8)) (some 8) (thenS (loop (Fo p1 p2) 0) (fun _=>thenS (loop (Fm p1 p2) 0) (fun _=>thenS (loop (Fl p2) 0) (fun _=>some 0) (fun r=>some r)) (fun r=>some r)) (fun r=>some r)))))
theorem HH(p1 p2 r)(h:Nw p1 p2=some r):PCall prog 25 [(.agg (P6 p1)),(.agg (Y1 p2))] (i64 r):=by
 refine C2 (fk func25 ntmps25 m0 (by with_unfolding_all rfl)) (nl W) ?_
 unfold Nw at h
 refine B4 (s0:=⟨T [(0,(.d _)),(1,(.d _))],G []⟩) (F0 W W) ?_
 refine lr<|fun u1 _=>sm W<|sm W<|sv W<|A1<|B0<|sd W (B2 W (gq W) W W)<|bs h fun _ hv1 h=>A9 W W A3 (Qb _ _ hv1) (.inl W) (sv W<|A1<|A5<|B0<|sv W<|sv W<|A1<|cc W h (fun c1 h=> ?_)<|fun c1 h=> ?_)
 refine B0<|sv W<|sv W<|A1<|B1 ?_
 cases h
 exact A6 (.inr W) (B6 (B3 W) C0) (.refl _)
 refine A8<|A5<|B0<|sq W<|sl W G_hit W<|sv W<|sv W<|gp W (K6 W) (fun _=>W) (gf W (vl W G_hit W)<|gf W (vb W W W)<|sd W (O5 W W<|fun hc=>A2<|J6 hc)<|A1<|cc W h (fun c2 h=> ?_)<|fun c2 h=> ?_)
 refine B0<|sv W<|A1<|B1 ?_
 cases h
 exact A6 (.inr W) (B6 (B3 W) C0) (.refl _)
 refine A8<|A5<|B0<|sq W<|sl W G_hit W<|sd W (D3 W)<|sv W<|A1<|cc W h (fun c3 h=> ?_)<|fun c3 h=> ?_
 refine B0<|sv W<|A1<|B1 ?_
 cases h
 exact A6 (.inr W) (B6 (B3 W) C0) (.refl _)
 refine A8<|A5<|B0<|sq W<|sl W G_hit W<|sd W (D3 W)<|sv W<|A1<|cc W h (fun c4 h=> ?_)<|fun c4 h=> ?_
 refine B0<|sv W<|A1<|B1 ?_
 cases h
 exact A6 (.inr W) (B6 (B3 W) C0) (.refl _)
 refine A8<|A5<|B0<|sv W<|A1<|js h fun z1 hz1 h=>D6 (fun s=> ∃(y1:Unit) (g1:Unit),z1= .inl y1∧Sb ⟨T [(2,(.ptr (2,u1) 0)),(3,(.ptr (3,u1) 0))],G [((2,u1),some<|.box 33 (L4 p1)),((3,u1),some<|.box 25 (K1 p2))]⟩ s) ?_ ?_
 refine A7<|E1 (Fo p1 p2) (fun (x1:Int) (g2:Unit)=>⟨T [(2,(.ptr (2,u1) 0)),(3,(.ptr (3,u1) 0)),(6,(di x1))],G [((2,u1),some<|.box 33 (L4 p1)),((3,u1),some<|.box 25 (K1 p2))]⟩) 0 () _ hz1 (F0 W W) ?_
 intro x1 g2 z2 hz2 ez2
 unfold Fo at hz2
 refine A5<|B0<|sv W<|sq W<|sl W (gq W) W (sd W (D3 W)<|sv W<|A1<|cc W hz2 (fun c5 hz2=> ?_)<|fun c5 hz2=> ?_)
 refine A8<|A5<|A7<|B0<|sd W (B2 W G_hit W W)<|sd W (B2 W (gq W) W W)<|sv W<|bs hz2 fun _ hv2 hz2=>A9 W W A3 (Xr _ _ _ _ hv2) (.inl W) (sv W<|A1<|B0<|sv W<|sv W<|A1<|cc W hz2 (fun c6 hz2=> ?_)<|fun c6 hz2=> ?_)
 refine B0<|sv W<|sv W<|A1<|B1 ?_
 cases hz2
 obtain rfl:=ez2 _ rfl
 refine ⟨nofun,F2 ?_⟩
 rw [bX]at h
 cases h
 exact A6 (.inr W) (B6 (B3 W) C0) (.refl _)
 refine A8<|E0<|B9<|sv W<|sv W<|sv W<|A1<|E2 ?_
 cases hz2
 exact ⟨W,(),(F0 W W)⟩
 refine C7 W ?_
 cases hz2
 obtain rfl:=ez2 _ rfl
 refine ⟨nofun,C5 W<|U1 ?_⟩
 exact ⟨_,(),W,(F0 W W)⟩
 rintro _ ⟨y1,g1,rfl,q1⟩
 rw [bW]at h
 refine B4 q1<|A5<|B0<|sv W<|A1<|js h fun z3 hz3 h=>D6 (fun s=> ∃(y2:Unit) (g3:Unit),z3= .inl y2∧Sb ⟨T [(3,(.ptr (3,u1) 0))],G [((3,u1),some<|.box 25 (K1 p2))]⟩ s) ?_ ?_
 refine A7<|E1 (Fm p1 p2) (fun (x2:Int) (g4:Unit)=>⟨T [(2,(.ptr (2,u1) 0)),(3,(.ptr (3,u1) 0)),(7,(di x2))],G [((2,u1),some<|.box 33 (L4 p1)),((3,u1),some<|.box 25 (K1 p2))]⟩) 0 () _ hz3 (F0 W W) ?_
 intro x2 g4 z4 hz4 ez4
 unfold Fm at hz4
 refine A5<|B0<|sv W<|sq W<|sl W (gq W) W (sd W (D3 W)<|sv W<|A1<|cc W hz4 (fun c7 hz4=> ?_)<|fun c7 hz4=> ?_)
 refine A8<|A5<|A7<|B0<|sq W<|sl W (gq W) W (sv W<|bs hz4 fun v3 hv3 hz4=>sd W (C4 W W hv3 W)<|sd W (D1 W hv3 W W)<|sm W<|S5 W G_hit (Uo v3) W (A1<|A5<|B0<|sq W<|sl W G_hit W<|sv W<|sv W<|gp W (K6 W) (fun _=>W) (gf W (vl W G_hit W)<|gp W (K6 W) (fun _=>W) (gf W (vl W (gq W) W)<|gf W (fun w8=>(D3<|A2 w8))<|gf W (fun w9=>(M4 (A2 w9) (A2 w9) W))<|sd W (O5 W W<|fun hc=>A2<|J6 hc)<|sv W<|gp W (K6 W) (fun _=>W) (gf W (vl W G_hit W)<|gf W (vb W W W)<|sd W (O5 W W<|fun hc=>A2<|J6 hc)<|sv W<|gp W (K6 W) (fun _=>W) (gf W (vl W G_hit W)<|gp W (K6 W) (fun _=>W) (gf W (vl W (gq W) W)<|gf W (fun w17=>(D3<|A2 w17))<|gf W (fun w18=>(M4 (A2 w18) (A2 w18) W))<|sd W (O5 W W<|fun hc=>A2<|J6 hc)<|A1<|cc W hz4 (fun c8 hz4=> ?_)<|fun c8 hz4=> ?_)))))))
 refine B0<|sv W<|A1<|B1 ?_
 cases hz4
 obtain rfl:=ez4 _ rfl
 refine ⟨nofun,F2 ?_⟩
 rw [bX]at h
 cases h
 exact A6 (.inr W) (B6 (B3 W) C0) (.refl _)
 refine A8<|A5<|E8 W<|sv W<|sv W<|sv W<|gp W (K3 W) (fun _=>W) (gt W (vl W G_hit W)<|gp W (K3 W) (fun _=>W) (gt W (vl W (gq W) W)<|gt W (fun _=>W)<|gt W (vb W W W)<|bs hz4 fun _ hv4 hz4=>gt W (fun w25=>(C4 (A2 w25) (A2 w25) (C1 w25 hv4) W)) ?_))
 refine gt W (fun w26=>(by simp only [A2 w26];rfl)) ?_
 refine gt W (fun w27=>(C9 (A2 w27) (C1 w27 hv4) W))<|gt W (fun w28=>(M4 (A2 w28) (A2 w28) W))<|gt W (fun w29=>(MD<|A2 w29))<|M5 _ (.ptr _ _) W (Gb W) (fun _=>W) (gv W (Gb W) (vl W G_hit W) (M5 _ (.ptr _ _) W (Gb W) (fun _=>W) (gv W (Gb W) (vl W (gq W) W) (gv W (Gb W) (fun _=>W) (gv W (Gb W) (vb W W W) (bs hz4 fun _ hv5 hz4=>gv W (Gb W) (fun w36=>(C4 (A2 w36) (A2 w36) (C1 w36 hv5) W)) ?_))))))
 refine gv W (Gb W) (fun w37=>(by simp only [A2 w37];rfl)) ?_
 refine gv W (Gb W) (fun w38=>(C9 (A2 w38) (C1 w38 hv5) W)) (gv W (Gb W) (fun w39=>(M4 (A2 w39) (A2 w39) W)) (gv W (Gb W) (fun w40=>(MD<|A2 w40)) (M5 _ (.ptr _ _) W (U0 W) (fun _=>W) (gv W (U0 W) (vl W G_hit W) (M5 _ (.ptr _ _) W (U0 W) (fun _=>W) (gv W (U0 W) (vl W (gq W) W) (gv W (U0 W) (fun _=>W) (gv W (U0 W) (vb W W W) (bs hz4 fun _ hv6 hz4=>gv W (U0 W) (fun w47=>(C4 (A2 w47) (A2 w47) (C1 w47 hv6) W)) ?_)))))))))
 refine gv W (U0 W) (fun w48=>(by simp only [A2 w48];rfl)) ?_
 refine gv W (U0 W) (fun w49=>(C9 (A2 w49) (C1 w49 hv6) W)) (gv W (U0 W) (fun w50=>(M4 (A2 w50) (A2 w50) W)) (gv W (Gb W) (fun w51=>(BB (A2 w51) (fun hc=>A2<|BC w51 hc) W)) (gt W (fun w52=>(O5 (A2 w52) W (fun hc=>A2<|BC w52<|J6 hc)))<|sa W W W<|A1<|cc W hz4 (fun c9 hz4=> ?_)<|fun c9 hz4=> ?_)))
 refine B0<|sv W<|A1<|B1 ?_
 cases hz4
 obtain rfl:=ez4 _ rfl
 refine ⟨nofun,F2 ?_⟩
 rw [bX]at h
 cases h
 exact A6 (.inr W) (B6 (B3 W) C0) (.refl _)
 refine A8<|E0<|B9<|sv W<|sv W<|sv W<|A1<|E2 ?_
 cases hz4
 exact ⟨W,(),(F0 W W)⟩
 refine C7 W ?_
 cases hz4
 obtain rfl:=ez4 _ rfl
 refine ⟨nofun,C5 W<|U1 ?_⟩
 exact ⟨_,(),W,(F0 W W)⟩
 rintro _ ⟨y2,g3,rfl,q2⟩
 rw [bW]at h
 refine B4 q2<|A5<|B0<|sv W<|A1<|js h fun z5 hz5 h=>D6 (fun s=> ∃(y3:Unit) (g5:Unit),z5= .inl y3∧Sb ⟨T [],G []⟩ s) ?_ ?_
 refine A7<|E1 (Fl p2) (fun (x3:Int) (g6:Unit)=>⟨T [(3,(.ptr (3,u1) 0)),(9,(di x3))],G [((3,u1),some<|.box 25 (K1 p2))]⟩) 0 () _ hz5 (F0 W W) ?_
 intro x3 g6 z6 hz6 ez6
 unfold Fl at hz6
 refine A5<|B0<|sv W<|sq W<|sl W G_hit W<|sd W (D3 W)<|sv W<|A1<|cc W hz6 (fun c10 hz6=> ?_)<|fun c10 hz6=> ?_
 refine A8<|A5<|A7<|B0<|sq W<|sl W G_hit W<|sv W<|bs hz6 fun v7 hv7 hz6=>sd W (C4 W W hv7 W)<|sd W (D1 W hv7 W W)<|sm W<|S5 W G_hit (Uo v7) W (A1<|B0<|sq W<|sl W G_hit W<|sv W<|sv W<|gp W (K6 W) (fun _=>W) (gf W (vl W G_hit W)<|gp W (K6 W) (fun _=>W) (gf W (vl W (gq W) W)<|gf W (fun w57=>(M4 (A2 w57) (A2 w57) W))<|sd W (O5 W W<|fun hc=>A2<|J6 hc)<|sv W<|gp W (K6 W) (fun _=>W) (gf W (vl W G_hit W)<|gf W (vb W W W)<|sd W (O5 W W<|fun hc=>A2<|J6 hc)<|sv W<|gp W (K6 W) (fun _=>W) (gf W (vl W G_hit W)<|gf W (vb W W W)<|sd W (O5 W W<|fun hc=>A2<|J6 hc)<|A1<|cc W hz6 (fun c11 hz6=> ?_)<|fun c11 hz6=> ?_)))))
 refine B0<|sv W<|A1<|B1 ?_
 cases hz6
 obtain rfl:=ez6 _ rfl
 refine ⟨nofun,F2 ?_⟩
 rw [bX]at h
 cases h
 exact A6 (.inr W) (B6 (B3 W) C0) (.refl _)
 refine A8<|E0<|B9<|sv W<|sv W<|sv W<|A1<|E2 ?_
 cases hz6
 exact ⟨W,(),(F0 W W)⟩
 refine C7 W ?_
 cases hz6
 obtain rfl:=ez6 _ rfl
 refine ⟨nofun,C5 W<|U1 ?_⟩
 exact ⟨_,(),W,(F0 W W)⟩
 rintro _ ⟨y3,g5,rfl,q3⟩
 rw [bW]at h
 refine B4 q3<|B0<|sv W<|A1<|B1 ?_
 cases h
 exact A6 (.inr W) (B6 (B3 W) C0) (.refl _)
def Ip (p1:State)(p2:Int):Option Bool:=
  ((cond ((decide (p2≥0))&& (decide (p2< (p1.Agents.length:Int)))) (C3 p1.Agents p2) (some default))).bind fun v1=>((cond (((decide (p2≥0))&& (decide (p2< (p1.Agents.length:Int))))&& (decide (v1.Begin≤p1.Tick))) (C3 p1.Agents p2) (some default))).bind fun v2=>some ((((decide (p2≥0))&& (decide (p2< (p1.Agents.length:Int))))&& (decide (v1.Begin≤p1.Tick)))&& (!v2.Gone))
theorem Qe(p1 p2 r)(h:Ip p1 p2=some r):PCall prog 39 [(.agg (Y1 p1)),(i64 p2)] (bo r):=by
 refine C2 (fk func39 ntmps39 m0 (by with_unfolding_all rfl)) (nl W) ?_
 unfold Ip at h
 refine B4 (s0:=⟨T [(0,(.d _)),(1,(.d _))],G []⟩) (F0 W W) ?_
 refine B0<|sm W<|sv W<|A1<|A5<|E8 W<|sv W<|sv W<|sv W<|gt W (fun _=>W)<|gp W (K3 W) (fun _=>W) (gt W (vl W G_hit W)<|gt W (fun w4=>(D3<|A2 w4))<|gt W (fun w5=>(M4 (A2 w5) (A2 w5) W))<|sa W W W<|sv W<|gp W (K3 W) (fun _=>W) (gt W (vl W G_hit W)<|gt W (fun _=>W)<|bs h fun _ hv1 h=>gt W (fun w9=>(C4 (A2 w9) (A2 w9) (C1 w9 hv1) W)) ?_))
 refine gt W (fun w10=>(by simp only [A2 w10];rfl)) ?_
 refine gt W (fun w11=>(C9 (A2 w11) (C1 w11 hv1) W))<|gp W (K3 W) (fun _=>W) (gt W (vl W G_hit W)<|gt W (fun w14=>(M4 (A2 w14) (A2 w14) W))<|sa W W W<|sv W<|gp W (K3 W) (fun _=>W) (gt W (vl W G_hit W)<|gt W (fun _=>W)<|bs h fun v2 hv2 h=>gt W (fun w18=>(C4 (A2 w18) (A2 w18) (C1 w18 hv2) W)) ?_))
 refine gt W (fun w19=>(by simp only [A2 w19];rfl)) ?_
 refine gt W (fun w20=>(C9 (A2 w20) (C1 w20 hv2) W)) ?_
 refine M5 _ (.d (bo (!v2.Gone))) W (K3 W) (fun w21=>(by simp only [A2 w21];rfl)) ?_
 refine sa W W W<|sv W<|A1<|B1 ?_
 cases h
 exact A6 (.inr W) (B6 (B3 W) C0) (.refl _)
def Kr (p1:Agent):Option Bool:=
  some ((((decide (p1.S≥0))&& (decide (p1.S≤1099511627776)))&& (decide (p1.Len≥0)))&& (decide (p1.Len≤1099511627776)))
theorem Sc(p1 r)(h:Kr p1=some r):PCall prog 133 [(.agg (C6 p1))] (bo r):=by
 refine C2 (fk func133 ntmps133 m0 (by with_unfolding_all rfl)) (nl W) ?_
 unfold Kr at h
 refine B4 (s0:=⟨T [(0,(.d _))],G []⟩) (F0 W W) ?_
 refine B0<|sm W<|sv W<|A1<|B0<|sq W<|sl W G_hit W<|sv W<|sv W<|gp W (K3 W) (fun _=>W) (gt W (vl W G_hit W)<|gt W (vb W W W)<|sa W W W<|sv W<|gp W (K3 W) (fun _=>W) (gt W (vl W G_hit W)<|gt W (vb W W W)<|sa W W W<|sv W<|gp W (K3 W) (fun _=>W) (gt W (vl W G_hit W)<|gt W (vb W W W)<|sa W W W<|sv W<|A1<|B1 ?_)))
 cases h
 exact A6 (.inr W) (B6 (B3 W) C0) (.refl _)
def T6 (x5:((List Pass)×Int)):Option (Stp ((List Pass)×Int) (List Pass)):=
  ((cond (decide (x5.2>0)) (C3 x5.1 x5.2) (some default))).bind fun v9=>((cond (decide (x5.2>0)) (C3 x5.1 (D9 (x5.2 - 1))) (some default))).bind fun v10=>((cond ((decide (x5.2>0))&& (!(decide (v9.From<v10.From)))) (C3 x5.1 x5.2) (some default))).bind fun v11=>((cond ((decide (x5.2>0))&& (!(decide (v9.From<v10.From)))) (C3 x5.1 (D9 (x5.2 - 1))) (some default))).bind fun v12=>((cond (((decide (x5.2>0))&& (!(decide (v9.From<v10.From))))&& (v11.From==v12.From)) (C3 x5.1 x5.2) (some default))).bind fun v13=>((cond (((decide (x5.2>0))&& (!(decide (v9.From<v10.From))))&& (v11.From==v12.From)) (C3 x5.1 (D9 (x5.2 - 1))) (some default))).bind fun v14=>cond ((decide (x5.2>0))&& ((decide (v9.From<v10.From))||((v11.From==v12.From)&& (decide (v13.Zone_<v14.Zone_))))) ((C3 x5.1 (D9 (x5.2 - 1))).bind fun v15=>(C3 x5.1 x5.2).bind fun v16=>(C3 x5.1 x5.2).bind fun v17=>(C3 (Mh x5.1 x5.2 v15) (D9 (x5.2 - 1))).bind fun v18=>some (.go ((Mh (Mh x5.1 x5.2 v15) (D9 (x5.2 - 1)) v16),(D9 (x5.2 - 1))))) (some (.out x5.1))
def Z6 [Lp](x4:((List Pass)×Int)):Option (Stp ((List Pass)×Int) (List Pass)):=
  cond (decide (x4.2< (x4.1.length:Int))) ((loop (T6) (x4.1,x4.2)).bind fun y5=>some (.go (y5,(D9 (x4.2+1))))) (some (.out x4.1))
def Z7 (p1:Map)(p2:(List Int))(v1:(List Int))(x1:((List Pass)×Int))(x2:((List Pass)×Int))(x3:((List Pass)×Int)):Option (Stp ((List Pass)×Int) (List Pass)):=
  (C3 p1.Zones x2.2).bind fun v2=>cond (decide (x3.2< (v2.Parts.length:Int))) ((C3 p1.Zones x2.2).bind fun v3=>(C3 v3.Parts x3.2).bind fun v4=>(C3 p2 x1.2).bind fun v5=>cond (v4.Lane_==v5) ((C3 v1 x1.2).bind fun v6=>(C3 v1 x1.2).bind fun v7=>(Au x3.1 [(Pass.mk x2.2 x3.2 (D9 (v6+v4.From)) (D9 (v7+v4.To)))]).bind fun v8=>some (.go (v8,(D9 (x3.2+1))))) (some (.go (x3.1,(D9 (x3.2+1)))))) (some (.out x3.1))
def Z8 [Lp](p1:Map)(p2:(List Int))(v1:(List Int))(x1:((List Pass)×Int))(x2:((List Pass)×Int)):Option (Stp ((List Pass)×Int) (List Pass)):=
  cond (decide (x2.2< (p1.Zones.length:Int))) ((loop (Z7 p1 p2 v1 x1 x2) (x2.1,0)).bind fun y3=>some (.go (y3,(D9 (x2.2+1))))) (some (.out x2.1))
def X2 [Lp](p1:Map)(p2:(List Int))(v1:(List Int))(x1:((List Pass)×Int)):Option (Stp ((List Pass)×Int) (List Pass)):=
  cond (decide (x1.2< (v1.length:Int))) ((loop (Z8 p1 p2 v1 x1) (x1.1,0)).bind fun y2=>some (.go (y2,(D9 (x1.2+1))))) (some (.out x1.1))
def Dx [Lp](p1:Map)(p2:(List Int)):Option (List Pass):=
  (Gj p1 p2).bind fun v1=>(loop (X2 p1 p2 v1) ([],0)).bind fun y1=>(loop (Z6) (y1,1)).bind fun y4=>some y4
theorem ES(p1 p2 r)(h:Dx p1 p2=some r):PCall prog 176 [(.agg (P6 p1)),(.list (List.map A4 p2))] (.list (List.map Q0 r)):=by
 refine C2 (fk func176 ntmps176 (fun r=>if r==14 then [1018]else []) (by with_unfolding_all rfl)) (nl W) ?_
 unfold Dx at h
 refine B4 (s0:=⟨T [(0,(.d _)),(1,(.d _))],G []⟩) (F0 W W) ?_
 refine lr<|fun u1 _=>sm W<|sv W<|A1<|B0<|sv W<|A1<|B0<|sd W (B2 W G_hit W W)<|sv W<|bs h fun v1 hv1 h=>A9 W W A3 (Oj _ _ _ hv1) (.inl W) (sv W<|A1<|A5<|B0<|sv W<|A1<|bs h fun y1 hy1 h=>D6 (fun s=> ∃g1:Nat,Sb ⟨T [(5,(oS y1 (75,g1)))],G [((75,g1),oB 229 4 Q0 y1)]⟩ s) ?_ ?_)
 refine A7<|E1 (X2 p1 p2 v1) (fun (x1:((List Pass)×Int)) (g2:Nat)=>⟨T [(1,(dl A4 p2)),(2,(.ptr (2,u1) 0)),(5,(oS x1.1 (75,g2))),(6,(dl A4 v1)),(7,(di x1.2))],G [((2,u1),some<|.box 33 (L4 p1)),((75,g2),oB 229 4 Q0 x1.1)]⟩) ([],0) 0 _ hy1 (D8 (Y0 W)<|B5 G_hit (.of W)<|R6 trivial) ?_
 intro x1 g2 z1 hz1 ez1
 unfold X2 at hz1
 refine A5<|B0<|sv W<|sv W<|sd W (D3 W)<|sv W<|A1<|cc W hz1 (fun c1 hz1=> ?_)<|fun c1 hz1=> ?_
 refine A8<|A5<|A7<|B0<|sv W<|A1<|bs hz1 fun y2 hy2 hz1=>D6 (fun s=> ∃g3:Nat,Sb ⟨T [(1,(dl A4 p2)),(2,(.ptr (2,u1) 0)),(5,(oS y2 (75,g3))),(6,(dl A4 v1)),(7,(di x1.2))],G [((2,u1),some<|.box 33 (L4 p1)),((75,g3),oB 229 4 Q0 y2)]⟩ s) ?_ ?_
 refine A7<|E1 (Z8 p1 p2 v1 x1) (fun (x2:((List Pass)×Int)) (g4:Nat)=>⟨T [(1,(dl A4 p2)),(2,(.ptr (2,u1) 0)),(5,(oS x2.1 (75,g4))),(6,(dl A4 v1)),(7,(di x1.2)),(8,(di x2.2))],G [((2,u1),some<|.box 33 (L4 p1)),((75,g4),oB 229 4 Q0 x2.1)]⟩) (x1.1,0) g2 _ hy2 (D8 (Y0 W)<|B5 G_hit (.of W)<|B7 (gq W) trivial) ?_
 intro x2 g4 z2 hz2 ez2
 unfold Z8 at hz2
 refine A5<|B0<|sv W<|sq W<|sl W G_hit W<|sd W (D3 W)<|sv W<|A1<|cc W hz2 (fun c2 hz2=> ?_)<|fun c2 hz2=> ?_
 refine A8<|A5<|A7<|B0<|sv W<|A1<|bs hz2 fun y3 hy3 hz2=>D6 (fun s=> ∃g5:Nat,Sb ⟨T [(1,(dl A4 p2)),(2,(.ptr (2,u1) 0)),(5,(oS y3 (75,g5))),(6,(dl A4 v1)),(7,(di x1.2)),(8,(di x2.2))],G [((2,u1),some<|.box 33 (L4 p1)),((75,g5),oB 229 4 Q0 y3)]⟩ s) ?_ ?_
 refine A7<|E1 (Z7 p1 p2 v1 x1 x2) (fun (x3:((List Pass)×Int)) (g6:Nat)=>⟨T [(1,(dl A4 p2)),(2,(.ptr (2,u1) 0)),(5,(oS x3.1 (75,g6))),(6,(dl A4 v1)),(7,(di x1.2)),(8,(di x2.2)),(9,(di x3.2))],G [((2,u1),some<|.box 33 (L4 p1)),((75,g6),oB 229 4 Q0 x3.1)]⟩) (x2.1,0) g4 _ hy3 (D8 (Y0 W)<|B5 G_hit (.of W)<|B7 (gq W) trivial) ?_
 intro x3 g6 z3 hz3 ez3
 unfold Z7 at hz3
 refine A5<|B0<|sv W<|sq W<|sl W G_hit W<|sv W<|bs hz3 fun _ hv2 hz3=>sd W (C4 W W hv2 W)<|sv W<|sd W (C9 W hv2 W)<|sd W (D3 W)<|sv W<|A1<|cc W hz3 (fun c3 hz3=> ?_)<|fun c3 hz3=> ?_
 refine A8<|A5<|A7<|B0<|sq W<|sl W G_hit W<|sv W<|bs hz3 fun _ hv3 hz3=>sd W (C4 W W hv3 W)<|sv W<|sd W (C9 W hv3 W)<|sv W<|bs hz3 fun v4 hv4 hz3=>sd W (C4 W W hv4 W)<|sd W (D1 W hv4 W W)<|sm W<|S5 W G_hit (Ya v4) W (A1<|A5<|E8 W<|sq W<|sl W G_hit W<|sv W<|sv W<|bs hz3 fun _ hv5 hz3=>sd W (C4 W W hv5 W)<|sd W (C9 W hv5 W)<|sv W<|A1<|cc W hz3 (fun c4 hz3=> ?_)<|fun c4 hz3=> ?_)
 refine Lj W fun u12 _=>B8 (oS x3.1 (75,g6)) W W (sv W<|sv W<|sv W<|sv W<|bs hz3 fun v6 hv6 hz3=>sd W (C4 W W hv6 W)<|sd W (C9 W hv6 W)<|sq W<|sl W G_hit W<|sv W<|sv W<|sv W<|bs hz3 fun v7 hv7 hz3=>sd W (C4 W W hv7 W)<|sd W (C9 W hv7 W)<|sq W<|sl W G_hit W<|sv W<|sv W<|B8 (dl Q0 [(Pass.mk x2.2 x3.2 (D9 (v6+v4.From))<|D9 (v7+v4.To))]) W W (bs hz3 fun _ hv8 hz3=>P1 Q0 (75,g6) x3.1 (Pass.mk x2.2 x3.2 (D9 (v6+v4.From))<|D9 (v7+v4.To)) [] _ (L3<|fun _=>W) W (gq W) hv8 (ss W<|A1<|E0<|B9<|sv W<|sv W<|sv W<|A1<|E2 ?_)))
 cases hz3
 exact ⟨W,u12,(D8 ⟨.of W, .of W,(.of (T9<|U2 hv8).symm), .of W, .of W, .of W, .of W,trivial⟩<|sg W<|N0 G_hit trivial)⟩
 refine A8<|E0<|B9<|sv W<|sv W<|sv W<|A1<|E2 ?_
 cases hz3
 exact ⟨W,g6,(D8 (Y0 W)<|sg W<|B7 (gq W) trivial)⟩
 refine C7 W ?_
 cases hz3
 obtain rfl:=ez3 _ rfl
 refine ⟨nofun,C5 W<|U1 ?_⟩
 exact ⟨g6,(D8 (Y0 W)<|B5 G_hit (.of W)<|B7 (gq W) trivial)⟩
 rintro _ ⟨g5,q1⟩
 refine E0<|B4 q1<|B9<|sv W<|sv W<|sv W<|A1<|E2 ?_
 cases hz2
 exact ⟨W,g5,(D8 (Y0 W)<|B5 G_hit (.of W)<|B7 (gq W) trivial)⟩
 refine C7 W ?_
 cases hz2
 obtain rfl:=ez2 _ rfl
 refine ⟨nofun,C5 W<|U1 ?_⟩
 exact ⟨g4,(D8 (Y0 W)<|B5 G_hit (.of W)<|B7 (gq W) trivial)⟩
 rintro _ ⟨g3,q2⟩
 refine E0<|B4 q2<|B9<|sv W<|sv W<|sv W<|A1<|E2 ?_
 cases hz1
 exact ⟨W,g3,(D8 (Y0 W)<|B5 G_hit (.of W)<|B7 (gq W) trivial)⟩
 refine C7 W ?_
 cases hz1
 obtain rfl:=ez1 _ rfl
 refine ⟨nofun,C5 W<|U1 ?_⟩
 exact ⟨g2,(D8 ⟨.of W,trivial⟩<|B7 (gq W) trivial)⟩
 rintro _ ⟨g1,q3⟩
 refine B4 q3<|A5<|B0<|sv W<|A1<|bs h fun y4 hy4 h=>D6 (fun s=> ∃g7:Nat,Sb ⟨T [(5,(oS y4 (75,g7)))],G [((75,g7),oB 229 4 Q0 y4)]⟩ s) ?_ ?_
 refine A7<|E1 (Z6) (fun (x4:((List Pass)×Int)) (g8:Nat)=>⟨T [(5,(oS x4.1 (75,g8))),(11,(di x4.2))],G [((75,g8),oB 229 4 Q0 x4.1)]⟩) (y1,1) g1 _ hy4 (D8 (Y0 W)<|B7 G_hit trivial) ?_
 intro x4 g8 z4 hz4 ez4
 unfold Z6 at hz4
 refine A5<|B0<|sv W<|B8 (oS x4.1 (75,g8)) W W (sd W (YX (f:=Q0) W G_hit)<|sv W<|A1<|cc W hz4 (fun c5 hz4=> ?_)<|fun c5 hz4=> ?_)
 refine A8<|A5<|A7<|B0<|sv W<|sv W<|A1<|bs hz4 fun y5 hy5 hz4=>D6 (fun s=> ∃g9:Nat,Sb ⟨T [(5,(oS y5 (75,g9))),(11,(di x4.2))],G [((75,g9),oB 229 4 Q0 y5)]⟩ s) ?_ ?_
 refine A7<|E1 (T6) (fun (x5:((List Pass)×Int)) (g10:Nat)=>⟨T [(5,(oS x5.1 (75,g10))),(11,(di x4.2)),(12,(di x5.2))],G [((75,g10),oB 229 4 Q0 x5.1)]⟩) (x4.1,x4.2) g8 _ hy5 (D8 (Y0 W)<|B7 G_hit trivial) ?_
 intro x5 g10 z5 hz5 ez5
 unfold T6 at hz5
 refine A5<|A5<|E8 W<|sv W<|sv W<|sv W<|M5 _ (oS x5.1 (75,g10)) W (K3 W) (fun _=>W) (gt W (fun _=>W)<|bs hz5 fun _ hv9 hz5=>M5 _ (.aptr _ _ _ _) W (K3 W) (fun w3=>(Og (A2 w3) (A2 w3) G_hit (C1 w3 hv9))) ?_)
 refine M5 _ (.aptr _ _ _ _) W (K3 W) (fun w4=>(by simp only [A2 w4];rfl)) ?_
 refine gt W (fun w5=>(Ni (A2 w5) (Gh G_hit<|De<|C1 w5 hv9) (C1 w5 hv9) W))<|M5 _ (oS x5.1 (75,g10)) W (K3 W) (fun _=>W) (gt W (fun _=>W)<|gt W (vb W W W)<|bs hz5 fun _ hv10 hz5=>M5 _ (.aptr _ _ _ _) W (K3 W) (fun w9=>(Og (A2 w9) (A2 w9) G_hit (C1 w9 hv10))) ?_)
 refine M5 _ (.aptr _ _ _ _) W (K3 W) (fun w10=>(by simp only [A2 w10];rfl)) ?_
 refine gt W (fun w11=>(Ni (A2 w11) (Gh G_hit<|De<|C1 w11 hv10) (C1 w11 hv10) W))<|gt W (fun w12=>(M4 (A2 w12) (A2 w12) W))<|gt W (fun w13=>(MD<|A2 w13))<|M5 _ (oS x5.1 (75,g10)) W (Gb W) (fun _=>W) (gv W (Gb W) (fun _=>W) (bs hz5 fun _ hv11 hz5=>M5 _ (.aptr _ _ _ _) W (Gb W) (fun w16=>(Og (A2 w16) (A2 w16) G_hit (C1 w16 hv11))) ?_))
 refine M5 _ (.aptr _ _ _ _) W (Gb W) (fun w17=>(by simp only [A2 w17];rfl)) ?_
 refine gv W (Gb W) (fun w18=>(Ni (A2 w18) (Gh G_hit<|De<|C1 w18 hv11) (C1 w18 hv11) W)) (M5 _ (oS x5.1 (75,g10)) W (Gb W) (fun _=>W) (gv W (Gb W) (fun _=>W) (gv W (Gb W) (vb W W W) (bs hz5 fun _ hv12 hz5=>M5 _ (.aptr _ _ _ _) W (Gb W) (fun w22=>(Og (A2 w22) (A2 w22) G_hit (C1 w22 hv12))) ?_))))
 refine M5 _ (.aptr _ _ _ _) W (Gb W) (fun w23=>(by simp only [A2 w23];rfl)) ?_
 refine gv W (Gb W) (fun w24=>(Ni (A2 w24) (Gh G_hit<|De<|C1 w24 hv12) (C1 w24 hv12) W)) (gv W (Gb W) (fun w25=>(M4 (A2 w25) (A2 w25) W)) (gv W (Gb W) (fun w26=>(MD<|A2 w26)) (M5 _ (oS x5.1 (75,g10)) W (U0 W) (fun _=>W) (gv W (U0 W) (fun _=>W) (bs hz5 fun _ hv13 hz5=>M5 _ (.aptr _ _ _ _) W (U0 W) (fun w29=>(Og (A2 w29) (A2 w29) G_hit (C1 w29 hv13))) ?_)))))
 refine M5 _ (.aptr _ _ _ _) W (U0 W) (fun w30=>(by simp only [A2 w30];rfl)) ?_
 refine gv W (U0 W) (fun w31=>(Ni (A2 w31) (Gh G_hit<|De<|C1 w31 hv13) (C1 w31 hv13) W)) (M5 _ (oS x5.1 (75,g10)) W (U0 W) (fun _=>W) (gv W (U0 W) (fun _=>W) (gv W (U0 W) (vb W W W) (bs hz5 fun _ hv14 hz5=>M5 _ (.aptr _ _ _ _) W (U0 W) (fun w35=>(Og (A2 w35) (A2 w35) G_hit (C1 w35 hv14))) ?_))))
 refine M5 _ (.aptr _ _ _ _) W (U0 W) (fun w36=>(by simp only [A2 w36];rfl)) ?_
 refine gv W (U0 W) (fun w37=>(Ni (A2 w37) (Gh G_hit<|De<|C1 w37 hv14) (C1 w37 hv14) W)) (gv W (U0 W) (fun w38=>(M4 (A2 w38) (A2 w38) W)) (gv W (Gb W) (fun w39=>(BB (A2 w39) (fun hc=>A2<|BC w39 hc) W)) (gt W (fun w40=>(O5 (A2 w40) W (fun hc=>A2<|BC w40<|J6 hc)))<|sa W W W<|A1<|cc W hz5 (fun c6 hz5=> ?_)<|fun c6 hz5=> ?_)))
 refine A8<|A5<|A7<|E8 W<|B8 (oS x5.1 (75,g10)) W W (sv W<|B8 (oS x5.1 (75,g10)) W W (sv W<|sv W<|B8 (oS x5.1 (75,g10)) W W (sv W<|sv W<|bs hz5 fun v15 hv15 hz5=>B8 (.aptr _ _ _ _) W (Og W W G_hit hv15) (sd W (Nt W (Gh G_hit<|De hv15) hv15 W W)<|B8 (oS x5.1 (75,g10)) W W (sv W<|bs hz5 fun v16 hv16 hz5=>B8 (.aptr _ _ _ _) W (Og W W G_hit hv16) (sd W (Nt W (Gh G_hit<|De hv16) hv16 W W)<|bs hz5 fun _ hv17 hz5=>B8 (.aptr _ _ _ _) W (Og W W G_hit hv17) ?_))))))
 rw [T9 (De hv17)]
 refine Ns Q0 _ _ _ (x5.2) _ v15 (Q0 v15) W W W (Gh G_hit<|De hv17) hv17 (nl W) W (bs hz5 fun _ hv18 hz5=>B8 (.aptr _ _ _ _) W (Ij W W G_hit hv18) (Ns Q0 _ _ _ ((D9 (x5.2 - 1))) _ v16 (Q0 v16) W W W G_hit hv18 (nl W) W (A1<|E0<|B9<|sv W<|sv W<|sv W<|A1<|E2 ?_)))
 cases hz5
 exact ⟨W,g10,(D8 ⟨(.of (T9<|Xe<|Xe<|De hv17).symm), .of W, .of W,trivial⟩<|N0 G_hit trivial)⟩
 refine C7 W ?_
 cases hz5
 obtain rfl:=ez5 _ rfl
 refine ⟨nofun,C5 W<|U1 ?_⟩
 exact ⟨g10,(D8 (Y0 W)<|B7 G_hit trivial)⟩
 rintro _ ⟨g9,q4⟩
 refine E0<|B4 q4<|B9<|sv W<|sv W<|sv W<|A1<|E2 ?_
 cases hz4
 exact ⟨W,g9,(D8 (Y0 W)<|B7 G_hit trivial)⟩
 refine C7 W ?_
 cases hz4
 obtain rfl:=ez4 _ rfl
 refine ⟨nofun,C5 W<|U1 ?_⟩
 exact ⟨g8,(D8 ⟨.of W,trivial⟩<|B7 G_hit trivial)⟩
 rintro _ ⟨g7,q5⟩
 refine B4 q5<|B0<|B8 (oS y4 (75,g7)) W W (B8 (oS y4 (75,g7)) W W (A1<|B1 ?_))
 cases h
 exact A6 (.inr W) (B6 (B3 W)<|S9 G_hit) S8
def Cp (p2:Agent)(p3:Agent)(p4:Int)(v3:(List Pass))(x1:Int):Option (Stp Int (Sum Unit Bool)):=
  cond (decide (x1< (v3.length:Int))) ((C3 v3 x1).bind fun v4=>((cond (v4.Zone_==p4) (C3 v3 x1) (some default))).bind fun v5=>((cond ((v4.Zone_==p4)&& (decide ((D9 (p2.S - p2.Len))≤v5.To))) (C3 v3 x1) (some default))).bind fun v6=>cond (((v4.Zone_==p4)&& (decide ((D9 (p2.S - p2.Len))≤v5.To)))&& (decide (p3.S≥v6.From))) (some (.out (.inr true))) (some (.go (D9 (x1+1))))) (some (.out (.inl ())))
def Eo [Lp](p1:Map)(p2:Agent)(p3:Agent)(p4:Int):Option Bool:=
  (Kr p2).bind fun v1=>((cond (!(!v1)) (Kr p3) (some default))).bind fun v2=>cond ((!v1)||(!v2)) (some false) ((Dx p1 p2.Route).bind fun v3=>thenS (loop (Cp p2 p3 p4 v3) 0) (fun _=>some false) (fun r=>some r))
theorem Ms(p1 p2 p3 p4 r)(h:Eo p1 p2 p3 p4=some r):PCall prog 83 [(.agg (P6 p1)),(.agg (C6 p2)),(.agg (C6 p3)),(i64 p4)] (bo r):=by
 refine C2 (fk func83 ntmps83 m0 (by with_unfolding_all rfl)) (nl W) ?_
 unfold Eo at h
 refine B4 (s0:=⟨T [(0,(.d _)),(1,(.d _)),(2,(.d _)),(3,(.d _))],G []⟩) (F0 W W) ?_
 refine lr<|fun u1 _=>sm W<|sm W<|sn W W<|sv W<|A1<|A5<|B0<|sd W (B2 W (gq W) W W)<|bs h fun v1 hv1 h=>A9 W W A3 (Sc _ _ hv1) (.inl W) (B8 (.d (bo (!v1))) W W (sv W<|gf W (fun _=>(B2 W G_hit W W))<|bs h fun v2 hv2 h=> ?_))
 refine N4 _ (bo v2) (K6 W) (fun w2=>⟨_,[(.d (.agg (C6 p3)))],_,_,(by simp only [A2 w2];rfl),W,A3,Sc _ _<|C1 w2 hv2,(.inl W)⟩) ?_
 refine M5 _ (.d (bo (!v2))) W (K6 W) (fun w3=>(by simp only [A2 w3];rfl)) ?_
 refine sd W (O5 W W<|fun hc=>A2<|J6 hc)<|A1<|cc W h (fun c1 h=> ?_)<|fun c1 h=> ?_
 refine B0<|sv W<|A1<|B1 ?_
 cases h
 exact A6 (.inr W) (B6 (B3 W) C0) (.refl _)
 refine A8<|B0<|sd W (B2 W (gq W) W W)<|sq W<|sl W (gq W) W (bs h fun v3 hv3 h=>A9 W W A3 (ES _ _ _ hv3) (.inl W) (sv W<|A1<|A5<|B0<|sv W<|A1<|js h fun z1 hz1 h=>D6 (fun s=> ∃(y1:Unit) (g1:Unit),z1= .inl y1∧Sb ⟨T [],G []⟩ s) ?_ ?_))
 refine A7<|E1 (Cp p2 p3 p4 v3) (fun (x1:Int) (g2:Unit)=>⟨T [(3,(di p4)),(5,(.ptr (5,u1) 0)),(6,(.ptr (6,u1) 0)),(9,(dl Q0 v3)),(10,(di x1))],G [((5,u1),some<|.box 45 (Q8 p2)),((6,u1),some<|.box 45 (Q8 p3))]⟩) 0 () _ hz1 (F0 W W) ?_
 intro x1 g2 z2 hz2 ez2
 unfold Cp at hz2
 refine A5<|B0<|sv W<|sv W<|sd W (D3 W)<|sv W<|A1<|cc W hz2 (fun c2 hz2=> ?_)<|fun c2 hz2=> ?_
 refine A8<|A5<|A7<|A5<|E8 W<|sv W<|sv W<|bs hz2 fun _ hv4 hz2=>sd W (C4 W W hv4 W)<|sv W<|sd W (C9 W hv4 W)<|sv W<|sv W<|sv W<|gp W (K3 W) (fun _=>W) (gt W (vl W G_hit W)<|gp W (K3 W) (fun _=>W) (gt W (vl W G_hit W)<|gt W (fun w8=>(M4 (A2 w8) (A2 w8) W))<|gt W (fun _=>W)<|gt W (fun _=>W)<|bs hz2 fun _ hv5 hz2=>gt W (fun w11=>(C4 (A2 w11) (A2 w11) (C1 w11 hv5) W)) ?_))
 refine gt W (fun w12=>(by simp only [A2 w12];rfl)) ?_
 refine gt W (fun w13=>(C9 (A2 w13) (C1 w13 hv5) W))<|gt W (fun w14=>(M4 (A2 w14) (A2 w14) W))<|sa W W W<|sv W<|gp W (K3 W) (fun _=>W) (gt W (vl W (gq W) W)<|gt W (fun _=>W)<|gt W (fun _=>W)<|bs hz2 fun _ hv6 hz2=>gt W (fun w19=>(C4 (A2 w19) (A2 w19) (C1 w19 hv6) W)) ?_)
 refine gt W (fun w20=>(by simp only [A2 w20];rfl)) ?_
 refine gt W (fun w21=>(C9 (A2 w21) (C1 w21 hv6) W))<|gt W (fun w22=>(M4 (A2 w22) (A2 w22) W))<|sa W W W<|A1<|cc W hz2 (fun c3 hz2=> ?_)<|fun c3 hz2=> ?_
 refine B0<|sv W<|A1<|B1 ?_
 cases hz2
 obtain rfl:=ez2 _ rfl
 refine ⟨nofun,F2 ?_⟩
 rw [bX]at h
 cases h
 exact A6 (.inr W) (B6 (B3 W) C0) (.refl _)
 refine A8<|E0<|B9<|sv W<|sv W<|sv W<|A1<|E2 ?_
 cases hz2
 exact ⟨W,(),(F0 W W)⟩
 refine C7 W ?_
 cases hz2
 obtain rfl:=ez2 _ rfl
 refine ⟨nofun,C5 W<|U1 ?_⟩
 exact ⟨_,(),W,(F0 W W)⟩
 rintro _ ⟨y1,g1,rfl,q1⟩
 rw [bW]at h
 refine B4 q1<|B0<|sv W<|A1<|B1 ?_
 cases h
 exact A6 (.inr W) (B6 (B3 W) C0) (.refl _)
def Ep (p1:Zone)(p2:Int)(x1:Int):Option (Stp Int (Sum Unit (Part×Bool))):=
  cond (decide (x1< (p1.Parts.length:Int))) ((C3 p1.Parts x1).bind fun v1=>cond (v1.Lane_==p2) ((C3 p1.Parts x1).bind fun v2=>some (.out (.inr (v2,true)))) (some (.go (D9 (x1+1))))) (some (.out (.inl ())))
def Tp [Lp](p1:Zone)(p2:Int):Option (Part×Bool):=
  thenS (loop (Ep p1 p2) 0) (fun _=>some ((Part.mk 0 0 0 0),false)) (fun r=>some r)
theorem JG(p1 p2 r)(h:Tp p1 p2=some r):PCall prog 103 [(.agg [(.list (List.map At p1.Parts)),(i64 p1.Signal_)]),(i64 p2)] (.tup [(.agg (At r.1)),(bo r.2)]):=by
 refine C2 (fk func103 ntmps103 m0 (by with_unfolding_all rfl)) (nl W) ?_
 unfold Tp at h
 refine B4 (s0:=⟨T [(0,(.d _)),(1,(.d _))],G []⟩) (F0 W W) ?_
 refine lr<|fun u1 _=>sm W<|sm W<|sv W<|A1<|A5<|B0<|sv W<|A1<|js h fun z1 hz1 h=>D6 (fun s=> ∃(y1:Unit) (g1:Unit),z1= .inl y1∧Sb ⟨T [(4,(.ptr (4,u1) 0))],G [((4,u1),some<|.box 114 (zs 4))]⟩ s) ?_ ?_
 refine A7<|E1 (Ep p1 p2) (fun (x1:Int) (g2:Unit)=>⟨T [(1,(di p2)),(2,(.ptr (2,u1) 0)),(4,(.ptr (4,u1) 0)),(6,(di x1))],G [((2,u1),some<|.box 117 [(dl At p1.Parts),(di p1.Signal_)]),((4,u1),some<|.box 114 (zs 4))]⟩) 0 () _ hz1 (F0 W W) ?_
 intro x1 g2 z2 hz2 ez2
 unfold Ep at hz2
 refine A5<|B0<|sv W<|sq W<|sl W G_hit W<|sd W (D3 W)<|sv W<|A1<|cc W hz2 (fun c1 hz2=> ?_)<|fun c1 hz2=> ?_
 refine A8<|A5<|A7<|B0<|sq W<|sl W G_hit W<|sv W<|bs hz2 fun _ hv1 hz2=>sd W (C4 W W hv1 W)<|sv W<|sd W (C9 W hv1 W)<|sv W<|sv W<|A1<|cc W hz2 (fun c2 hz2=> ?_)<|fun c2 hz2=> ?_
 refine B0<|sq W<|sl W G_hit W<|sv W<|bs hz2 fun v2 hv2 hz2=>sd W (C4 W W hv2 W)<|sd W (D1 W hv2 W W)<|S5 W (gq W) (Ya v2) W (sv W<|A1<|B1 ?_)
 cases hz2
 obtain rfl:=ez2 _ rfl
 refine ⟨nofun,F2 ?_⟩
 rw [bX]at h
 cases h
 exact A6 (.inr W) (Jt (H5 W G_hit (nl W) W) (B3 W) C0 C0) (.refl _)
 refine A8<|E0<|B9<|sv W<|sv W<|sv W<|A1<|E2 ?_
 cases hz2
 exact ⟨W,(),(F0 W W)⟩
 refine C7 W ?_
 cases hz2
 obtain rfl:=ez2 _ rfl
 refine ⟨nofun,C5 W<|U1 ?_⟩
 exact ⟨_,(),W,(F0 W W)⟩
 rintro _ ⟨y1,g1,rfl,q1⟩
 rw [bW]at h
 refine B4 q1<|B0<|sv W<|S5 W G_hit (zs 4) W (sv W<|A1<|B1 ?_)
 cases h
 exact A6 (.inr W) (Jt (H5 W G_hit (nl W) W) (B3 W) C0 C0) (.refl _)
def Iq [Lp](p1:Map)(p2:(List Int))(p3:Int)(x1:Int):Option (Stp Int (Sum Unit Int)):=
  cond (decide (x1< (p2.length:Int))) ((C3 p1.Zones p3).bind fun v2=>(C3 p2 x1).bind fun v3=>(Tp v2 v3).bind fun v4=>cond v4.2 (some (.out (.inr x1))) (some (.go (D9 (x1+1))))) (some (.out (.inl ())))
def Ir [Lp](p1:Map)(p2:(List Int))(p3:Int):Option Int:=
  (X6 p1 p2).bind fun v1=>cond (((v1 !=0)||(decide (p3<0)))||(decide (p3≥(p1.Zones.length:Int)))) (some (-1)) (thenS (loop (Iq p1 p2 p3) 0) (fun _=>some (-1)) (fun r=>some r))
theorem Qf(p1 p2 p3 r)(h:Ir p1 p2 p3=some r):PCall prog 44 [(.agg (P6 p1)),(.list (List.map A4 p2)),(i64 p3)] (i64 r):=by
 refine C2 (fk func44 ntmps44 m0 (by with_unfolding_all rfl)) (nl W) ?_
 unfold Ir at h
 refine B4 (s0:=⟨T [(0,(.d _)),(1,(.d _)),(2,(.d _))],G []⟩) (F0 W W) ?_
 refine lr<|fun u1 _=>sm W<|sv W<|A1<|A5<|B0<|sd W (B2 W G_hit W W)<|sv W<|bs h fun _ hv1 h=>A9 W W A3 (Fb _ _ _ hv1) (.inl W) (sv W<|sv W<|gf W (fun _=>W)<|gf W (vb W W W)<|sd W (O5 W W<|fun hc=>A2<|J6 hc)<|sv W<|gf W (fun _=>W)<|gp W (K6 W) (fun _=>W) (gf W (vl W G_hit W)<|gf W (fun w6=>(D3<|A2 w6))<|gf W (fun w7=>(M4 (A2 w7) (A2 w7) W))<|sd W (O5 W W<|fun hc=>A2<|J6 hc)<|A1<|cc W h (fun c1 h=> ?_)<|fun c1 h=> ?_))
 refine B0<|sv W<|A1<|B1 ?_
 cases h
 exact A6 (.inr W) (B6 (B3 W) C0) (.refl _)
 refine A8<|A5<|B0<|sv W<|A1<|js h fun z1 hz1 h=>D6 (fun s=> ∃(y1:Unit) (g1:Unit),z1= .inl y1∧Sb ⟨T [],G []⟩ s) ?_ ?_
 refine A7<|E1 (Iq p1 p2 p3) (fun (x1:Int) (g2:Unit)=>⟨T [(1,(dl A4 p2)),(2,(di p3)),(3,(.ptr (3,u1) 0)),(7,(di x1))],G [((3,u1),some<|.box 33 (L4 p1))]⟩) 0 () _ hz1 (F0 W W) ?_
 intro x1 g2 z2 hz2 ez2
 unfold Iq at hz2
 refine A5<|B0<|sv W<|sv W<|sd W (D3 W)<|sv W<|A1<|cc W hz2 (fun c2 hz2=> ?_)<|fun c2 hz2=> ?_
 refine A8<|A5<|A7<|A5<|E8 W<|sq W<|sl W G_hit W<|sv W<|bs hz2 fun _ hv2 hz2=>sd W (C4 W W hv2 W)<|sd W (D1 W hv2 W W)<|sv W<|sv W<|bs hz2 fun _ hv3 hz2=>sd W (C4 W W hv3 W)<|sd W (C9 W hv3 W)<|bs hz2 fun v4 hv4 hz2=>A9 W W A3 (JG _ _ _ hv4) (.inl W) (sv W<|sv W<|sv W<|sm W<|S5 W G_hit (Ya v4.1) W (sv W<|A1<|B0<|sv W<|A1<|cc W hz2 (fun c3 hz2=> ?_)<|fun c3 hz2=> ?_))
 refine B0<|sv W<|sv W<|A1<|B1 ?_
 cases hz2
 obtain rfl:=ez2 _ rfl
 refine ⟨nofun,F2 ?_⟩
 rw [bX]at h
 cases h
 exact A6 (.inr W) (B6 (B3 W) C0) (.refl _)
 refine A8<|E0<|B9<|sv W<|sv W<|sv W<|A1<|E2 ?_
 cases hz2
 exact ⟨W,(),(F0 W W)⟩
 refine C7 W ?_
 cases hz2
 obtain rfl:=ez2 _ rfl
 refine ⟨nofun,C5 W<|U1 ?_⟩
 exact ⟨_,(),W,(F0 W W)⟩
 rintro _ ⟨y1,g1,rfl,q1⟩
 rw [bW]at h
 refine B4 q1<|B0<|sv W<|A1<|B1 ?_
 cases h
 exact A6 (.inr W) (B6 (B3 W) C0) (.refl _)
def Mt [Lp](p1:Map)(p2:Int):Option Bool:=
  ((cond ((decide (p2≥0))&& (decide (p2< (p1.Lanes.length:Int)))) (Im p1) (some default))).bind fun v1=>some (((decide (p2≥0))&& (decide (p2< (p1.Lanes.length:Int))))&& (v1==0))
theorem Yc(p1 p2 r)(h:Mt p1 p2=some r):PCall prog 98 [(.agg (P6 p1)),(i64 p2)] (bo r):=by
 refine C2 (fk func98 ntmps98 m0 (by with_unfolding_all rfl)) (nl W) ?_
 unfold Mt at h
 refine B4 (s0:=⟨T [(0,(.d _)),(1,(.d _))],G []⟩) (F0 W W) ?_
 refine B0<|sm W<|sv W<|A1<|B0<|sv W<|sv W<|sv W<|gt W (fun _=>W)<|gp W (K3 W) (fun _=>W) (gt W (vl W G_hit W)<|gt W (fun w4=>(D3<|A2 w4))<|gt W (fun w5=>(M4 (A2 w5) (A2 w5) W))<|sa W W W<|sv W<|gt W (fun _=>(B2 W G_hit W W))<|bs h fun v1 hv1 h=> ?_)
 refine N4 _ (i64 v1) (K3 W) (fun w7=>⟨_,[(.d (.agg (P6 p1)))],_,_,(by simp only [A2 w7];rfl),W,A3,Qb _ _<|C1 w7 hv1,(.inl W)⟩) ?_
 refine gt W (vb W W W)<|sa W W W<|sv W<|A1<|B1 ?_
 cases h
 exact A6 (.inr W) (B6 (B3 W) C0) (.refl _)
def Y8 [Lp](p1:Signal)(p2:Int)(x2:(Int×Int)):Option (Stp (Int×Int) (Sum Unit Bool)):=
  cond (decide (x2.2< (p1.Phases.length:Int))) ((C3 p1.Phases x2.2).bind fun v5=>cond (decide (x2.1<v5.Ticks)) ((C3 p1.Phases x2.2).bind fun v6=>(Mr v6.Green p2).bind fun v7=>some (.out (.inr v7))) ((C3 p1.Phases x2.2).bind fun v8=>some (.go ((D9 (x2.1 - v8.Ticks)),(D9 (x2.2+1)))))) (some (.out (.inl ())))
def Bc (p1:Signal)(x1:(Int×Int)):Option (Stp (Int×Int) Int):=
  cond (decide (x1.2< (p1.Phases.length:Int))) ((C3 p1.Phases x1.2).bind fun v1=>some (.go ((D9 (x1.1+v1.Ticks)),(D9 (x1.2+1))))) (some (.out x1.1))
def Nx [Lp](p1:Signal)(p2:Int)(p3:Int):Option Bool:=
  (loop (Bc p1) (0,0)).bind fun y1=>(Re p1.Offset y1).bind fun v2=>(Re p3 y1).bind fun v3=>(Re (D9 (v2+v3)) y1).bind fun v4=>thenS (loop (Y8 p1 p2) (v4,0)) (fun _=>some false) (fun r=>some r)
theorem HI(p1 p2 p3 r)(h:Nx p1 p2 p3=some r):PCall prog 187 [(.agg [(i64 p1.Offset),(.list (List.map Ak p1.Phases))]),(i64 p2),(i64 p3)] (bo r):=by
 refine C2 (fk func187 ntmps187 m0 (by with_unfolding_all rfl)) (nl W) ?_
 unfold Nx at h
 refine B4 (s0:=⟨T [(0,(.d _)),(1,(.d _)),(2,(.d _))],G []⟩) (F0 W W) ?_
 refine lr<|fun u1 _=>sm W<|sv W<|A1<|B0<|sv W<|A1<|A5<|B0<|sv W<|A1<|bs h fun y1 hy1 h=>D6 (fun s=> ∃g1:Unit,Sb ⟨T [(1,(di p2)),(2,(di p3)),(3,(.ptr (3,u1) 0)),(7,(di y1))],G [((3,u1),some<|.box 120 [(di p1.Offset),(dl Ak p1.Phases)])]⟩ s) ?_ ?_
 refine A7<|E1 (Bc p1) (fun (x1:(Int×Int)) (g2:Unit)=>⟨T [(1,(di p2)),(2,(di p3)),(3,(.ptr (3,u1) 0)),(7,(di x1.1)),(8,(di x1.2))],G [((3,u1),some<|.box 120 [(di p1.Offset),(dl Ak p1.Phases)])]⟩) (0,0) () _ hy1 (F0 W W) ?_
 intro x1 g2 z1 hz1 ez1
 unfold Bc at hz1
 refine A5<|B0<|sv W<|sq W<|sl W G_hit W<|sd W (D3 W)<|sv W<|A1<|cc W hz1 (fun c1 hz1=> ?_)<|fun c1 hz1=> ?_
 refine A8<|A5<|A7<|B9<|sv W<|sq W<|sl W G_hit W<|sv W<|bs hz1 fun _ hv1 hz1=>sd W (C4 W W hv1 W)<|sv W<|sd W (C9 W hv1 W)<|sv W<|sv W<|A1<|E0<|B9<|sv W<|sv W<|sv W<|A1<|E2 ?_
 cases hz1
 exact ⟨W,(),(F0 W W)⟩
 refine C7 W ?_
 cases hz1
 obtain rfl:=ez1 _ rfl
 refine ⟨nofun,C5 W<|U1 ?_⟩
 exact ⟨(),(F0 W W)⟩
 rintro _ ⟨g1,q1⟩
 refine B4 q1<|A5<|E8 W<|sq W<|sl W G_hit W<|sv W<|bs h fun _ hv2 h=>sd W (Ul W W hv2)<|sv W<|sv W<|bs h fun _ hv3 h=>sd W (Ul W W hv3)<|sv W<|sv W<|bs h fun v4 hv4 h=>sd W (Ul W W hv4)<|sv W<|A1<|A5<|B0<|sv W<|A1<|js h fun z2 hz2 h=>D6 (fun s=> ∃(y2:Unit) (g3:Unit),z2= .inl y2∧Sb ⟨T [],G []⟩ s) ?_ ?_
 refine A7<|E1 (Y8 p1 p2) (fun (x2:(Int×Int)) (g4:Unit)=>⟨T [(1,(di p2)),(3,(.ptr (3,u1) 0)),(9,(di x2.1)),(10,(di x2.2))],G [((3,u1),some<|.box 120 [(di p1.Offset),(dl Ak p1.Phases)])]⟩) (v4,0) () _ hz2 (F0 W W) ?_
 intro x2 g4 z3 hz3 ez3
 unfold Y8 at hz3
 refine A5<|B0<|sv W<|sq W<|sl W G_hit W<|sd W (D3 W)<|sv W<|A1<|cc W hz3 (fun c2 hz3=> ?_)<|fun c2 hz3=> ?_
 refine A8<|A5<|A7<|A5<|B0<|sv W<|sq W<|sl W G_hit W<|sv W<|bs hz3 fun _ hv5 hz3=>sd W (C4 W W hv5 W)<|sv W<|sd W (C9 W hv5 W)<|sv W<|A1<|cc W hz3 (fun c3 hz3=> ?_)<|fun c3 hz3=> ?_
 refine B0<|sq W<|sl W G_hit W<|sv W<|bs hz3 fun _ hv6 hz3=>sd W (C4 W W hv6 W)<|sv W<|sd W (C9 W hv6 W)<|sv W<|bs hz3 fun _ hv7 hz3=>A9 W W A3 (Tn _ _ _ hv7) (.inl W) (sv W<|A1<|B1 ?_)
 cases hz3
 obtain rfl:=ez3 _ rfl
 refine ⟨nofun,F2 ?_⟩
 rw [bX]at h
 cases h
 exact A6 (.inr W) (B6 (B3 W) C0) (.refl _)
 refine A8<|B9<|sv W<|sq W<|sl W G_hit W<|sv W<|bs hz3 fun _ hv8 hz3=>sd W (C4 W W hv8 W)<|sv W<|sd W (C9 W hv8 W)<|sv W<|sv W<|A1<|E0<|B9<|sv W<|sv W<|sv W<|A1<|E2 ?_
 cases hz3
 exact ⟨W,(),(F0 W W)⟩
 refine C7 W ?_
 cases hz3
 obtain rfl:=ez3 _ rfl
 refine ⟨nofun,C5 W<|U1 ?_⟩
 exact ⟨_,(),W,(F0 W W)⟩
 rintro _ ⟨y2,g3,rfl,q2⟩
 rw [bW]at h
 refine B4 q2<|B0<|sv W<|A1<|B1 ?_
 cases h
 exact A6 (.inr W) (B6 (B3 W) C0) (.refl _)
end
end Go.Abs.World
