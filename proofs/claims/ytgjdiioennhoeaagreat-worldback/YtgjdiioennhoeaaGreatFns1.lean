/-
  The Go functions that WorldBack reaches, as plain Lean functions, and the proofs that the program computes them.
-/
import Derived.Test.YtgjdiioennhoeaaGreatCoreD
import Derived.Test.YtgjdiioennhoeaaGreatProg
import Derived.KernelRfl
import Derived.IntWalk
import Derived.Shelf.SlicesE.Compact
set_option maxRecDepth 20000
set_option maxHeartbeats 4000000
set_option linter.unusedVariables false
namespace Go.Abs.World
noncomputable section
open Go Go.Abs Go.Proofs Tryz
attribute [local irreducible] M1 Ep Dj
structure Spot where
  X:Int
  Y:Int
  deriving Inhabited
structure CurveVector where
  x:Int
  y:Int
  deriving Inhabited
structure CurvePiece where
  p:Spot
  v:CurveVector
  l:Int
  start:Int
  deriving Inhabited
abbrev Dd:Spot→List D:=fun x=> [(i64 x.X),(i64 x.Y)]
structure Curve where
  Pts:(List Spot)
  deriving Inhabited
abbrev zC:Curve→List D:=fun x=> [(.list (List.map Dd x.Pts))]
structure Stay where
  Agent_:Int
  Zone_:Int
  Since:Int
  Rank:Int
  deriving Inhabited
abbrev I4:Stay→List D:=fun x=> [(i64 x.Agent_),(i64 x.Zone_),(i64 x.Since),(i64 x.Rank)]
abbrev A5:Int→List D:=fun x=> [.v (.int .i64 x)]
structure KitActor where
  R:Int
  S:Int
  V:Int
  Len:Int
  Begin:Int
  Disobeys:Bool
  deriving Inhabited
abbrev Qe:KitActor→List D:=fun x=> [(i64 x.R),(i64 x.S),(i64 x.V),(i64 x.Len),(i64 x.Begin),(bo x.Disobeys)]
abbrev XA:(List KitActor)→List D:=fun x=> [.list (List.map Qe x)]
abbrev xT:Bool→List D:=fun x=> [bo x]
abbrev Yq:(List Int)→List D:=fun x=> [.list (List.map A5 x)]
abbrev UF:(List (List Int))→List D:=fun x=> [.list (List.map Yq x)]
structure Lane where
  Kind:Int
  Curve_:Curve
  Half:Int
  Limit:Int
  Next:(List Int)
  deriving Inhabited
structure Part where
  Lane_:Int
  From:Int
  To:Int
  Rank:Int
  deriving Inhabited
structure Zone where
  Parts:(List Part)
  Signal_:Int
  deriving Inhabited
structure Phase where
  Ticks:Int
  Green:(List Int)
  deriving Inhabited
structure Signal where
  Offset:Int
  Phases:(List Phase)
  deriving Inhabited
structure Work where
  Lane_:Int
  From:Int
  To:Int
  Begin:Int
  End:Int
  Limit:Int
  deriving Inhabited
structure Map where
  Version:Int
  Lanes:(List Lane)
  Zones:(List Zone)
  Signals:(List Signal)
  Works:(List Work)
  deriving Inhabited
abbrev Hp:Lane→List D:=fun x=> [(i64 x.Kind),(.list (List.map Dd x.Curve_.Pts)),(i64 x.Half),(i64 x.Limit),(.list (List.map A5 x.Next))]
abbrev Ck:Part→List D:=fun x=> [(i64 x.Lane_),(i64 x.From),(i64 x.To),(i64 x.Rank)]
abbrev Hq:Zone→List D:=fun x=> [(.list (List.map Ck x.Parts)),(i64 x.Signal_)]
abbrev Cb:Phase→List D:=fun x=> [(i64 x.Ticks),(.list (List.map A5 x.Green))]
abbrev Oq:Signal→List D:=fun x=> [(i64 x.Offset),(.list (List.map Cb x.Phases))]
abbrev Xl:Work→List D:=fun x=> [(i64 x.Lane_),(i64 x.From),(i64 x.To),(i64 x.Begin),(i64 x.End),(i64 x.Limit)]
structure Agent where
  Route:(List Int)
  S:Int
  V:Int
  Len:Int
  Begin:Int
  Obey:Bool
  Gone:Bool
  deriving Inhabited
abbrev D1:Agent→List D:=fun x=> [(.list (List.map A5 x.Route)),(i64 x.S),(i64 x.V),(i64 x.Len),(i64 x.Begin),(bo x.Obey),(bo x.Gone)]
structure State where
  Tick:Int
  Agents:(List Agent)
  In:(List Stay)
  deriving Inhabited
abbrev zS:Nat→List D:=fun x=> [.fn (.func x) [] []]
structure RoadsCheck where
  Map_:Map
  deriving Inhabited
abbrev xU:(Int×Int×Int)→List D:=fun x=> [(i64 x.1),(i64 x.2.1),(i64 x.2.2)]
structure RoadsWay where
  Map_:Map
  lanes:(List Int)
  starts:(List Int)
  length:Int
  deriving Inhabited
structure WorldSpan where
  from_:Int
  to:Int
  deriving Inhabited
structure Crash where
  Tick:Int
  A:Int
  B:Int
  Lane_:Int
  Zone_:Int
  Who:(List Int)
  deriving Inhabited
structure WorldScene where
  m:Map
  before:State
  after:State
  acts:(List Int)
  crashes:(List Crash)
  deriving Inhabited
abbrev Bv:Crash→List D:=fun x=> [(i64 x.Tick),(i64 x.A),(i64 x.B),(i64 x.Lane_),(i64 x.Zone_),(.list (List.map A5 x.Who))]
structure Pass where
  Zone_:Int
  Part_:Int
  From:Int
  To:Int
  deriving Inhabited
abbrev S3:Pass→List D:=fun x=> [(i64 x.Zone_),(i64 x.Part_),(i64 x.From),(i64 x.To)]
abbrev xV:(List Agent)→List D:=fun x=> [.list (List.map D1 x)]
abbrev yR:(List Stay)→List D:=fun x=> [.list (List.map I4 x)]
structure Span where
  Lane_:Int
  From:Int
  To:Int
  deriving Inhabited
abbrev Dt:Span→List D:=fun x=> [(i64 x.Lane_),(i64 x.From),(i64 x.To)]
abbrev M0:Int→List D:=fun x=> [.v (.int .u8 x)]
structure WorldReader where
  s:ByteArray
  bad:Bool
  deriving Inhabited
structure Anon7 where
  x:Int
  y:Int
  signed:Bool
  code:Int
  deriving Inhabited
structure RuntimeBoundsError where
  x:Int
  y:Int
  signed:Bool
  code:Int
  deriving Inhabited
structure Anon13 where
  msg:ByteArray
  addr:Int
  deriving Inhabited
structure RuntimeErrorAddressString where
  msg:ByteArray
  addr:Int
  deriving Inhabited
structure Anon24 where
  Tick:Int
  Agents:(List Agent)
  In:(List Stay)
  deriving Inhabited
structure Anon32 where
  Version:Int
  Lanes:(List Lane)
  Zones:(List Zone)
  Signals:(List Signal)
  Works:(List Work)
  deriving Inhabited
structure Anon44 where
  Route:(List Int)
  S:Int
  V:Int
  Len:Int
  Begin:Int
  Obey:Bool
  Gone:Bool
  deriving Inhabited
structure Anon60 where
  Pts:(List Spot)
  deriving Inhabited
structure Anon62 where
  Kind:Int
  Curve_:Curve
  Half:Int
  Limit:Int
  Next:(List Int)
  deriving Inhabited
structure Anon72 where
  R:Int
  S:Int
  V:Int
  Len:Int
  Begin:Int
  Disobeys:Bool
  deriving Inhabited
structure Anon76 where
  Tick:Int
  A:Int
  B:Int
  Lane_:Int
  Zone_:Int
  Who:(List Int)
  deriving Inhabited
structure Anon82 where
  Stamp:Int
  Lo:Int
  Hi:Int
  deriving Inhabited
structure Mark where
  Stamp:Int
  Lo:Int
  Hi:Int
  deriving Inhabited
structure Anon92 where
  Lane_:Int
  From:Int
  To:Int
  deriving Inhabited
structure Point where
  X:Int
  Y:Int
  V:Int
  deriving Inhabited
structure Anon98 where
  Stamp:Int
  Seen:(List Span)
  Points:(List Point)
  deriving Inhabited
structure Scan where
  Stamp:Int
  Seen:(List Span)
  Points:(List Point)
  deriving Inhabited
structure Anon103 where
  X:Int
  Y:Int
  deriving Inhabited
structure Anon106 where
  X:Int
  Y:Int
  V:Int
  deriving Inhabited
structure Anon113 where
  Lane_:Int
  From:Int
  To:Int
  Rank:Int
  deriving Inhabited
structure Anon116 where
  Parts:(List Part)
  Signal_:Int
  deriving Inhabited
structure Anon119 where
  Offset:Int
  Phases:(List Phase)
  deriving Inhabited
structure Anon122 where
  Lane_:Int
  From:Int
  To:Int
  Begin:Int
  End:Int
  Limit:Int
  deriving Inhabited
structure Anon126 where
  Agent_:Int
  Zone_:Int
  Since:Int
  Rank:Int
  deriving Inhabited
structure Anon134 where
  m:Map
  before:State
  after:State
  acts:(List Int)
  crashes:(List Crash)
  deriving Inhabited
structure Anon164 where
  s:ByteArray
  bad:Bool
  deriving Inhabited
structure Anon171 where
  s:ByteArray
  bad:Bool
  deriving Inhabited
structure Ref04Reader where
  s:ByteArray
  bad:Bool
  deriving Inhabited
structure Anon190 where
  from_:Int
  to:Int
  deriving Inhabited
structure Anon207 where
  Ticks:Int
  Green:(List Int)
  deriving Inhabited
structure Anon211 where
  Map_:Map
  deriving Inhabited
structure Anon228 where
  Zone_:Int
  Part_:Int
  From:Int
  To:Int
  deriving Inhabited
structure WorldBar where
  front:Spot
  rear:Spot
  deriving Inhabited
structure Anon245 where
  m:Map
  eye:Spot
  view:Int
  bodies:(List (List Span))
  bars:(List WorldBar)
  deriving Inhabited
structure WorldLooks where
  m:Map
  eye:Spot
  view:Int
  bodies:(List (List Span))
  bars:(List WorldBar)
  deriving Inhabited
structure Anon247 where
  front:Spot
  rear:Spot
  deriving Inhabited
structure Anon252 where
  x:Int
  y:Int
  deriving Inhabited
structure Anon254 where
  p:Spot
  v:CurveVector
  l:Int
  start:Int
  deriving Inhabited
structure Anon259 where
  Map_:Map
  lanes:(List Int)
  starts:(List Int)
  length:Int
  deriving Inhabited
abbrev Rs:WorldScene→List D:=fun x=> [(i64 x.m.Version),(.list (List.map Hp x.m.Lanes)),(.list (List.map Hq x.m.Zones)),(.list (List.map Oq x.m.Signals)),(.list (List.map Xl x.m.Works)),(i64 x.before.Tick),(.list (List.map D1 x.before.Agents)),(.list (List.map I4 x.before.In)),(i64 x.after.Tick),(.list (List.map D1 x.after.Agents)),(.list (List.map I4 x.after.In)),(.list (List.map A5 x.acts)),(.list (List.map Bv x.crashes))]
abbrev X7:WorldScene→List AV:=fun x=> [(.d (i64 x.m.Version)),(.d (.list (List.map Hp x.m.Lanes))),(.d (.list (List.map Hq x.m.Zones))),(.d (.list (List.map Oq x.m.Signals))),(.d (.list (List.map Xl x.m.Works))),(.d (i64 x.before.Tick)),(.d (.list (List.map D1 x.before.Agents))),(.d (.list (List.map I4 x.before.In))),(.d (i64 x.after.Tick)),(.d (.list (List.map D1 x.after.Agents))),(.d (.list (List.map I4 x.after.In))),(.d (.list (List.map A5 x.acts))),(.d (.list (List.map Bv x.crashes)))]
abbrev gG:RoadsWay→List D:=fun x=> [(i64 x.Map_.Version),(.list (List.map Hp x.Map_.Lanes)),(.list (List.map Hq x.Map_.Zones)),(.list (List.map Oq x.Map_.Signals)),(.list (List.map Xl x.Map_.Works)),(.list (List.map A5 x.lanes)),(.list (List.map A5 x.starts)),(i64 x.length)]
abbrev Qf:RoadsWay→List AV:=fun x=> [(.d (i64 x.Map_.Version)),(.d (.list (List.map Hp x.Map_.Lanes))),(.d (.list (List.map Hq x.Map_.Zones))),(.d (.list (List.map Oq x.Map_.Signals))),(.d (.list (List.map Xl x.Map_.Works))),(.d (.list (List.map A5 x.lanes))),(.d (.list (List.map A5 x.starts))),(.d (i64 x.length))]
abbrev O8:Agent→List AV:=fun x=> [(.d (.list (List.map A5 x.Route))),(.d (i64 x.S)),(.d (i64 x.V)),(.d (i64 x.Len)),(.d (i64 x.Begin)),(.d (bo x.Obey)),(.d (bo x.Gone))]
abbrev RQ:KitActor→List AV:=fun x=> [(.d (i64 x.R)),(.d (i64 x.S)),(.d (i64 x.V)),(.d (i64 x.Len)),(.d (i64 x.Begin)),(.d (bo x.Disobeys))]
abbrev xW:Work→List AV:=fun x=> [(.d (i64 x.Lane_)),(.d (i64 x.From)),(.d (i64 x.To)),(.d (i64 x.Begin)),(.d (i64 x.End)),(.d (i64 x.Limit))]
abbrev XB:CurvePiece→List D:=fun x=> [(i64 x.p.X),(i64 x.p.Y),(i64 x.v.x),(i64 x.v.y),(i64 x.l),(i64 x.start)]
abbrev XC:CurvePiece→List AV:=fun x=> [(.d (i64 x.p.X)),(.d (i64 x.p.Y)),(.d (i64 x.v.x)),(.d (i64 x.v.y)),(.d (i64 x.l)),(.d (i64 x.start))]
abbrev R6:Map→List D:=fun x=> [(i64 x.Version),(.list (List.map Hp x.Lanes)),(.list (List.map Hq x.Zones)),(.list (List.map Oq x.Signals)),(.list (List.map Xl x.Works))]
abbrev M7:Map→List AV:=fun x=> [(.d (i64 x.Version)),(.d (.list (List.map Hp x.Lanes))),(.d (.list (List.map Hq x.Zones))),(.d (.list (List.map Oq x.Signals))),(.d (.list (List.map Xl x.Works)))]
abbrev HH:Lane→List AV:=fun x=> [(.d (i64 x.Kind)),(.d (.list (List.map Dd x.Curve_.Pts))),(.d (i64 x.Half)),(.d (i64 x.Limit)),(.d (.list (List.map A5 x.Next)))]
abbrev DZ:Part→List AV:=fun x=> [(.d (i64 x.Lane_)),(.d (i64 x.From)),(.d (i64 x.To)),(.d (i64 x.Rank))]
abbrev Xm:Stay→List AV:=fun x=> [(.d (i64 x.Agent_)),(.d (i64 x.Zone_)),(.d (i64 x.Since)),(.d (i64 x.Rank))]
abbrev W2:State→List D:=fun x=> [(i64 x.Tick),(.list (List.map D1 x.Agents)),(.list (List.map I4 x.In))]
abbrev F6:State→List AV:=fun x=> [(.d (i64 x.Tick)),(.d (.list (List.map D1 x.Agents))),(.d (.list (List.map I4 x.In)))]
def BQ (p4:(List Int))(x1:(Int× (List Spot))):Option (Stp (Int× (List Spot)) (List Spot)):=
  cond (decide ((E5 (x1.1+1))< (p4.length:Int))) ((C4 p4 x1.1).bind fun v1=>(C4 p4 (E5 (x1.1+1))).bind fun v2=>(X3 x1.2 [(Spot.mk v1 v2)]).bind fun v3=>some (.go ((E5 (x1.1+2)),v3))) (some (.out x1.2))
def V6 [Lp](p1:Int)(p2:Int)(p3:(List Int))(p4:(List Int)):Option Lane:=
  (loop (BQ p4) (0,[])).bind fun y1=>cond (p1==3) (some (Lane.mk p1 (Curve.mk y1) 500 p2 p3)) (some (Lane.mk p1 (Curve.mk y1) 1500 p2 p3))
theorem U2(p1 p2 p3 p4 r)(h:V6 p1 p2 p3 p4=some r):PCall prog 69 [(i64 p1),(i64 p2),(.list (List.map A5 p3)),(.list (List.map A5 p4))] (.agg (Hp r)):=by
 refine C6 (fk func69 ntmps69 (fun r=>if r==5 then [1013]else []) (by with_unfolding_all rfl)) (nl W) ?_;unfold V6 at h;refine B6 (s0:=⟨T [(0,(.d _)),(1,(.d _)),(2,(.d _)),(3,(.d _))],G []⟩) (F0 W W) ?_;refine lr<|fun u1 _=>sm W<|A1<|lr<|fun u2 _=>sv W<|sv W<|sv W<|sv W<|sm W<|T1 W A2 [(di p1),(.d .nilS),(di 1500),(di p2),(dl A5 p3)] W (A1<|A6<|B1<|sv W<|A1<|bs h fun y1 hy1 h=>D4 (fun s=> ∃g1:Nat,Sb ⟨T [(0,(di p1)),(8,(.ptr (8,u1) 0)),(9,(.ptr (9,u2) 0))],G [((8,u1),some<|.box 63 (((zs 4).set 1 (.d .nilS))++ [(.d .nilS)])),((9,u2),some<|.box 63 [(di p1),(oS y1 (36,g1)),(di 1500),(di p2),(dl A5 p3)]),((36,g1),oB 104 2 Dd y1)]⟩ s) ?_ ?_);refine A7<|D8 (BQ p4) (fun (x1:(Int× (List Spot))) (g2:Nat)=>⟨T [(0,(di p1)),(3,(dl A5 p4)),(8,(.ptr (8,u1) 0)),(9,(.ptr (9,u2) 0)),(10,(di x1.1))],G [((8,u1),some<|.box 63 (((zs 4).set 1 (.d .nilS))++ [(.d .nilS)])),((9,u2),some<|.box 63 [(di p1),(oS x1.2 (36,g2)),(di 1500),(di p2),(dl A5 p3)]),((36,g2),oB 104 2 Dd x1.2)]⟩) (0,[]) 0 _ hy1 (D0 (T6 W)<|sg W<|B0 A2 (.of W)<|R7 trivial) ?_;intro x1 g2 z1 hz1 ez1;unfold BQ at hz1;refine A6<|B1<|sv W<|sv W<|sv W<|sd W (D5 W)<|sv W<|A1<|cc W hz1 (fun c1 hz1=> ?_)<|fun c1 hz1=> ?_;refine A9<|A6<|A7<|Oj W fun u5 _=>sq W<|sq W<|B9 (oS x1.2 (36,g2)) W (R3 W (gq W) W) (sv W<|sv W<|bs hz1 fun v1 hv1 hz1=>sd W (C9 W W hv1 W)<|sd W (D2 W hv1 W)<|sv W<|sv W<|sv W<|bs hz1 fun v2 hv2 hz1=>sd W (C9 W W hv2 W)<|sd W (D2 W hv2 W)<|sv W<|B9 (dl Dd [(Spot.mk v1 v2)]) W W (bs hz1 fun _ hv3 hz1=>O6 Dd (36,g2) x1.2 (Spot.mk v1 v2) [] _ (J5<|fun _=>W) W (gq W) hv3 (sq W<|sp W W<|T1 W (gq W) [(di p1),(.sl (36,u5)),(di 1500),(di p2),(dl A5 p3)] W (A1<|E1<|C0<|sv W<|sv W<|sv W<|A1<|E3 ?_))));cases hz1;exact ⟨W,u5,(D0 (T6 W)<|sg W<|B0 A2 (.box (cv<|.cons (.of (T3<|S5 hv3).symm) cw))<|M6 (gq W) trivial)⟩;refine C7 W ?_;cases hz1;obtain rfl:=ez1 _ rfl;refine ⟨nofun,C5 W<|T4 ?_⟩;exact ⟨g2,(D0 (T6 W)<|B0 A2 (.of W)<|sg W<|B7 (gq W) trivial)⟩;rintro _ ⟨g1,q1⟩;refine B6 q1<|A6<|B1<|sv W<|sv W<|A1<|cc W h (fun c2 h=> ?_)<|fun c2 h=> ?_;refine C0<|sq W<|T1 W (gq W) [(di p1),(oS y1 (36,g1)),(di 500),(di p2),(dl A5 p3)] W (A1<|B1<|B9 (X6 [(di p1),(oS y1 (36,g1)),(di 500),(di p2),(dl A5 p3)]) W (B5 W A2 W W) (Hz _ _ _ _ _ (V3 _) W W (gq W) (nl W) [(di p1),(oS y1 (36,g1)),(di 500),(di p2),(dl A5 p3)] W (A1<|B2 ?_)));cases h;exact A8 (.inr W) (B8 (J4 W A2 (nl W) W)<|La<|rD<|E8 (T9<|gq W)<|rD<|rD<|rD F9) (.agg (ca W<|.cons ⟨T8,W⟩ (cz W)));refine A9<|B1<|B9 (X6 [(di p1),(oS y1 (36,g1)),(di 1500),(di p2),(dl A5 p3)]) W (B5 W (gq W) W W) (Hz _ _ _ _ _ (V3 _) W W A2 (nl W) [(di p1),(oS y1 (36,g1)),(di 1500),(di p2),(dl A5 p3)] W (A1<|B2 ?_));cases h;exact A8 (.inr W) (B8 (J4 W A2 (nl W) W)<|La<|rD<|E8 (T9<|gq W)<|rD<|rD<|rD F9) (.agg (ca W<|.cons ⟨T8,W⟩ (cz W)))
def Tu [Lp]:Option Map:=
  (V6 1 1500 [] [0,0,100000,0]).bind fun v1=>(V6 1 1500 [] [50000,(-50000),50000,50000]).bind fun v2=>some (Map.mk 0 [v1,v2] [(Zone.mk [(Part.mk 0 48000 52000 1),(Part.mk 1 48000 52000 0)] 0)] [] [])
theorem UG(r)(h:Tu=some r):PCall prog 65 [] (.agg (R6 r)):=by
 refine C6 (fk func65 ntmps65 (fun r=>if r==1 then [1000,1002,1004,1007,1009]else []) (by with_unfolding_all rfl)) (nl W) ?_;unfold Tu at h;refine B6 (s0:=⟨T [],G []⟩) (F0 W W) ?_;refine B1<|sm W<|A1<|B1<|B9 (dl A5 [0,0,100000,0]) W W (bs h fun v1 hv1 h=>B4 W W (.cons (.refl _) (.cons (.refl _) (.cons DLe.nil A4))) (U2 _ _ _ _ _ hv1) (.inl W) (B9 (dl A5 [50000,(-50000),50000,50000]) W W (bs h fun v2 hv2 h=>B4 W W (.cons (.refl _) (.cons (.refl _) (.cons DLe.nil A4))) (U2 _ _ _ _ _ hv2) (.inl W) (B9 (dl Hp [v1,v2]) W (IY Hp ([v1,v2]:List Lane) (fun _=>W) W W ⟨W,W,W,W,W,W,trivial⟩ (fun _=>W)) (sv W<|sv W<|B9 (dl Ck [(Part.mk 0 48000 52000 1),(Part.mk 1 48000 52000 0)]) W W (sv W<|B9 (dl Hq [(Zone.mk [(Part.mk 0 48000 52000 1),(Part.mk 1 48000 52000 0)] 0)]) W W (sv W<|T1 W A2 [(di 0),(dl Hp [v1,v2]),(dl Hq [(Zone.mk [(Part.mk 0 48000 52000 1),(Part.mk 1 48000 52000 0)] 0)]),(.d .nilS),(.d .nilS)] W (A1<|B2 ?_))))))));cases h;exact A8 (.inr W) (B8 (J4 W A2 (nl W) W) C2) (.agg (ca W<|ca W<|ca W<|.cons ⟨DLe.nil,W⟩ (.cons ⟨DLe.nil,W⟩ .nil)))
def Wc (p1:Int)(p2:Int)(p3:Int):Option Agent:=
  some (Agent.mk [p1] p2 p3 4000 0 false false)
theorem BR(p1 p2 p3 r)(h:Wc p1 p2 p3=some r):PCall prog 66 [(i64 p1),(i64 p2),(i64 p3)] (.agg (D1 r)):=by
 refine C6 (fk func66 ntmps66 (fun r=>if r==1 then [1001]else []) (by with_unfolding_all rfl)) (nl W) ?_;unfold Wc at h;refine B6 (s0:=⟨T [(0,(.d _)),(1,(.d _)),(2,(.d _))],G []⟩) (F0 W W) ?_;refine B1<|sm W<|A1<|B1<|sv W<|B9 (dl A5 [p1]) W W (sv W<|sv W<|sv W<|T1 W A2 [(dl A5 [p1]),(di p2),(di p3),(di 4000),(di 0),(.d (bo false)),(.d (bo false))] W (A1<|B2 ?_));cases h;exact A8 (.inr W) (B8 (J4 W A2 (nl W) W) C2) (.refl _)
def Au (p1:List Stay):Option (List Stay):=X3 [] p1
theorem Kv (p1:List Stay)(a0:D)(hl:X3 ([]:List Stay) p1=some p1)(hn: ∀h,K3 (T [(3, .d a0),(2, .d .nilS),(0, .d a0)]) h (.isnil false (.t 3))=some (.d (bo false)))(he: ∀h,Aq h 4 (.d a0)=some (List.map I4 p1)):
    PCall prog 121 [a0] (.list (List.map I4 p1)):=by
  refine C6 (fk func121 ntmps121 m0 (by with_unfolding_all rfl)) (Nat.le_of_ble_eq_true W) ?_;refine (B6 (s0:=⟨T [(0, .d a0)],G []⟩) (D0 ⟨.of W,trivial⟩ trivial) ?_);refine A6 ?_;refine Ae fun _ _=> ?_;refine B9 (.d .nilS) W W ?_;refine A1 ?_;refine A6 ?_;refine A6 ?_;refine Ae fun _ _=> ?_;refine B9 (.d a0) W W ?_;refine B9 (.d (bo false)) W (hn _) ?_;refine A1 ?_;refine Vz W ?_;refine A9 ?_;refine A6 ?_;refine Ae fun _ _=> ?_;refine Ok (.sl _) (.arr 127 4 (List.map I4 ([]:List Stay))) W W ?_;refine B9 (.d a0) W W ?_;refine BL I4 _ [] p1 _ (he _) W A2 hl ?_;refine B9 (.sl _) W W ?_;refine A1 ?_;refine B2 ?_;exact A8 (.inr W) (B8 (B3 W)<|RI A2) (.refl _)
theorem Mj(p1 r)(h:Au p1=some r):PCall prog 121 [.list (List.map I4 p1)] (.list (List.map I4 r)):=by
  have hr:r=p1:=by obtain ⟨_,rfl⟩:=If h;rfl
  subst hr;cases r with
  |cons x xs=>exact Kv (x::xs) _ h (fun _=>rfl) fun _=>J5 (fun _=>rfl)
  |nil=>
   refine PCall.nil fun A cap=> ?_;cases A with
   |some A=>exact Kv [] (.v (.slice (some A) 0 cap)) h (fun _=>rfl) fun _=>rfl
   |none=>
    refine C6 (fk func121 ntmps121 m0 (by with_unfolding_all rfl)) (Nat.le_of_ble_eq_true W) ?_;refine (B6 (s0:=⟨T [(0, .d (.v (.slice none 0 cap)))],G []⟩) (D0 ⟨.of W,trivial⟩ trivial) ?_);refine A6 ?_;refine Ae fun _ _=> ?_;refine B9 (.d .nilS) W W ?_;refine A1 ?_;refine A6 ?_;refine A6 ?_;refine Ae fun _ _=> ?_;refine B9 (.d _) W W ?_;refine B9 (.d (bo true)) W W ?_;refine A1 ?_;refine DC W ?_;refine A6 ?_;refine Ae fun _ _=> ?_;refine B9 (.d .nilS) W W ?_;refine A1 ?_;refine B2 ?_;exact A8 (.inr W) (B8 (B3 W) C2) .nil
def Lc (p1:List Int):Option (List Int):=X3 [] p1
theorem Mk (p1:List Int)(a0:D)(hl:X3 ([]:List Int) p1=some p1)(hn: ∀h,K3 (T [(3, .d a0),(2, .d .nilS),(0, .d a0)]) h (.isnil false (.t 3))=some (.d (bo false)))(he: ∀h,Aq h 1 (.d a0)=some (List.map A5 p1)):
    PCall prog 178 [a0] (.list (List.map A5 p1)):=by
  refine C6 (fk func178 ntmps178 m0 (by with_unfolding_all rfl)) (Nat.le_of_ble_eq_true W) ?_;refine (B6 (s0:=⟨T [(0, .d a0)],G []⟩) (D0 ⟨.of W,trivial⟩ trivial) ?_);refine A6 ?_;refine Ae fun _ _=> ?_;refine B9 (.d .nilS) W W ?_;refine A1 ?_;refine A6 ?_;refine A6 ?_;refine Ae fun _ _=> ?_;refine B9 (.d a0) W W ?_;refine B9 (.d (bo false)) W (hn _) ?_;refine A1 ?_;refine Vz W ?_;refine A9 ?_;refine A6 ?_;refine Ae fun _ _=> ?_;refine Ok (.sl _) (.arr 3 1 (List.map A5 ([]:List Int))) W W ?_;refine B9 (.d a0) W W ?_;refine BL A5 _ [] p1 _ (he _) W A2 hl ?_;refine B9 (.sl _) W W ?_;refine A1 ?_;refine B2 ?_;exact A8 (.inr W) (B8 (B3 W)<|RI A2) (.refl _)
theorem Xn(p1 r)(h:Lc p1=some r):PCall prog 178 [.list (List.map A5 p1)] (.list (List.map A5 r)):=by
  have hr:r=p1:=by obtain ⟨_,rfl⟩:=If h;rfl
  subst hr;cases r with
  |cons x xs=>exact Mk (x::xs) _ h (fun _=>rfl) fun _=>J5 (fun _=>rfl)
  |nil=>
   refine PCall.nil fun A cap=> ?_;cases A with
   |some A=>exact Mk [] (.v (.slice (some A) 0 cap)) h (fun _=>rfl) fun _=>rfl
   |none=>
    refine C6 (fk func178 ntmps178 m0 (by with_unfolding_all rfl)) (Nat.le_of_ble_eq_true W) ?_;refine (B6 (s0:=⟨T [(0, .d (.v (.slice none 0 cap)))],G []⟩) (D0 ⟨.of W,trivial⟩ trivial) ?_);refine A6 ?_;refine Ae fun _ _=> ?_;refine B9 (.d .nilS) W W ?_;refine A1 ?_;refine A6 ?_;refine A6 ?_;refine Ae fun _ _=> ?_;refine B9 (.d _) W W ?_;refine B9 (.d (bo true)) W W ?_;refine A1 ?_;refine DC W ?_;refine A6 ?_;refine Ae fun _ _=> ?_;refine B9 (.d .nilS) W W ?_;refine A1 ?_;refine B2 ?_;exact A8 (.inr W) (B8 (B3 W) C2) .nil
def Er (p1:Agent):Option Agent:=
  (Lc p1.Route).bind fun v1=>some (Agent.mk v1 p1.S p1.V p1.Len p1.Begin p1.Obey p1.Gone)
theorem Ot(p1 r)(h:Er p1=some r):PCall prog 87 [(.agg (D1 p1))] (.agg (D1 r)):=by
 refine C6 (fk func87 ntmps87 m0 (by with_unfolding_all rfl)) (nl W) ?_;unfold Er at h;refine B6 (s0:=⟨T [(0,(.d _))],G []⟩) (F0 W W) ?_;refine B1<|sm W<|sn W W<|A1<|B1<|sq W<|sl W (gq W) W (bs h fun v1 hv1 h=>B4 W W A4 (Xn _ _ hv1) (.inl W) (sq W<|T1 W (gq W) ((O8 p1).set 0 (dl A5 v1)) W (A1<|B1<|sd W (B5 W A2 W W)<|T1 W (gq W) ((O8 p1).set 0 (dl A5 v1)) W (A1<|B2 ?_))));cases h;exact A8 (.inr W) (B8 (J4 W A2 (nl W) W) C2) (.refl _)
def Kl (p1:State)(x1:(Int×State)):Option (Stp (Int×State) State):=
  cond (decide (x1.1< (p1.Agents.length:Int))) ((C4 p1.Agents x1.1).bind fun v2=>(Er v2).bind fun v3=>(X3 x1.2.Agents [v3]).bind fun v4=>some (.go ((E5 (x1.1+1)),(State.mk x1.2.Tick v4 x1.2.In)))) (some (.out x1.2))
def Jj [Lp](p1:State):Option State:=
  (Au p1.In).bind fun v1=>(loop (Kl p1) (0,(State.mk p1.Tick [] v1))).bind fun y1=>some y1
theorem EA(p1 r)(h:Jj p1=some r):PCall prog 56 [(.agg (W2 p1))] (.agg (W2 r)):=by
 refine C6 (fk func56 ntmps56 (fun r=>if r==5 then [1004]else []) (by with_unfolding_all rfl)) (nl W) ?_;unfold Jj at h;refine B6 (s0:=⟨T [(0,(.d _))],G []⟩) (F0 W W) ?_;refine lr<|fun u1 _=>sm W<|sm W<|A1<|A6<|Oj W fun u2 _=>sq W<|sl W (gq W) W (sq W<|sl W (gq W) W (bs h fun v1 hv1 h=>B4 W W A4 (Mj _ _ hv1) (.inl W) (sv W<|sm W<|T1 W A2 [(di p1.Tick),(.d .nilS),(dl I4 v1)] W (A1<|A6<|B1<|sq W<|sl W (gq W) W (sd W (D5 W)<|sv W<|A1<|bs h fun y1 hy1 h=>D4 (fun s=> ∃g1:Nat,Sb ⟨T [(2,(.ptr (2,u1) 0)),(3,(.ptr (3,u2) 0))],G [((2,u1),some<|.box 25 [(di 0),(.d .nilS),(.d .nilS)]),((3,u2),some<|.box 25 [(di y1.Tick),(oS y1.Agents (24,g1)),(dl I4 y1.In)]),((24,g1),oB 45 7 D1 y1.Agents)]⟩ s) ?_ ?_)))));refine A7<|D8 (Kl p1) (fun (x1:(Int×State)) (g2:Nat)=>⟨T [(2,(.ptr (2,u1) 0)),(3,(.ptr (3,u2) 0)),(13,(dl D1 p1.Agents)),(14,(di (p1.Agents.length:Int))),(15,(di x1.1))],G [((2,u1),some<|.box 25 [(di 0),(.d .nilS),(.d .nilS)]),((3,u2),some<|.box 25 [(di x1.2.Tick),(oS x1.2.Agents (24,g2)),(dl I4 x1.2.In)]),((24,g2),oB 45 7 D1 x1.2.Agents)]⟩) (0,(State.mk p1.Tick [] v1)) 0 _ hy1 (D0 (T6 W)<|sg W<|B0 A2 (.of W)<|R7 trivial) ?_;intro x1 g2 z1 hz1 ez1;unfold Kl at hz1;refine B1<|sv W<|A1<|A6<|cc W hz1 (fun c1 hz1=> ?_)<|fun c1 hz1=> ?_;refine A9<|A6<|A7<|B1<|bs hz1 fun v2 hv2 hz1=>sd W (C9 W W hv2 W)<|sd W (D7 W hv2 W W)<|sm W<|T1 W A2 (O8 v2) W (A1<|Oj W fun u6 _=>sq W<|B9 (oS x1.2.Agents (24,g2)) W (R3 W (gq W) W) (sd W (B5 W A2 W W)<|bs hz1 fun v3 hv3 hz1=>B4 W W A4 (Ot _ _ hv3) (.inl W) (B9 (dl D1 [v3]) W W (bs hz1 fun _ hv4 hz1=>O6 D1 (24,g2) x1.2.Agents v3 [] _ (J5<|fun _=>W) W (gq W) hv4 (sq W<|T1 W (gq W) [(di x1.2.Tick),(.sl (24,u6)),(dl I4 x1.2.In)] W (A1<|E1<|C0<|sv W<|sv W<|A1<|E3 ?_))))));cases hz1;exact ⟨W,u6,(D0 (T6 W)<|sg W<|B0 A2 (.box (cv<|.cons (.of (T3<|S5 hv4).symm) cw))<|M6 (gq W) trivial)⟩;refine C7 W ?_;cases hz1;obtain rfl:=ez1 _ rfl;refine ⟨nofun,C5 W<|T4 ?_⟩;exact ⟨g2,(D0 (T6 W)<|B0 A2 (.of W)<|sg W<|B7 (gq W) trivial)⟩;rintro _ ⟨g1,q1⟩;refine B6 q1<|B1<|B9 (X6 [(di y1.Tick),(oS y1.Agents (24,g1)),(dl I4 y1.In)]) W (B5 W (gq W) W W) (Hz _ _ _ _ _ (V3 _) W W A2 (nl W) [(di y1.Tick),(oS y1.Agents (24,g1)),(dl I4 y1.In)] W (A1<|B2 ?_));cases h;exact A8 (.inr W) (B8 (J4 W A2 (nl W) W)<|La<|rD<|E8 (T9<|gq W)<|rD F9) (.agg (ca W<|.cons ⟨T8,W⟩ (cz W)))
def Dv (p1:Int)(p2:Int)(p3:Int):Option Bool:=
  some ((decide (p2≤p1))&& (decide (p1≤p3)))
theorem Fu(p1 p2 p3 r)(h:Dv p1 p2 p3=some r):PCall prog 209 [(i64 p1),(i64 p2),(i64 p3)] (bo r):=by
 refine C6 (fk func209 ntmps209 m0 (by with_unfolding_all rfl)) (nl W) ?_;unfold Dv at h;refine B6 (s0:=⟨T [(0,(.d _)),(1,(.d _)),(2,(.d _))],G []⟩) (F0 W W) ?_;refine B1<|sv W<|A1<|B1<|sv W<|sv W<|sv W<|sv W<|gt W (fun _=>W)<|gt W (fun _=>W)<|gt W (fun w3=>(N2 (A3 w3) (A3 w3) W))<|sa W W W<|sv W<|A1<|B2 ?_;cases h;exact A8 (.inr W) (B8 (B3 W) C2) (.refl _)
def Bj (p1:RoadsCheck):Option Int:=
  (Dv p1.Map_.Version 0 1099511627776).bind fun v1=>cond (!v1) (some 2) (cond ((p1.Map_.Lanes.length:Int)==0) (some 6) (cond ((((decide ((p1.Map_.Lanes.length:Int)>12))||(decide ((p1.Map_.Zones.length:Int)>12)))||(decide ((p1.Map_.Signals.length:Int)>4)))||(decide ((p1.Map_.Works.length:Int)>8))) (some 8) (some 0)))
theorem Yr(p1 r)(h:Bj p1=some r):PCall prog 148 [(.agg (R6 p1.Map_))] (i64 r):=by
 refine C6 (fk func148 ntmps148 m0 (by with_unfolding_all rfl)) (nl W) ?_;unfold Bj at h;refine B6 (s0:=⟨T [(0,(.d _))],G []⟩) (F0 W W) ?_;refine B1<|sm W<|sv W<|A1<|A6<|A7<|B1<|sq W<|sp W W<|sl W A2 W<|bs h fun v1 hv1 h=>B4 W W A4 (Fu _ _ _ _ hv1) (.inl W) (B9 (.d (bo (!v1))) W W (sv W<|A1<|cc W h (fun c1 h=> ?_)<|fun c1 h=> ?_));refine B1<|sv W<|A1<|B2 ?_;cases h;exact A8 (.inr W) (B8 (B3 W) C2) (.refl _);refine B1<|sq W<|sp W W<|sl W A2 W<|sd W (D5 W)<|sv W<|sv W<|A1<|cc W h (fun c2 h=> ?_)<|fun c2 h=> ?_;refine B1<|sv W<|A1<|B2 ?_;cases h;exact A8 (.inr W) (B8 (B3 W) C2) (.refl _);refine B1<|sq W<|sp W W<|sl W A2 W<|sd W (D5 W)<|sv W<|sv W<|gp W (L3 W) (fun _=>W) ?_;refine M9 _ (.ptr _ _) W (L3 W) (fun w2=>(by simp only [A3 w2];rfl)) ?_;refine gf W (vl W A2 W)<|gf W (fun w4=>(D5<|A3 w4))<|gf W (vb W W W)<|sd W (P1 W W<|fun hc=>A3<|J9 hc)<|sv W<|gp W (L3 W) (fun _=>W) ?_;refine M9 _ (.ptr _ _) W (L3 W) (fun w7=>(by simp only [A3 w7];rfl)) ?_;refine gf W (vl W A2 W)<|gf W (fun w9=>(D5<|A3 w9))<|gf W (vb W W W)<|sd W (P1 W W<|fun hc=>A3<|J9 hc)<|sv W<|gp W (L3 W) (fun _=>W) ?_;refine M9 _ (.ptr _ _) W (L3 W) (fun w12=>(by simp only [A3 w12];rfl)) ?_;refine gf W (vl W A2 W)<|gf W (fun w14=>(D5<|A3 w14))<|gf W (vb W W W)<|sd W (P1 W W<|fun hc=>A3<|J9 hc)<|sv W<|A1<|cc W h (fun c3 h=> ?_)<|fun c3 h=> ?_;refine B1<|sv W<|A1<|B2 ?_;cases h;exact A8 (.inr W) (B8 (B3 W) C2) (.refl _);refine A9<|E1<|B1<|sv W<|A1<|B2 ?_;cases h;exact A8 (.inr W) (B8 (B3 W) C2) (.refl _)
def Fz (p1:Int):Option (Int×Int×Int):=
  cond ((decide (p1<0))||(decide (p1≥4))) (some (0,0,0)) ((C4 ([(0,0,0),(2000,30,90),(1000,20,60),(300,100,300)]:List (Int×Int×Int)) p1).bind fun v1=>some (v1.1,v1.2.1,v1.2.2))
theorem Nb(p1 r)(h:Fz p1=some r):PCall prog 157 [(i64 p1)] (.tup [(i64 r.1),(i64 r.2.1),(i64 r.2.2)]):=by
 refine C6 (fk func157 ntmps157 m0 (by with_unfolding_all rfl)) (nl W) ?_;unfold Fz at h;refine B6 (s0:=⟨T [(0,(.d _))],G []⟩) (F0 W W) ?_;refine B1<|sv W<|sv W<|sv W<|A1<|B1<|sv W<|sv W<|sv W<|sv W<|sm W<|T1 W A2 [(di 0),(di 0),(di 0),(di 2000),(di 30),(di 90),(di 1000),(di 20),(di 60),(di 300),(di 100),(di 300)] W (A1<|A6<|B1<|sv W<|sv W<|sv W<|gf W (fun _=>W)<|gf W (vb W W W)<|sd W (P1 W W<|fun hc=>A3<|J9 hc)<|A1<|cc W h (fun c1 h=> ?_)<|fun c1 h=> ?_);refine B1<|sv W<|sv W<|sv W<|A1<|B2 ?_;cases h;exact A8 (.inr W) (GW (B3 W) (B3 W) (B3 W) C2 C2 C2) (.refl _);refine A9<|B1<|sv W<|bs h fun v1 hv1 h=>sp W (rO W W hv1 W)<|sd W (mY (f:=xU) W A2 hv1 (fun _=>W) W W)<|sm W<|T1 W A2 [(di v1.1),(di v1.2.1),(di v1.2.2)] W (A1<|A6<|E9 W<|sq W<|sl W A2 W<|sq W<|sl W A2 W<|sq W<|sl W A2 W<|sv W<|sv W<|sv W<|A1<|B2 ?_);cases h;exact A8 (.inr W) (GW (B3 W) (B3 W) (B3 W) C2 C2 C2) (.refl _)
def Gv (p1:(List Spot))(x1:Int):Option (Stp Int (Sum Unit Bool)):=
  cond (decide (x1< (p1.length:Int))) ((C4 p1 x1).bind fun v1=>cond ((decide ((Xb false v1.X v1.Y)< (-16777216)))||(decide ((Xb true v1.X v1.Y)>16777216))) (some (.out (.inr false))) (some (.go (E5 (x1+1))))) (some (.out (.inl ())))
def Ld [Lp](p1:(List Spot)):Option Bool:=
  thenS (loop (Gv p1) 0) (fun _=>some true) (fun r=>some r)
theorem QF(p1 r)(h:Ld p1=some r):PCall prog 237 [(.list (List.map Dd p1))] (bo r):=by
 refine C6 (fk func237 ntmps237 m0 (by with_unfolding_all rfl)) (nl W) ?_;unfold Ld at h;refine B6 (s0:=⟨T [(0,(.d _))],G []⟩) (F0 W W) ?_;refine B1<|sv W<|A1<|A6<|B1<|sv W<|sd W (D5 W)<|sv W<|A1<|js h fun z1 hz1 h=>D4 (fun s=> ∃(y1:Unit) (g1:Unit),z1= .inl y1∧Sb ⟨T [],G []⟩ s) ?_ ?_;refine A7<|D8 (Gv p1) (fun (x1:Int) (g2:Unit)=>⟨T [(5,(dl Dd p1)),(6,(di (p1.length:Int))),(7,(di x1))],G []⟩) 0 () _ hz1 (F0 W W) ?_;intro x1 g2 z2 hz2 ez2;unfold Gv at hz2;refine B1<|sv W<|A1<|A6<|cc W hz2 (fun c1 hz2=> ?_)<|fun c1 hz2=> ?_;refine A9<|A6<|A7<|B1<|bs hz2 fun v1 hv1 hz2=>sd W (C9 W W hv1 W)<|sd W (D7 W hv1 W W)<|sm W<|T1 W A2 [(di v1.X),(di v1.Y)] W (A1<|B1<|sq W<|sl W A2 W<|sq W<|sl W A2 W<|sv W<|sv W<|sv W<|gp W (L3 W) (fun _=>W) (gf W (vl W A2 W)<|gp W (L3 W) (fun _=>W) (gf W (vl W A2 W) ?_)));refine gf W (fun w5=>(by simp only [A3 w5];rfl)) ?_;refine gf W (vb W W W)<|sd W (P1 W W<|fun hc=>A3<|J9 hc)<|A1<|cc W hz2 (fun c2 hz2=> ?_)<|fun c2 hz2=> ?_;refine B1<|sv W<|A1<|B2 ?_;cases hz2;obtain rfl:=ez2 _ rfl;refine ⟨nofun,F4 ?_⟩;rw [wE]at h;cases h;exact A8 (.inr W) (B8 (B3 W) C2) (.refl _);refine A9<|E1<|C0<|sv W<|sv W<|A1<|E3 ?_;cases hz2;exact ⟨W,(),(F0 W W)⟩;refine C7 W ?_;cases hz2;obtain rfl:=ez2 _ rfl;refine ⟨nofun,C5 W<|T4 ?_⟩;exact ⟨_,(),W,(F0 W W)⟩;rintro _ ⟨y1,g1,rfl,q1⟩;rw [wC]at h;refine B6 q1<|B1<|sv W<|A1<|B2 ?_;cases h;exact A8 (.inr W) (B8 (B3 W) C2) (.refl _)
def Qg (p1:Spot)(p2:Spot):Option CurveVector:=
  some (CurveVector.mk (E5 (p2.X - p1.X)) (E5 (p2.Y - p1.Y)))
theorem EB(p1 p2 r)(h:Qg p1 p2=some r):PCall prog 238 [(.agg [(i64 p1.X),(i64 p1.Y)]),(.agg [(i64 p2.X),(i64 p2.Y)])] (.agg [(i64 r.x),(i64 r.y)]):=by
 refine C6 (fk func238 ntmps238 m0 (by with_unfolding_all rfl)) (nl W) ?_;unfold Qg at h;refine B6 (s0:=⟨T [(0,(.d _)),(1,(.d _))],G []⟩) (F0 W W) ?_;refine B1<|sm W<|sn W W<|sm W<|A1<|B1<|sq W<|sl W (gq W) W (sq W<|sl W (gq W) W (sv W<|sq W<|sl W (gq W) W (sq W<|sl W (gq W) W (sv W<|sv W<|T1 W A2 [(di<|E5 (p2.X - p1.X)),(di<|E5 (p2.Y - p1.Y))] W (A1<|B2 ?_)))));cases h;exact A8 (.inr W) (B8 (J4 W A2 (nl W) W) C2) (.refl _)
def Cc (p1:CurveVector)(p2:CurveVector):Option Int:=
  some (E5 ((E5 (p1.x*p2.x))+ (E5 (p1.y*p2.y))))
theorem Mn(p1 p2 r)(h:Cc p1 p2=some r):PCall prog 240 [(.agg [(i64 p1.x),(i64 p1.y)]),(.agg [(i64 p2.x),(i64 p2.y)])] (i64 r):=by
 refine C6 (fk func240 ntmps240 m0 (by with_unfolding_all rfl)) (nl W) ?_;unfold Cc at h;refine B6 (s0:=⟨T [(0,(.d _)),(1,(.d _))],G []⟩) (F0 W W) ?_;refine B1<|sm W<|sn W W<|sv W<|A1<|B1<|sq W<|sl W (gq W) W (sq W<|sl W A2 W<|sv W<|sq W<|sl W (gq W) W (sq W<|sl W A2 W<|sv W<|sv W<|sv W<|A1<|B2 ?_));cases h;exact A8 (.inr W) (B8 (B3 W) C2) (.refl _)
def Mt (p1:Int)(x1:(Int×Int)):Option (Stp (Int×Int) Int):=
  cond (decide (x1.1<x1.2)) (cond (decide ((E5 ((E5 ((E5 (x1.1+x1.2)).tdiv 2))* (E5 ((E5 (x1.1+x1.2)).tdiv 2))))<p1)) (some (.go ((E5 ((E5 ((E5 (x1.1+x1.2)).tdiv 2))+1)),x1.2))) (some (.go (x1.1,(E5 ((E5 (x1.1+x1.2)).tdiv 2)))))) (some (.out x1.1))
def Gw [Lp](p1:Int):Option (Int×Bool):=
  (loop (Mt p1) (0,67108864)).bind fun y1=>some (y1,((E5 (y1*y1))==p1))
theorem EC(p1 r)(h:Gw p1=some r):PCall prog 239 [(i64 p1)] (.tup [(i64 r.1),(bo r.2)]):=by
 refine C6 (fk func239 ntmps239 m0 (by with_unfolding_all rfl)) (nl W) ?_;unfold Gw at h;refine B6 (s0:=⟨T [(0,(.d _))],G []⟩) (F0 W W) ?_;refine B1<|sv W<|sv W<|A1<|B1<|sv W<|sv W<|A1<|A6<|bs h fun y1 hy1 h=>D4 (fun s=> ∃g1:Unit,Sb ⟨T [(0,(di p1)),(4,(di y1))],G []⟩ s) ?_ ?_;refine A7<|D8 (Mt p1) (fun (x1:(Int×Int)) (g2:Unit)=>⟨T [(0,(di p1)),(4,(di x1.1)),(5,(di x1.2))],G []⟩) (0,67108864) () _ hy1 (F0 W W) ?_;intro x1 g2 z1 hz1 ez1;unfold Mt at hz1;refine A6<|B1<|sv W<|sv W<|sv W<|A1<|cc W hz1 (fun c1 hz1=> ?_)<|fun c1 hz1=> ?_;refine A9<|A7<|B1<|sv W<|sv W<|sv W<|sv W<|sv W<|A1<|B1<|sv W<|sv W<|sv W<|sv W<|sv W<|A1<|cc W hz1 (fun c2 hz1=> ?_)<|fun c2 hz1=> ?_;refine C0<|sv W<|sv W<|sv W<|A1<|E1<|E3 ?_;cases hz1;exact ⟨W,(),(F0 W W)⟩;refine C0<|sv W<|sv W<|A1<|E1<|E3 ?_;cases hz1;exact ⟨W,(),(F0 W W)⟩;refine C7 W ?_;cases hz1;obtain rfl:=ez1 _ rfl;refine ⟨nofun,C5 W<|T4 ?_⟩;exact ⟨(),(F0 W W)⟩;rintro _ ⟨g1,q1⟩;refine B6 q1<|B1<|sv W<|sv W<|sv W<|sv W<|sv W<|sv W<|sv W<|sv W<|A1<|B2 ?_;cases h;exact A8 (.inr W) (Jy (B3 W) (B3 W) C2 C2) (.refl _)
def Z9 [Lp](p1:Curve)(x1:(Int×CurveVector)):Option (Stp (Int×CurveVector) (Sum Unit Int)):=
  cond (decide (x1.1< (E5 ((p1.Pts.length:Int) - 1)))) ((C4 p1.Pts x1.1).bind fun v2=>(C4 p1.Pts (E5 (x1.1+1))).bind fun v3=>(Qg v2 v3).bind fun v4=>(Cc v4 v4).bind fun v5=>(Gw v5).bind fun v6=>cond (!v6.2) (some (.out (.inr 3))) (cond ((decide (v6.1<1000))||(decide (v6.1>1048576))) (some (.out (.inr 2))) (((cond (decide (x1.1>0)) (Cc x1.2 v4) (some default))).bind fun v7=>cond ((decide (x1.1>0))&& (decide (v7≤0))) (some (.out (.inr 12))) (some (.go ((E5 (x1.1+1)),v4)))))) (some (.out (.inl ())))
def Ga [Lp](p1:Curve):Option Int:=
  cond (decide ((p1.Pts.length:Int)<2)) (some 6) (cond (decide ((p1.Pts.length:Int)>16)) (some 5) ((Ld p1.Pts).bind fun v1=>cond (!v1) (some 2) (thenS (loop (Z9 p1) (0,(CurveVector.mk 0 0))) (fun _=>some 0) (fun r=>some r))))
theorem BS(p1 r)(h:Ga p1=some r):PCall prog 198 [(.agg [(.list (List.map Dd p1.Pts))])] (i64 r):=by
 refine C6 (fk func198 ntmps198 m0 (by with_unfolding_all rfl)) (nl W) ?_;unfold Ga at h;refine B6 (s0:=⟨T [(0,(.d _))],G []⟩) (F0 W W) ?_;refine lr<|fun u1 _=>sm W<|sv W<|A1<|A6<|A7<|B1<|sq W<|sl W A2 W<|sd W (D5 W)<|sv W<|sv W<|A1<|cc W h (fun c1 h=> ?_)<|fun c1 h=> ?_;refine B1<|sv W<|A1<|B2 ?_;cases h;exact A8 (.inr W) (B8 (B3 W) C2) (.refl _);refine B1<|sq W<|sl W A2 W<|sd W (D5 W)<|sv W<|sv W<|A1<|cc W h (fun c2 h=> ?_)<|fun c2 h=> ?_;refine B1<|sv W<|A1<|B2 ?_;cases h;exact A8 (.inr W) (B8 (B3 W) C2) (.refl _);refine B1<|sq W<|sl W A2 W<|bs h fun v1 hv1 h=>B4 W W A4 (QF _ _ hv1) (.inl W) (B9 (.d (bo (!v1))) W W (sv W<|A1<|cc W h (fun c3 h=> ?_)<|fun c3 h=> ?_));refine B1<|sv W<|A1<|B2 ?_;cases h;exact A8 (.inr W) (B8 (B3 W) C2) (.refl _);refine A9<|E1<|lr<|fun u8 _=>sm W<|A1<|A6<|B1<|sq W<|sl W (gq W) W (sd W (D5 W)<|sv W<|sv W<|A1<|js h fun z1 hz1 h=>D4 (fun s=> ∃(y1:Unit) (g1:Unit),z1= .inl y1∧Sb ⟨T [],G []⟩ s) ?_ ?_);refine A7<|D8 (Z9 p1) (fun (x1:(Int×CurveVector)) (g2:Unit)=>⟨T [(1,(.ptr (1,u1) 0)),(3,(.ptr (3,u8) 0)),(26,(di<|E5 ((p1.Pts.length:Int) - 1))),(27,(di x1.1))],G [((1,u1),some<|.box 61 [(dl Dd p1.Pts)]),((3,u8),some<|.box 253 [(di x1.2.x),(di x1.2.y)])]⟩) (0,(CurveVector.mk 0 0)) () _ hz1 (F0 W W) ?_;intro x1 g2 z2 hz2 ez2;unfold Z9 at hz2;refine B1<|sv W<|A1<|A6<|cc W hz2 (fun c4 hz2=> ?_)<|fun c4 hz2=> ?_;refine A9<|A6<|A7<|B1<|sv W<|sv W<|A1<|A6<|E9 W<|sq W<|sl W A2 W<|sv W<|bs hz2 fun _ hv2 hz2=>sd W (C9 W W hv2 W)<|sd W (D7 W hv2 W W)<|sq W<|sl W A2 W<|sv W<|sv W<|bs hz2 fun _ hv3 hz2=>sd W (C9 W W hv3 W)<|sd W (D7 W hv3 W W)<|bs hz2 fun v4 hv4 hz2=>B4 W W A4 (EB _ _ _ hv4) (.inl W) (sm W<|T1 W A2 [(di v4.x),(di v4.y)] W (A1<|B1<|sd W (B5 W A2 W W)<|sd W (B5 W A2 W W)<|bs hz2 fun _ hv5 hz2=>B4 W W A4 (Mn _ _ _ hv5) (.inl W) (bs hz2 fun v6 hv6 hz2=>B4 W W A4 (EC _ _ hv6) (.inl W) (sv W<|sv W<|sv W<|sv W<|sv W<|A1<|A6<|A7<|B1<|sv W<|B9 (.d (bo (!v6.2))) W W (sv W<|A1<|cc W hz2 (fun c5 hz2=> ?_)<|fun c5 hz2=> ?_)))));refine B1<|sv W<|A1<|B2 ?_;cases hz2;obtain rfl:=ez2 _ rfl;refine ⟨nofun,F4 ?_⟩;rw [wE]at h;cases h;exact A8 (.inr W) (B8 (B3 W) C2) (.refl _);refine B1<|sv W<|sv W<|sv W<|gf W (fun _=>W)<|gf W (vb W W W)<|sd W (P1 W W<|fun hc=>A3<|J9 hc)<|sv W<|A1<|cc W hz2 (fun c6 hz2=> ?_)<|fun c6 hz2=> ?_;refine B1<|sv W<|A1<|B2 ?_;cases hz2;obtain rfl:=ez2 _ rfl;refine ⟨nofun,F4 ?_⟩;rw [wE]at h;cases h;exact A8 (.inr W) (B8 (B3 W) C2) (.refl _);refine B1<|sv W<|sv W<|sv W<|gt W (fun _=>(B5 W (gq W) W W))<|gt W (fun _=>(B5 W A2 W W))<|bs hz2 fun v7 hv7 hz2=> ?_;refine N7 _ (i64 v7) (L9 W) (fun w5=>⟨_,[(.d (.agg [(i64 x1.2.x),(i64 x1.2.y)])),(.d (.agg [(i64 v4.x),(i64 v4.y)]))],_,_,(by simp only [A3 w5];rfl),W,A4,Mn _ _ _<|C1 w5 hv7,(.inl W)⟩) ?_;refine gt W (vb W W W)<|sa W W W<|sv W<|A1<|cc W hz2 (fun c7 hz2=> ?_)<|fun c7 hz2=> ?_;refine B1<|sv W<|A1<|B2 ?_;cases hz2;obtain rfl:=ez2 _ rfl;refine ⟨nofun,F4 ?_⟩;rw [wE]at h;cases h;exact A8 (.inr W) (B8 (B3 W) C2) (.refl _);refine A9<|E1<|C0<|sd W (B5 W A2 W W)<|T1 W (gq W) [(di v4.x),(di v4.y)] W (A1<|E1<|C0<|sv W<|sv W<|A1<|E3 ?_);cases hz2;exact ⟨W,(),(F0 W W)⟩;refine C7 W ?_;cases hz2;obtain rfl:=ez2 _ rfl;refine ⟨nofun,C5 W<|T4 ?_⟩;exact ⟨_,(),W,(F0 W W)⟩;rintro _ ⟨y1,g1,rfl,q1⟩;rw [wC]at h;refine B6 q1<|B1<|sv W<|A1<|B2 ?_;cases h;exact A8 (.inr W) (B8 (B3 W) C2) (.refl _)
def Dk (p1:(List Int))(p3:Int)(x1:(Int×Int)):Option (Stp (Int×Int) (Sum Unit Bool)):=
  cond (decide (x1.2< (p1.length:Int))) ((C4 p1 x1.2).bind fun v1=>cond ((decide (v1<x1.1))||(decide (v1≥p3))) (some (.out (.inr false))) (some (.go ((E5 (v1+1)),(E5 (x1.2+1)))))) (some (.out (.inl ())))
def Cl [Lp](p1:(List Int))(p2:Int)(p3:Int):Option Bool:=
  thenS (loop (Dk p1 p3) (p2,0)) (fun _=>some true) (fun r=>some r)
theorem Sg(p1 p2 p3 r)(h:Cl p1 p2 p3=some r):PCall prog 210 [(.list (List.map A5 p1)),(i64 p2),(i64 p3)] (bo r):=by
 refine C6 (fk func210 ntmps210 m0 (by with_unfolding_all rfl)) (nl W) ?_;unfold Cl at h;refine B6 (s0:=⟨T [(0,(.d _)),(1,(.d _)),(2,(.d _))],G []⟩) (F0 W W) ?_;refine B1<|sv W<|A1<|A6<|B1<|sv W<|sd W (D5 W)<|sv W<|A1<|js h fun z1 hz1 h=>D4 (fun s=> ∃(y1:Unit) (g1:Unit),z1= .inl y1∧Sb ⟨T [],G []⟩ s) ?_ ?_;refine A7<|D8 (Dk p1 p3) (fun (x1:(Int×Int)) (g2:Unit)=>⟨T [(1,(di x1.1)),(2,(di p3)),(9,(dl A5 p1)),(10,(di (p1.length:Int))),(11,(di x1.2))],G []⟩) (p2,0) () _ hz1 (F0 W W) ?_;intro x1 g2 z2 hz2 ez2;unfold Dk at hz2;refine B1<|sv W<|A1<|A6<|cc W hz2 (fun c1 hz2=> ?_)<|fun c1 hz2=> ?_;refine A9<|A6<|A7<|B1<|bs hz2 fun _ hv1 hz2=>sd W (C9 W W hv1 W)<|sd W (D2 W hv1 W)<|sv W<|A1<|A6<|B1<|sv W<|sv W<|sv W<|sv W<|gf W (fun _=>W)<|gf W (fun _=>W)<|gf W (fun w3=>(N2 (A3 w3) (A3 w3) W))<|sd W (P1 W W<|fun hc=>A3<|J9 hc)<|A1<|cc W hz2 (fun c2 hz2=> ?_)<|fun c2 hz2=> ?_;refine B1<|sv W<|A1<|B2 ?_;cases hz2;obtain rfl:=ez2 _ rfl;refine ⟨nofun,F4 ?_⟩;rw [wE]at h;cases h;exact A8 (.inr W) (B8 (B3 W) C2) (.refl _);refine A9<|C0<|sv W<|sv W<|sv W<|A1<|E1<|C0<|sv W<|sv W<|A1<|E3 ?_;cases hz2;exact ⟨W,(),(F0 W W)⟩;refine C7 W ?_;cases hz2;obtain rfl:=ez2 _ rfl;refine ⟨nofun,C5 W<|T4 ?_⟩;exact ⟨_,(),W,(F0 W W)⟩;rintro _ ⟨y1,g1,rfl,q1⟩;rw [wC]at h;refine B6 q1<|B1<|sv W<|A1<|B2 ?_;cases h;exact A8 (.inr W) (B8 (B3 W) C2) (.refl _)
def S6 [Lp](p1:RoadsCheck)(x1:Int):Option (Stp Int (Sum Unit Int)):=
  cond (decide (x1< (p1.Map_.Lanes.length:Int))) ((C4 p1.Map_.Lanes x1).bind fun v1=>(Fz v1.Kind).bind fun v2=>cond (v2.1==0) (some (.out (.inr 4))) ((Ga v1.Curve_).bind fun v3=>cond (v3 !=0) (some (.out (.inr v3))) ((Dv v1.Half 200 4000).bind fun v4=>((cond (!(!v4)) (Dv v1.Limit 1 v2.1) (some default))).bind fun v5=>cond ((!v4)||(!v5)) (some (.out (.inr 2))) (cond (decide ((v1.Next.length:Int)>3)) (some (.out (.inr 8))) ((Cl v1.Next (E5 (x1+1)) (p1.Map_.Lanes.length:Int)).bind fun v6=>cond (!v6) (some (.out (.inr 11))) (some (.go (E5 (x1+1))))))))) (some (.out (.inl ())))
def W5 [Lp](p1:RoadsCheck):Option Int:=
  thenS (loop (S6 p1) 0) (fun _=>some 0) (fun r=>some r)
theorem BT(p1 r)(h:W5 p1=some r):PCall prog 149 [(.agg (R6 p1.Map_))] (i64 r):=by
 refine C6 (fk func149 ntmps149 m0 (by with_unfolding_all rfl)) (nl W) ?_;unfold W5 at h;refine B6 (s0:=⟨T [(0,(.d _))],G []⟩) (F0 W W) ?_;refine lr<|fun u1 _=>sm W<|sv W<|A1<|A6<|B1<|sq W<|sp W W<|sl W A2 W<|sd W (D5 W)<|sv W<|A1<|js h fun z1 hz1 h=>D4 (fun s=> ∃(y1:Unit) (g1:Unit),z1= .inl y1∧Sb ⟨T [],G []⟩ s) ?_ ?_;refine A7<|D8 (S6 p1) (fun (x1:Int) (g2:Unit)=>⟨T [(1,(.ptr (1,u1) 0)),(11,(dl Hp p1.Map_.Lanes)),(12,(di (p1.Map_.Lanes.length:Int))),(13,(di x1))],G [((1,u1),some<|.box 212 (M7 p1.Map_))]⟩) 0 () _ hz1 (F0 W W) ?_;intro x1 g2 z2 hz2 ez2;unfold S6 at hz2;refine B1<|sv W<|A1<|A6<|cc W hz2 (fun c1 hz2=> ?_)<|fun c1 hz2=> ?_;refine A9<|A6<|A7<|B1<|sv W<|bs hz2 fun v1 hv1 hz2=>sd W (C9 W W hv1 W)<|sd W (D7 W hv1 W W)<|sm W<|sv W<|T1 W A2 (HH v1) W (A1<|B1<|sq W<|sl W A2 W<|bs hz2 fun v2 hv2 hz2=>B4 W W A4 (Nb _ _ hv2) (.inl W) (sv W<|sv W<|sv W<|sv W<|sv W<|sv W<|sv W<|A1<|A6<|B1<|sv W<|sv W<|A1<|cc W hz2 (fun c2 hz2=> ?_)<|fun c2 hz2=> ?_));refine B1<|sv W<|A1<|B2 ?_;cases hz2;obtain rfl:=ez2 _ rfl;refine ⟨nofun,F4 ?_⟩;rw [wE]at h;cases h;exact A8 (.inr W) (B8 (B3 W) C2) (.refl _);refine A9<|A6<|B1<|sq W<|sd W (B5 W A2 W W)<|bs hz2 fun _ hv3 hz2=>B4 W W A4 (BS _ _ hv3) (.inl W) (sv W<|A1<|B1<|sv W<|sv W<|A1<|cc W hz2 (fun c3 hz2=> ?_)<|fun c3 hz2=> ?_);refine B1<|sv W<|sv W<|A1<|B2 ?_;cases hz2;obtain rfl:=ez2 _ rfl;refine ⟨nofun,F4 ?_⟩;rw [wE]at h;cases h;exact A8 (.inr W) (B8 (B3 W) C2) (.refl _);refine A9<|A7<|B1<|sq W<|sl W A2 W<|bs hz2 fun v4 hv4 hz2=>B4 W W A4 (Fu _ _ _ _ hv4) (.inl W) (B9 (.d (bo (!v4))) W W (sv W<|gp W (L3 W) (fun _=>W) (gf W (vl W A2 W)<|gf W (fun _=>W)<|bs hz2 fun v5 hv5 hz2=> ?_)));refine N7 _ (bo v5) (L3 W) (fun w4=>⟨_,[(di v1.Limit),(di 1),(di v2.1)],_,_,(by simp only [A3 w4];rfl),W,A4,Fu _ _ _ _<|C1 w4 hv5,(.inl W)⟩) ?_;refine M9 _ (.d (bo (!v5))) W (L3 W) (fun w5=>(by simp only [A3 w5];rfl)) ?_;refine sd W (P1 W W<|fun hc=>A3<|J9 hc)<|sv W<|A1<|cc W hz2 (fun c4 hz2=> ?_)<|fun c4 hz2=> ?_;refine B1<|sv W<|A1<|B2 ?_;cases hz2;obtain rfl:=ez2 _ rfl;refine ⟨nofun,F4 ?_⟩;rw [wE]at h;cases h;exact A8 (.inr W) (B8 (B3 W) C2) (.refl _);refine B1<|sq W<|sl W A2 W<|sd W (D5 W)<|sv W<|sv W<|A1<|cc W hz2 (fun c5 hz2=> ?_)<|fun c5 hz2=> ?_;refine B1<|sv W<|A1<|B2 ?_;cases hz2;obtain rfl:=ez2 _ rfl;refine ⟨nofun,F4 ?_⟩;rw [wE]at h;cases h;exact A8 (.inr W) (B8 (B3 W) C2) (.refl _);refine B1<|sq W<|sl W A2 W<|sv W<|sv W<|sq W<|sp W W<|sl W (gq W) W (sd W (D5 W)<|bs hz2 fun v6 hv6 hz2=>B4 W W A4 (Sg _ _ _ _ hv6) (.inl W) (B9 (.d (bo (!v6))) W W (sv W<|A1<|cc W hz2 (fun c6 hz2=> ?_)<|fun c6 hz2=> ?_)));refine B1<|sv W<|A1<|B2 ?_;cases hz2;obtain rfl:=ez2 _ rfl;refine ⟨nofun,F4 ?_⟩;rw [wE]at h;cases h;exact A8 (.inr W) (B8 (B3 W) C2) (.refl _);refine A9<|E1<|E1<|C0<|sv W<|sv W<|A1<|E3 ?_;cases hz2;exact ⟨W,(),(F0 W W)⟩;refine C7 W ?_;cases hz2;obtain rfl:=ez2 _ rfl;refine ⟨nofun,C5 W<|T4 ?_⟩;exact ⟨_,(),W,(F0 W W)⟩;rintro _ ⟨y1,g1,rfl,q1⟩;rw [wC]at h;refine B6 q1<|B1<|sv W<|A1<|B2 ?_;cases h;exact A8 (.inr W) (B8 (B3 W) C2) (.refl _)
def Z6 (p1:RoadsCheck)(v1:Lane)(v2:Spot)(x2:Int):Option (Stp Int (Sum Unit Int)):=
  cond (decide (x2< (v1.Next.length:Int))) ((C4 v1.Next x2).bind fun v3=>(C4 p1.Map_.Lanes v3).bind fun v4=>cond (v4.Kind !=v1.Kind) (some (.out (.inr 4))) ((C4 p1.Map_.Lanes v3).bind fun v5=>(C4 v5.Curve_.Pts 0).bind fun v6=>cond (!(v6.X==v2.X&& (v6.Y==v2.Y&&true))) (some (.out (.inr 3))) (some (.go (E5 (x2+1)))))) (some (.out (.inl ())))
def R0 [Lp](p1:RoadsCheck)(x1:Int):Option (Stp Int (Sum Unit Int)):=
  cond (decide (x1< (p1.Map_.Lanes.length:Int))) ((C4 p1.Map_.Lanes x1).bind fun v1=>(C4 v1.Curve_.Pts (E5 ((v1.Curve_.Pts.length:Int) - 1))).bind fun v2=>thenS (loop (Z6 p1 v1 v2) 0) (fun _=>some (.go (E5 (x1+1)))) (fun r=>some (.out (.inr r)))) (some (.out (.inl ())))
def V4 [Lp](p1:RoadsCheck):Option Int:=
  thenS (loop (R0 p1) 0) (fun _=>some 0) (fun r=>some r)
theorem AI(p1 r)(h:V4 p1=some r):PCall prog 150 [(.agg (R6 p1.Map_))] (i64 r):=by
 refine C6 (fk func150 ntmps150 m0 (by with_unfolding_all rfl)) (nl W) ?_;unfold V4 at h;refine B6 (s0:=⟨T [(0,(.d _))],G []⟩) (F0 W W) ?_;refine lr<|fun u1 _=>sm W<|sv W<|A1<|A6<|B1<|sq W<|sp W W<|sl W A2 W<|sd W (D5 W)<|sv W<|A1<|js h fun z1 hz1 h=>D4 (fun s=> ∃(y1:Unit) (g1:Unit),z1= .inl y1∧Sb ⟨T [],G []⟩ s) ?_ ?_;refine A7<|D8 (R0 p1) (fun (x1:Int) (g2:Unit)=>⟨T [(1,(.ptr (1,u1) 0)),(10,(dl Hp p1.Map_.Lanes)),(11,(di (p1.Map_.Lanes.length:Int))),(12,(di x1))],G [((1,u1),some<|.box 212 (M7 p1.Map_))]⟩) 0 () _ hz1 (F0 W W) ?_;intro x1 g2 z2 hz2 ez2;unfold R0 at hz2;refine B1<|sv W<|A1<|A6<|cc W hz2 (fun c1 hz2=> ?_)<|fun c1 hz2=> ?_;refine A9<|A6<|A7<|lr<|fun u4 _=>bs hz2 fun v1 hv1 hz2=>sd W (C9 W W hv1 W)<|sd W (D7 W hv1 W W)<|sm W<|T1 W A2 (HH v1) W (A1<|lr<|fun u5 _=>sq W<|sq W<|sl W A2 W<|sq W<|sp W W<|sl W A2 W<|sd W (D5 W)<|sv W<|bs hz2 fun v2 hv2 hz2=>sd W (C9 W W hv2 W)<|sd W (D7 W hv2 W W)<|sm W<|T1 W A2 [(di v2.X),(di v2.Y)] W (A1<|B1<|sq W<|sl W (gq W) W (sd W (D5 W)<|sv W<|A1<|js hz2 fun z3 hz3 hz2=>D4 (fun s=> ∃(y2:Unit) (g3:Unit),z3= .inl y2∧Sb ⟨T [(1,(.ptr (1,u1) 0)),(10,(dl Hp p1.Map_.Lanes)),(11,(di (p1.Map_.Lanes.length:Int))),(12,(di x1))],G [((1,u1),some<|.box 212 (M7 p1.Map_))]⟩ s) ?_ ?_)));refine A7<|D8 (Z6 p1 v1 v2) (fun (x2:Int) (g4:Unit)=>⟨T [(1,(.ptr (1,u1) 0)),(4,(.ptr (4,u4) 0)),(5,(.ptr (5,u5) 0)),(10,(dl Hp p1.Map_.Lanes)),(11,(di (p1.Map_.Lanes.length:Int))),(12,(di x1)),(27,(dl A5 v1.Next)),(28,(di (v1.Next.length:Int))),(29,(di x2))],G [((1,u1),some<|.box 212 (M7 p1.Map_)),((4,u4),some<|.box 63 (HH v1)),((5,u5),some<|.box 104 [(di v2.X),(di v2.Y)])]⟩) 0 () _ hz3 (F0 W W) ?_;intro x2 g4 z4 hz4 ez4;unfold Z6 at hz4;refine B1<|sv W<|A1<|A6<|cc W hz4 (fun c2 hz4=> ?_)<|fun c2 hz4=> ?_;refine A9<|A6<|A7<|B1<|bs hz4 fun _ hv3 hz4=>sd W (C9 W W hv3 W)<|sd W (D2 W hv3 W)<|sv W<|A1<|A6<|A6<|E9 W<|sq W<|sq W<|sl W A2 W<|sv W<|bs hz4 fun _ hv4 hz4=>sd W (C9 W W hv4 W)<|sv W<|sd W (D2 W hv4 W)<|sq W<|sl W (gq W) W (sv W<|A1<|cc W hz4 (fun c3 hz4=> ?_)<|fun c3 hz4=> ?_);refine B1<|sv W<|A1<|B2 ?_;cases hz4;obtain rfl:=ez4 _ rfl;refine ⟨nofun,F4 ?_⟩;rw [wE]at hz2;cases hz2;obtain rfl:=ez2 _ rfl;refine ⟨nofun,F4 ?_⟩;rw [wE]at h;cases h;exact A8 (.inr W) (B8 (B3 W) C2) (.refl _);refine A9<|A6<|E9 W<|sq W<|sq W<|sl W A2 W<|sv W<|bs hz4 fun _ hv5 hz4=>sd W (C9 W W hv5 W)<|sv W<|sv W<|sd W (D2 W hv5 W)<|bs hz4 fun v6 hv6 hz4=>sd W (C9 W W hv6 W)<|sd W (D7 W hv6 W W)<|sd W (B5 W (gq W) W W)<|B9 (.d (bo (!(v6.X==v2.X&& (v6.Y==v2.Y&&true))))) W W (A1<|cc W hz4 (fun c4 hz4=> ?_)<|fun c4 hz4=> ?_);refine B1<|sv W<|A1<|B2 ?_;cases hz4;obtain rfl:=ez4 _ rfl;refine ⟨nofun,F4 ?_⟩;rw [wE]at hz2;cases hz2;obtain rfl:=ez2 _ rfl;refine ⟨nofun,F4 ?_⟩;rw [wE]at h;cases h;exact A8 (.inr W) (B8 (B3 W) C2) (.refl _);refine A9<|E1<|C0<|sv W<|sv W<|A1<|E3 ?_;cases hz4;exact ⟨W,(),(F0 W W)⟩;refine C7 W ?_;cases hz4;obtain rfl:=ez4 _ rfl;refine ⟨nofun,C5 W<|T4 ?_⟩;exact ⟨_,(),W,(F0 W W)⟩;rintro _ ⟨y2,g3,rfl,q1⟩;rw [wC]at hz2;refine E1<|B6 q1<|C0<|sv W<|sv W<|A1<|E3 ?_;cases hz2;exact ⟨W,(),(F0 W W)⟩;refine C7 W ?_;cases hz2;obtain rfl:=ez2 _ rfl;refine ⟨nofun,C5 W<|T4 ?_⟩;exact ⟨_,(),W,(F0 W W)⟩;rintro _ ⟨y1,g1,rfl,q2⟩;rw [wC]at h;refine B6 q2<|B1<|sv W<|A1<|B2 ?_;cases h;exact A8 (.inr W) (B8 (B3 W) C2) (.refl _)
def Fg (p1:Phase):Option Bool:=
  (Dv p1.Ticks 1 10000).bind fun v1=>some (!v1)
theorem Wo(p1 r)(h:Fg p1=some r):PCall prog 212 [(.agg [(i64 p1.Ticks),(.list (List.map A5 p1.Green))])] (bo r):=by
 refine C6 (fk func212 ntmps212 m0 (by with_unfolding_all rfl)) (nl W) ?_;unfold Fg at h;refine B6 (s0:=⟨T [(0,(.d _))],G []⟩) (F0 W W) ?_;refine B1<|sm W<|sv W<|A1<|B1<|sq W<|sl W A2 W<|bs h fun v1 hv1 h=>B4 W W A4 (Fu _ _ _ _ hv1) (.inl W) (B9 (.d (bo (!v1))) W W (sv W<|A1<|B2 ?_));cases h;exact A8 (.inr W) (B8 (B3 W) C2) (.refl _)
def K7 (p1:(List Phase))(x1:Int):Option (Stp Int (Sum Unit Int)):=
  cond (decide (x1< (p1.length:Int))) ((C4 p1 x1).bind fun v1=>(Fg v1).bind fun v2=>cond v2 (some (.out (.inr x1))) (some (.go (E5 (x1+1))))) (some (.out (.inl ())))
def H8 [Lp](p1:(List Phase)):Option Int:=
  thenS (loop (K7 p1) 0) (fun _=>some (-1)) (fun r=>some r)
theorem Du(p1 r)(h:H8 p1=some r):PCall prog 243 [(.list (List.map Cb p1)),(.fn (.func 212) [] [])] (i64 r):=by
 refine C6 (fk func243 ntmps243 m0 (by with_unfolding_all rfl)) (nl W) ?_;unfold H8 at h;refine B6 (s0:=⟨T [(0,(.d _)),(1,(.d _))],G []⟩) (F0 W W) ?_;refine B1<|sv W<|A1<|A6<|B1<|sv W<|sd W (D5 W)<|sv W<|A1<|js h fun z1 hz1 h=>D4 (fun s=> ∃(y1:Unit) (g1:Unit),z1= .inl y1∧Sb ⟨T [],G []⟩ s) ?_ ?_;refine A7<|D8 (K7 p1) (fun (x1:Int) (g2:Unit)=>⟨T [(0,(dl Cb p1)),(1,(.d (.fn (.func 212) [] []))),(7,(di (p1.length:Int))),(8,(di x1))],G []⟩) 0 () _ hz1 (F0 W W) ?_;intro x1 g2 z2 hz2 ez2;unfold K7 at hz2;refine B1<|sv W<|A1<|A6<|cc W hz2 (fun c1 hz2=> ?_)<|fun c1 hz2=> ?_;refine A9<|A6<|A7<|B1<|sv W<|sv W<|A1<|B1<|sv W<|sv W<|sv W<|bs hz2 fun _ hv1 hz2=>sd W (C9 W W hv1 W)<|sd W (D7 W hv1 W W)<|bs hz2 fun _ hv2 hz2=>B4 W W A4 (Wo _ _ hv2) (.inl W) (A1<|cc W hz2 (fun c2 hz2=> ?_)<|fun c2 hz2=> ?_);refine B1<|sv W<|sv W<|A1<|B2 ?_;cases hz2;obtain rfl:=ez2 _ rfl;refine ⟨nofun,F4 ?_⟩;rw [wE]at h;cases h;exact A8 (.inr W) (B8 (B3 W) C2) (.refl _);refine A9<|E1<|C0<|sv W<|sv W<|A1<|E3 ?_;cases hz2;exact ⟨W,(),(F0 W W)⟩;refine C7 W ?_;cases hz2;obtain rfl:=ez2 _ rfl;refine ⟨nofun,C5 W<|T4 ?_⟩;exact ⟨_,(),W,(F0 W W)⟩;rintro _ ⟨y1,g1,rfl,q1⟩;rw [wC]at h;refine B6 q1<|B1<|sv W<|A1<|B2 ?_;cases h;exact A8 (.inr W) (B8 (B3 W) C2) (.refl _)
def F5 [Lp](p1:(List Phase)):Option Bool:=
  (H8 p1).bind fun v1=>some (decide (v1≥0))
theorem Cv(p1 r)(h:F5 p1=some r):PCall prog 211 [(.list (List.map Cb p1)),(.fn (.func 212) [] [])] (bo r):=by
 refine C6 (fk func211 ntmps211 m0 (by with_unfolding_all rfl)) (nl W) ?_;unfold F5 at h;refine B6 (s0:=⟨T [(0,(.d _)),(1,(.d _))],G []⟩) (F0 W W) ?_;refine B1<|sv W<|A1<|B1<|sv W<|sv W<|bs h fun _ hv1 h=>B4 W W A4 (Du _ _ hv1) (.inl W) (sv W<|sv W<|A1<|B2 ?_);cases h;exact A8 (.inr W) (B8 (B3 W) C2) (.refl _)
def U7 [Lp](p1:Phase)(p2:RoadsCheck):Option Bool:=
  (Cl p1.Green 0 (p2.Map_.Lanes.length:Int)).bind fun v1=>some (!v1)
theorem Uh(p1 p2 r)(h:U7 p1 p2=some r):PCall prog 213 [(.agg [(i64 p1.Ticks),(.list (List.map A5 p1.Green))]),(.bp (R6 p2.Map_) 0)] (bo r):=by
 refine C6 (fk func213 ntmps213 m0 (by with_unfolding_all rfl)) (nl W) ?_;unfold U7 at h;refine B6 (s0:=⟨T [(0,(.d _)),(1,(.d _))],G []⟩) (F0 W W) ?_;refine B1<|sm W<|sv W<|A1<|B1<|sq W<|sl W A2 W<|sv W<|sv W<|sv W<|sd W (D5 W)<|bs h fun v1 hv1 h=>B4 W W A4 (Sg _ _ _ _ hv1) (.inl W) (B9 (.d (bo (!v1))) W W (sv W<|A1<|B2 ?_));cases h;exact A8 (.inr W) (B8 (B3 W) C2) (.refl _)
def F2 [Lp](p1:(List Phase))(p2:RoadsCheck)(x1:Int):Option (Stp Int (Sum Unit Int)):=
  cond (decide (x1< (p1.length:Int))) ((C4 p1 x1).bind fun v1=>(U7 v1 p2).bind fun v2=>cond v2 (some (.out (.inr x1))) (some (.go (E5 (x1+1))))) (some (.out (.inl ())))
def H6 [Lp](p1:(List Phase))(p2:RoadsCheck):Option Int:=
  thenS (loop (F2 p1 p2) 0) (fun _=>some (-1)) (fun r=>some r)
theorem Dl(p1 p2 r)(h:H6 p1 p2=some r):PCall prog 243 [(.list (List.map Cb p1)),(.fn (.func 213) [] [(.bp (R6 p2.Map_) 0)])] (i64 r):=by
 refine C6 (fk func243 ntmps243 m0 (by with_unfolding_all rfl)) (nl W) ?_;unfold H6 at h;refine B6 (s0:=⟨T [(0,(.d _)),(1,(.d _))],G []⟩) (F0 W W) ?_;refine B1<|sv W<|A1<|A6<|B1<|sv W<|sd W (D5 W)<|sv W<|A1<|js h fun z1 hz1 h=>D4 (fun s=> ∃(y1:Unit) (g1:Unit),z1= .inl y1∧Sb ⟨T [],G []⟩ s) ?_ ?_;refine A7<|D8 (F2 p1 p2) (fun (x1:Int) (g2:Unit)=>⟨T [(0,(dl Cb p1)),(1,(.d (.fn (.func 213) [] [(.bp (R6 p2.Map_) 0)]))),(7,(di (p1.length:Int))),(8,(di x1))],G []⟩) 0 () _ hz1 (F0 W W) ?_;intro x1 g2 z2 hz2 ez2;unfold F2 at hz2;refine B1<|sv W<|A1<|A6<|cc W hz2 (fun c1 hz2=> ?_)<|fun c1 hz2=> ?_;refine A9<|A6<|A7<|B1<|sv W<|sv W<|A1<|B1<|sv W<|sv W<|sv W<|bs hz2 fun _ hv1 hz2=>sd W (C9 W W hv1 W)<|sd W (D7 W hv1 W W)<|bs hz2 fun _ hv2 hz2=>B4 W W A4 (Uh _ _ _ hv2) (.inl W) (A1<|cc W hz2 (fun c2 hz2=> ?_)<|fun c2 hz2=> ?_);refine B1<|sv W<|sv W<|A1<|B2 ?_;cases hz2;obtain rfl:=ez2 _ rfl;refine ⟨nofun,F4 ?_⟩;rw [wE]at h;cases h;exact A8 (.inr W) (B8 (B3 W) C2) (.refl _);refine A9<|E1<|C0<|sv W<|sv W<|A1<|E3 ?_;cases hz2;exact ⟨W,(),(F0 W W)⟩;refine C7 W ?_;cases hz2;obtain rfl:=ez2 _ rfl;refine ⟨nofun,C5 W<|T4 ?_⟩;exact ⟨_,(),W,(F0 W W)⟩;rintro _ ⟨y1,g1,rfl,q1⟩;rw [wC]at h;refine B6 q1<|B1<|sv W<|A1<|B2 ?_;cases h;exact A8 (.inr W) (B8 (B3 W) C2) (.refl _)
def F3 [Lp](p1:(List Phase))(p2:RoadsCheck):Option Bool:=
  (H6 p1 p2).bind fun v1=>some (decide (v1≥0))
theorem Cm(p1 p2 r)(h:F3 p1 p2=some r):PCall prog 211 [(.list (List.map Cb p1)),(.fn (.func 213) [] [(.bp (R6 p2.Map_) 0)])] (bo r):=by
 refine C6 (fk func211 ntmps211 m0 (by with_unfolding_all rfl)) (nl W) ?_;unfold F3 at h;refine B6 (s0:=⟨T [(0,(.d _)),(1,(.d _))],G []⟩) (F0 W W) ?_;refine B1<|sv W<|A1<|B1<|sv W<|sv W<|bs h fun _ hv1 h=>B4 W W A4 (Dl _ _ _ hv1) (.inl W) (sv W<|sv W<|A1<|B2 ?_);cases h;exact A8 (.inr W) (B8 (B3 W) C2) (.refl _)
def Q5 [Lp](p1:RoadsCheck)(x1:Int):Option (Stp Int (Sum Unit Int)):=
  cond (decide (x1< (p1.Map_.Signals.length:Int))) ((C4 p1.Map_.Signals x1).bind fun v1=>cond ((v1.Phases.length:Int)==0) (some (.out (.inr 6))) (cond (decide ((v1.Phases.length:Int)>6)) (some (.out (.inr 8))) ((Dv v1.Offset 0 1099511627776).bind fun v2=>cond (!v2) (some (.out (.inr 2))) ((F5 v1.Phases).bind fun v3=>cond v3 (some (.out (.inr 2))) ((F3 v1.Phases p1).bind fun v4=>cond v4 (some (.out (.inr 11))) (some (.go (E5 (x1+1))))))))) (some (.out (.inl ())))
def U3 [Lp](p1:RoadsCheck):Option Int:=
  thenS (loop (Q5 p1) 0) (fun _=>some 0) (fun r=>some r)
theorem Ys(p1 r)(h:U3 p1=some r):PCall prog 151 [(.agg (R6 p1.Map_))] (i64 r):=by
 refine C6 (fk func151 ntmps151 m0 (by with_unfolding_all rfl)) (nl W) ?_;unfold U3 at h;refine B6 (s0:=⟨T [(0,(.d _))],G []⟩) (F0 W W) ?_;refine lr<|fun u1 _=>sm W<|sv W<|A1<|A6<|B1<|sq W<|sp W W<|sl W A2 W<|sd W (D5 W)<|sv W<|A1<|js h fun z1 hz1 h=>D4 (fun s=> ∃(y1:Unit) (g1:Unit),z1= .inl y1∧Sb ⟨T [],G []⟩ s) ?_ ?_;refine A7<|D8 (Q5 p1) (fun (x1:Int) (g2:Unit)=>⟨T [(1,(.ptr (1,u1) 0)),(8,(dl Oq p1.Map_.Signals)),(9,(di (p1.Map_.Signals.length:Int))),(10,(di x1))],G [((1,u1),some<|.box 212 (M7 p1.Map_))]⟩) 0 () _ hz1 (F0 W W) ?_;intro x1 g2 z2 hz2 ez2;unfold Q5 at hz2;refine B1<|sv W<|A1<|A6<|cc W hz2 (fun c1 hz2=> ?_)<|fun c1 hz2=> ?_;refine A9<|A6<|A7<|B1<|bs hz2 fun v1 hv1 hz2=>sd W (C9 W W hv1 W)<|sd W (D7 W hv1 W W)<|sm W<|T1 W A2 [(di v1.Offset),(dl Cb v1.Phases)] W (A1<|B1<|sq W<|sl W A2 W<|sd W (D5 W)<|sv W<|A1<|A7<|B1<|sv W<|sv W<|sv W<|A1<|cc W hz2 (fun c2 hz2=> ?_)<|fun c2 hz2=> ?_);refine B1<|sv W<|A1<|B2 ?_;cases hz2;obtain rfl:=ez2 _ rfl;refine ⟨nofun,F4 ?_⟩;rw [wE]at h;cases h;exact A8 (.inr W) (B8 (B3 W) C2) (.refl _);refine B1<|sv W<|sv W<|sv W<|A1<|cc W hz2 (fun c3 hz2=> ?_)<|fun c3 hz2=> ?_;refine B1<|sv W<|A1<|B2 ?_;cases hz2;obtain rfl:=ez2 _ rfl;refine ⟨nofun,F4 ?_⟩;rw [wE]at h;cases h;exact A8 (.inr W) (B8 (B3 W) C2) (.refl _);refine B1<|sq W<|sl W A2 W<|bs hz2 fun v2 hv2 hz2=>B4 W W A4 (Fu _ _ _ _ hv2) (.inl W) (B9 (.d (bo (!v2))) W W (sv W<|A1<|cc W hz2 (fun c4 hz2=> ?_)<|fun c4 hz2=> ?_));refine B1<|sv W<|A1<|B2 ?_;cases hz2;obtain rfl:=ez2 _ rfl;refine ⟨nofun,F4 ?_⟩;rw [wE]at h;cases h;exact A8 (.inr W) (B8 (B3 W) C2) (.refl _);refine B1<|sq W<|sl W A2 W<|bs hz2 fun _ hv3 hz2=>B4 W W A4 (Cv _ _ hv3) (.inl W) (sv W<|A1<|cc W hz2 (fun c5 hz2=> ?_)<|fun c5 hz2=> ?_);refine B1<|sv W<|A1<|B2 ?_;cases hz2;obtain rfl:=ez2 _ rfl;refine ⟨nofun,F4 ?_⟩;rw [wE]at h;cases h;exact A8 (.inr W) (B8 (B3 W) C2) (.refl _);refine B1<|sq W<|sl W A2 W<|B9 (.fn _ _ _) W W (bs hz2 fun _ hv4 hz2=>B4 W (rD<|E8 (DW F9<|E8 (Ca (gq W)<|rD<|rD<|rD<|rD<|rD F9) F9) F9) A4 (Cm _ _ _ hv4) (.inr W) (sv W<|A1<|cc W hz2 (fun c6 hz2=> ?_)<|fun c6 hz2=> ?_));refine B1<|sv W<|A1<|B2 ?_;cases hz2;obtain rfl:=ez2 _ rfl;refine ⟨nofun,F4 ?_⟩;rw [wE]at h;cases h;exact A8 (.inr W) (B8 (B3 W) C2) (.refl _);refine A9<|E1<|E1<|C0<|sv W<|sv W<|A1<|E3 ?_;cases hz2;exact ⟨W,(),(F0 W W)⟩;refine C7 W ?_;cases hz2;obtain rfl:=ez2 _ rfl;refine ⟨nofun,C5 W<|T4 ?_⟩;exact ⟨_,(),W,(F0 W W)⟩;rintro _ ⟨y1,g1,rfl,q1⟩;rw [wC]at h;refine B6 q1<|B1<|sv W<|A1<|B2 ?_;cases h;exact A8 (.inr W) (B8 (B3 W) C2) (.refl _)
def Wd:AC:=(.seq (.reg [oo 3 (.mv (ci 0))]) (.seq (.reg [oo 8 (.fieldA 0 (.t 1)),oo 9 (.load 1 false (.t 8)),oo 10 (.len (.t 9)),oo 11 (.bin .sub (.t 10) (ci 1)),oo 12 (.mv (ci 0))]) (.block 0 (.loop (.seq (.reg [oo 13 (.bin .lss (.t 12) (.t 11))]) (.seq (.cond (.t 13) .skip (.exit 0)) (.seq (.block 1 (.seq (.reg [oo 14 (.mv (.t 12)),oo 4 (.mv (.t 14))]) (.seq (.draw [oo 15 (.fieldA 0 (.t 1)),oo 16 (.load 1 false (.t 15)),oo 17 (.mv (.t 4)),oo 18 (.idxS 2 (.t 16) (.t 17)),oo 19 (.load 2 true (.t 18)),oo 20 (.fieldA 0 (.t 1)),oo 21 (.load 1 false (.t 20)),oo 22 (.mv (.t 4)),oo 23 (.bin .add (.t 22) (ci 1)),oo 24 (.idxS 2 (.t 21) (.t 23)),oo 25 (.load 2 true (.t 24)),oo 26 (.call (cf 238) [(.t 19),(.t 25)]),oo 5 (.alloc 253 [z0,z0]),oe (.store 2 (.t 5) (.t 26))] []) (.seq (.reg [oo 28 (.load 2 true (.t 5)),oo 29 (.load 2 true (.t 5)),oo 30 (.call (cf 240) [(.t 28),(.t 29)]),oo 31 (.call (cf 239) [(.t 30)]),oo 27 (.mv (.t 31)),oo 32 (.ext (.t 27) 0),oo 33 (.ext (.t 27) 1),oo 6 (.mv (.t 32)),oo 7 (.mv (.t 33))]) (.seq (.seq (.drawB [oo 34 (.mv (.t 0)),oo 35 (.mv (.t 4)),oo 36 (.fieldA 0 (.t 1)),oo 37 (.load 1 false (.t 36)),oo 38 (.mv (.t 4)),oo 39 (.idxS 2 (.t 37) (.t 38)),oo 40 (.load 2 true (.t 39)),oo 41 (.load 2 true (.t 5)),oo 42 (.mv (.t 6)),oo 43 (.mv (.t 3)),oo 44 (.build [z0,z0,z0,z0,z0,z0] [(0,2,(.t 40)),(2,2,(.t 41)),(4,1,(.t 42)),(5,1,(.t 43))]),oo 45 (.icall (.t 34) [(.t 35),(.t 44)]),oo 46 (.un .not (.t 45))] 11 []) (.cond (.t 46) .ret .skip)) (.reg [oo 47 (.mv (.t 3)),oo 48 (.mv (.t 6)),oo 49 (.bin .add (.t 47) (.t 48)),oo 3 (.mv (.t 49))])))))) (.reg [oo 50 (.bin .add (.t 12) (ci 1)),oo 12 (.mv (.t 50))]))))))))
theorem HI:FnOK prog 260 51 [] Wd:=⟨_,_,func260,rfl,ntmps260,by kernel_rfl,⟨fun r=>if r==6 then [11]else [],by kernel_rfl⟩,by kernel_rfl⟩
def Ka [Lp](pts:List Spot):Nat→Nat→Int→Option (List (Int×CurvePiece))
  |0,_,_=>some []
  |n+1,i,start=>(pts[i]?).bind fun p=>(pts[i+1]?).bind fun q=>(Qg p q).bind fun v=>(Cc v v).bind fun d=>(Gw d).bind fun r=>
   (Ka pts n (i+1) (E5 (start+r.1))).bind fun l=>some (((i:Int),CurvePiece.mk p v r.1 start)::l)
def We [Lp](pts:List Spot):Option (List (Int×CurvePiece)):=if pts.length≤1000000 then Ka pts (pts.length - 1) 0 0 else none
def Zw:AC:=(.seq (.reg [oo 1 (.box 61 true (.t 0)),oo 2 (.mv (.c (.v .nilFunc)))]) (.seq (.reg [oo 3 (.mkfn (.func 260) [] [(.t 1)]),oo 2 (.mv (.t 3))]) .ret))
theorem LC:FnOK prog 241 4 [.t 2] Zw:=⟨_,_,func241,rfl,ntmps241,by kernel_rfl,⟨fun _=> [],by kernel_rfl⟩,by kernel_rfl⟩
abbrev UH (a:Int×CurvePiece):List D:= [i64 a.1, .agg [i64 a.2.p.X,i64 a.2.p.Y,i64 a.2.v.x,i64 a.2.v.y,i64 a.2.l,i64 a.2.start]]
theorem XD (c:Curve):PCall prog 241 [.agg [.list (List.map Dd c.Pts)]] (.fn (.func 260) [] [.bp [.list (List.map Dd c.Pts)] 0]):=by
  refine kR LC (by simp) ?_;unfold Zw;refine Qa<|Ue fun _ _=> ?_;refine ZZ (.ptr _ _) _ W W ?_;refine G9 (.d _) W W ?_;refine Bz ?_;refine Qa<|Ue fun u' hu'=> ?_;refine G9 (.fn _ _ _) W W ?_;refine G9 (.fn _ _ _) W W ?_;refine Bz ?_;refine ZV ⟨.inr W,?_⟩;refine B8 (B3 (v:= .fn _ _ _) W) ?_;exact DW F9<|E8 (Ca (by simp only [Ag,if_true];rfl)<|E8 C2 F9) F9
theorem nB (ps:List Spot)(n:Int)(i:Nat)(p:Spot)(hn:n=i)(h:ps[i]? =some p):(List.map Dd ps)[n.toNat]? =some (Dd p):=by
  subst hn;rw [wF,lK,h];rfl
theorem aO {n:Int}(h: -9223372036854775808≤n∧n≤9223372036854775807):E5 n=n:=Go.IntWalk.i64_in n h
theorem LD (pts:List Spot): ∀n i s L,Ka pts n i s=some L→L.length=n:=by
  intro n
  induction n with
  |zero=>intro i s L h;cases h;rfl
  |succ n ih=>
   intro i s L h;rw [Ka]at h;obtain ⟨p,hp,h⟩:=bind_some h;obtain ⟨q,hq,h⟩:=bind_some h;obtain ⟨v,hv,h⟩:=bind_some h;obtain ⟨d,hd,h⟩:=bind_some h;obtain ⟨r,hr,h⟩:=bind_some h;obtain ⟨l,hl,h⟩:=bind_some h;cases h;rw [lL,ih _ _ _ hl]
theorem XE {pts:List Spot}{L:List (Int×CurvePiece)}(h:We pts=some L):mB prog (.fn (.func 260) [] [.bp [.list (List.map Dd pts)] 0]) (L.map UH):=by
  unfold We at h;split at h
  case isFalse=>cases h
  rename_i hlen;refine ⟨260,[],_,W,?_⟩;intro k h0 Inv Stop hi0 hy;refine NJ HI (by simp) ?_;unfold Wd;refine Qa<|Ue fun u hu=> ?_;refine G9 (.d _) W W ?_;refine Bz ?_;refine Qa<|Ue fun u hu=> ?_;refine G9 (.d _) W W ?_;refine G9 (.d _) W W ?_;refine G9 (.d (i64 pts.length)) W (D5 (f:=Dd) W) ?_;refine G9 (.d _) W W ?_;refine G9 (.d _) W W ?_;refine Bz ?_;refine NG ?_
  refine WH (α:=Nat×Int×E7) (fun x=>⟨T [(0, .yld k),(1, .d (.bp [.list (List.map Dd pts)] 0)),(3, .d (i64 x.2.1)),(11, .d (i64<|E5 (pts.length - 1))),(12, .d (i64 x.1))],x.2.2⟩) (fun x=>pts.length - x.1)
    (fun x=>Inv x.1 x.2.2∧x.1≤pts.length - 1∧Ka pts (pts.length - 1 - x.1) x.1 x.2.1=some (L.drop x.1)) (0,0,h0) ⟨hi0,by omega,h⟩ (BI ⟨rfl,rfl,rfl,rfl,rfl,trivial⟩ fun _ _ h=>h) ?_
  rintro ⟨i,start,hh⟩ ⟨hinv,hi,hgo⟩;dsimp only at hinv hi hgo ⊢;refine Qa<|Ue fun u hu=> ?_;refine G9 (.d _) W W ?_;refine Bz ?_;refine Qa ?_;refine kU W (fun hlt=> ?_)<|fun hlt=> ?_
  ·refine TQ ?_;have hlen1:E5 ((pts.length:Int) - 1)=pts.length - 1:=aO (by omega);rw [hlen1]at hlt;have hi1:i+1<pts.length:=by omega
   have hw1:IntKind.i64.wrap ((i:Int)+1)=(i:Int)+1:=aO (by omega);obtain ⟨m,hm⟩: ∃m,pts.length - 1 - i=m+1:=⟨pts.length - 1 - i - 1,by omega⟩;rw [hm,Ka]at hgo;obtain ⟨p,hp,hgo⟩:=bind_some hgo;obtain ⟨q,hq,hgo⟩:=bind_some hgo;obtain ⟨v,hv,hgo⟩:=bind_some hgo;obtain ⟨d,hd,hgo⟩:=bind_some hgo;obtain ⟨r,hr,hgo⟩:=bind_some hgo;obtain ⟨l,hl,hgo⟩:=bind_some hgo;have hgo:((i:Int),CurvePiece.mk p v r.1 start)::l=L.drop i:=lD hgo
   have hLi:L[i]? =some ((i:Int),CurvePiece.mk p v r.1 start):=by
     have:=congrArg (fun z=>z[0]?) hgo;simpa using this.symm
   have hLd:L.drop (i+1)=l:=by
     have:=congrArg (fun z=>z.drop 1) hgo;simpa using this.symm
   have hin: ∀(p:Spot) (n:Int) (j:Nat),n=j→pts[j]? =some p→(List.map Dd pts)[n.toNat]? =some (Dd p):=fun p n j=>nB pts n j p;refine Qa ?_;refine NG ?_;refine Qa<|Ue fun u hu=> ?_;refine G9 (.d _) W W ?_;refine G9 (.d _) W W ?_;refine Bz ?_;refine Qa<|dI W fun u hu=> ?_;refine G9 (.d _) W W ?_;refine G9 (.d _) W W ?_;refine G9 (.d _) W W ?_;refine aA _ _ _ _ W W (Int.natCast_nonneg i) (hin p _ i W hp) W ?_;refine IQ _ _ _ _ _ W (hin p _ i W hp) (by simp) W ?_;refine G9 (.d _) W W ?_;refine G9 (.d _) W W ?_;refine G9 (.d _) W W ?_;refine G9 (.d _) W W ?_;refine aA _ _ _ _ W W (by rw [hw1];omega) (hin q _ (i+1) (by rw [hw1];rfl) hq) W ?_;refine IQ _ _ _ _ _ W (hin q _ (i+1) (by rw [hw1];rfl) hq) (by simp) W ?_;refine DB W W (EB p q _ hv) (.inl W) ?_;refine ZZ (.ptr _ _) _ W W ?_;refine WK _ _ _ _ _ W W W (by simp only [Ag,if_true];rfl) (by simp) ?_;refine Bz ?_;refine Qa<|Ue fun u' hu'=> ?_;refine NL _ _ _ _ (.d (.agg [i64 v.x,i64 v.y])) W (by simp only [Ag,if_true];rfl) (by simp [Lw]) W ?_;refine NL _ _ _ _ (.d (.agg [i64 v.x,i64 v.y])) W (by simp only [Ag,if_true];rfl) (by simp [Lw]) W ?_;refine DB W W (Mn v v _ hd) (.inl W) ?_;refine DB W W (EC d _ hr) (.inl W) ?_;refine G9 (.d _) W W ?_;refine G9 (.d _) W W ?_;refine G9 (.d _) W W ?_;refine G9 (.d _) W W ?_;refine G9 (.d _) W W ?_;refine Bz ?_;refine Qa<|Qa ?_;refine WF W fun _ _=> ?_;simp only [List.take,List.drop];refine G9 (.yld _) W W ?_;refine G9 (.d _) W W ?_;refine G9 (.d _) W W ?_;refine G9 (.d _) W W ?_;refine G9 (.d _) W W ?_;refine aA _ _ _ _ W W (Int.natCast_nonneg i) (hin p _ i W hp) W ?_;refine IQ _ _ _ _ _ W (hin p _ i W hp) (by simp) W ?_;refine NL _ _ _ _ (.d (.agg [i64 v.x,i64 v.y])) W (by simp only [Ag,if_true];rfl) (by simp [Lw]) W ?_;refine G9 (.d _) W W ?_;refine G9 (.d _) W W ?_;refine G9 (.d _) W W ?_;refine Bz ?_;intro u3 hu3;refine kY k ((UH ((i:Int),CurvePiece.mk p v r.1 start)).map .d) W W ?_;refine YCall.weak (dJ hu<|dJ hu fun _ _ h=>h) ((hy i hh _ (by rw [lK,hLi];rfl) hinv).mono ?_);rintro v' h' (⟨rfl,hin⟩|⟨rfl,hst⟩)
   ·intro u4 hu4;refine G9 (.d _) W W ?_;refine Bz ?_;refine GU (t:=false) W (fun h=>by cases h) (fun _=> ?_);refine TQ ?_;refine Ue fun u hu=> ?_;refine G9 (.d _) W W ?_;refine G9 (.d _) W W ?_;refine G9 (.d _) W W ?_;refine G9 (.d _) W W ?_;refine Bz ?_;refine Ue fun u hu=> ?_;refine G9 (.d _) W W ?_;refine G9 (.d _) W W ?_;refine Bz ?_;refine ⟨(i+1,E5 (start+r.1),h'),⟨hin,by dsimp only;omega,?_⟩,by dsimp only;omega,BI ⟨rfl,rfl,rfl,rfl,?_,trivial⟩ fun _ _ h=>h⟩
    ·dsimp only;rw [hLd,show pts.length - 1 - (i+1)=m by omega];exact hl
    ·show AV.d (i64 (IntKind.i64.wrap ((i:Int)+1)))=_;rw [hw1];rfl
   ·intro u4 hu4;refine G9 (.d _) W W ?_;refine Bz ?_;refine GU (t:=true) W (fun _=> ?_) (fun h=>by cases h);refine ZV ?_;dsimp only;exact ⟨Or.inr trivial,AV.tup [],W,Or.inr hst⟩
  ·refine TR ?_;have hlen1:1≤pts.length→E5 ((pts.length:Int) - 1)=pts.length - 1:=fun _=>aO (by omega)
   have:i=pts.length - 1:=by
     by_cases h:1≤pts.length
     ·rw [hlen1 h]at hlt;omega
     ·omega
   subst this;rw [Nat.sub_self,Ka]at hgo
   have hL:(L.map UH).length=pts.length - 1:=by
     have h1:L.drop (pts.length - 1)= []:=(lD hgo).symm;have h2:=List.drop_eq_nil_iff.1 h1;rw [lS];refine Nat.le_antisymm h2 ?_;exact Nat.le_of_eq (LD _ _ _ _ _ h).symm
   exact ⟨.inl W,_,W, .inl (by rw [hL];exact hinv)⟩
def Fv (x1:(List Int))(a1:(Int×CurvePiece)):Option (Stp (List Int) (List Int)):=
  (X3 x1 [a1.2.l]).bind fun v3=>some (.go v3)
def Gb [Lp](p1:Curve):Option (List Int):=
  (Ga p1).bind fun v1=>cond (v1 !=0) (some []) (((We p1.Pts).bind fun v2=>loopL (Fv) (fun (x1:(List Int))=>x1) v2 []).bind fun y1=>some y1)
theorem LF(p1 r)(h:Gb p1=some r):PCall prog 261 [(.agg [(.list (List.map Dd p1.Pts))])] (.list (List.map A5 r)):=by
 refine C6 (fk func261 ntmps261 (fun r=>if r==6 then [1003]else []) (by with_unfolding_all rfl)) (nl W) ?_;unfold Gb at h;refine B6 (s0:=⟨T [(0,(.d _))],G []⟩) (F0 W W) ?_;refine B1<|sm W<|sv W<|A1<|A6<|B1<|sd W (B5 W A2 W W)<|bs h fun _ hv1 h=>B4 W W A4 (BS _ _ hv1) (.inl W) (sv W<|A1<|cc W h (fun c1 h=> ?_)<|fun c1 h=> ?_);refine B1<|sv W<|A1<|B2 ?_;cases h;exact A8 (.inr W) (B8 (B3 W) C2) DLe.nil;refine A9<|lr<|fun u4 _=>sm W<|A1<|A6<|B1<|sd W (B5 W (gq W) W W)<|B4 W W A4 (XD p1) (.inl W) (A1<|bs h fun y1 hy1 h=>D4 (fun s=> ∃g1:Nat,Sb ⟨T [(3,(.ptr (3,u4) 0))],G [((3,u4),some<|.box 48 [(oS y1 (17,g1))]),((17,g1),oB 2 1 A5 y1)]⟩ s) ?_ ?_);refine A7<|bs hy1 fun v2 hv2 hy1=>B6 (s0:=⟨T [(3,(.ptr _ _)),(10,(.d _))],G [((3,u4),some<|.box 48 _)]⟩) (F0 W W) ?_;refine mD (.fn (.func 260) [] [(.bp [(.list (List.map Dd p1.Pts))] 0)]) UH v2 (Fv) (fun (x1:(List Int))=>x1) (fun (x1:(List Int)) (g2:Nat)=> [((3,u4),some<|.box 48 [(oS x1 (17,g2))]),((17,g2),oB 2 1 A5 x1)]) [] 0 _ W (XE hv2) (fun _=>W) hy1 (D0 trivial<|B0 A2 (.of W)<|R7 trivial) nofun ?_ ?_;intro u7 hu7 hku7;refine ⟨fun x1 g2=>(C3 W<|C3 W W),?_⟩;intro r1 x1 g2 a1 z1 hrr1 hz1 ez1;unfold Fv at hz1;show Dj _ _ _ _ _ _ ⟨T [(12,(.d (.agg (XB a1.2)))),(11,(di a1.1)),(3,(.ptr (3,u4) 0)),(10,(.d (.fn (.func 260) [] [(.bp [(.list (List.map Dd p1.Pts))] 0)])))],G [((1000000,u7),some (.obj (T [(3,(.ptr (3,u4) 0)),(10,(.d (.fn (.func 260) [] [(.bp [(.list (List.map Dd p1.Pts))] 0)])))]) r1)),((3,u4),some (.box 48 [(oS x1 (17,g2))])),((17,g2),oB 2 1 A5 x1)]⟩;refine C0<|sm W<|T1 W A2 (XC a1.2) W (A1<|T4<|aH (gq W) ?_);refine A7<|Ae fun u9 _=>B9 (oS x1 (17,g2)) W (R3 W (gq W) W) (sq W<|sl W (gq W) W (B9 (dl A5 [a1.2.l]) W W (bs hz1 fun _ hv3 hz1=>O6 A5 (17,g2) x1 a1.2.l [] _ (J5<|fun _=>W) W (gq W) hv3 (T1 W (gq W) [(.sl (17,u9))] W (A1<|E1<|E3 ?_)))));cases hz1;exact mE (gq W) u9 (B0 A2 (.box (.cons (.of (T3<|S5 hv3).symm) .nil))<|M6 (gq W) trivial);rintro x1 g2 _ rfl qx1;refine E1<|T4 ?_;exact ⟨g2,(Sb.after qx1<|D0 ⟨.of W,trivial⟩<|B0 A2 (.of W)<|B7 (gq W) trivial)⟩;rintro _ ⟨g1,q1⟩;refine B6 q1<|B1<|B9 (oS y1 (17,g1)) W (R3 W A2 W) (B9 (oS y1 (17,g1)) W W (A1<|B2 ?_));cases h;exact A8 (.inr W) (B8 (B3 W)<|T9<|gq W) T8
def Bn (v1:(List Int))(x1:(Int×Int)):Option (Stp (Int×Int) Int):=
  cond (decide (x1.2< (v1.length:Int))) ((C4 v1 x1.2).bind fun v2=>some (.go ((E5 (x1.1+v2)),(E5 (x1.2+1))))) (some (.out x1.1))
def Dw [Lp](p1:Curve):Option Int:=
  (Gb p1).bind fun v1=>(loop (Bn v1) (0,0)).bind fun y1=>some y1
theorem LG(p1 r)(h:Dw p1=some r):PCall prog 242 [(.agg [(.list (List.map Dd p1.Pts))])] (i64 r):=by
 refine C6 (fk func242 ntmps242 m0 (by with_unfolding_all rfl)) (nl W) ?_;unfold Dw at h;refine B6 (s0:=⟨T [(0,(.d _))],G []⟩) (F0 W W) ?_;refine B1<|sm W<|sv W<|A1<|B1<|sv W<|A1<|A6<|B1<|sd W (B5 W A2 W W)<|bs h fun v1 hv1 h=>B4 W W A4 (LF _ _ hv1) (.inl W) (sd W (D5 W)<|sv W<|A1<|bs h fun y1 hy1 h=>D4 (fun s=> ∃g1:Unit,Sb ⟨T [(3,(di y1))],G []⟩ s) ?_ ?_);refine A7<|D8 (Bn v1) (fun (x1:(Int×Int)) (g2:Unit)=>⟨T [(3,(di x1.1)),(7,(dl A5 v1)),(8,(di (v1.length:Int))),(9,(di x1.2))],G []⟩) (0,0) () _ hy1 (F0 W W) ?_;intro x1 g2 z1 hz1 ez1;unfold Bn at hz1;refine B1<|sv W<|A1<|A6<|cc W hz1 (fun c1 hz1=> ?_)<|fun c1 hz1=> ?_;refine A9<|A6<|A7<|B1<|bs hz1 fun _ hv2 hz1=>sd W (C9 W W hv2 W)<|sd W (D2 W hv2 W)<|sv W<|A1<|C0<|sv W<|sv W<|sv W<|sv W<|A1<|E1<|C0<|sv W<|sv W<|A1<|E3 ?_;cases hz1;exact ⟨W,(),(F0 W W)⟩;refine C7 W ?_;cases hz1;obtain rfl:=ez1 _ rfl;refine ⟨nofun,C5 W<|T4 ?_⟩;exact ⟨(),(F0 W W)⟩;rintro _ ⟨g1,q1⟩;refine B6 q1<|B1<|sv W<|sv W<|A1<|B2 ?_;cases h;exact A8 (.inr W) (B8 (B3 W) C2) (.refl _)
def Dm [Lp](p1:Map)(p2:Int):Option Int:=
  (C4 p1.Lanes p2).bind fun v1=>(Dw v1.Curve_).bind fun v2=>some v2
theorem Ra(p1 p2 r)(h:Dm p1 p2=some r):PCall prog 207 [(.agg (R6 p1)),(i64 p2)] (i64 r):=by
 refine C6 (fk func207 ntmps207 m0 (by with_unfolding_all rfl)) (nl W) ?_;unfold Dm at h;refine B6 (s0:=⟨T [(0,(.d _)),(1,(.d _))],G []⟩) (F0 W W) ?_;refine B1<|sm W<|sv W<|A1<|B1<|sq W<|sl W A2 W<|sv W<|bs h fun _ hv1 h=>sd W (C9 W W hv1 W)<|sv W<|sd W (D7 W hv1 W W)<|bs h fun _ hv2 h=>B4 W W A4 (LG _ _ hv2) (.inl W) (sv W<|A1<|B2 ?_);cases h;exact A8 (.inr W) (B8 (B3 W) C2) (.refl _)
def S7 [Lp](p1:RoadsCheck)(v1:Zone)(x3:Int):Option (Stp Int (Sum Unit Int)):=
  cond (decide (x3< (v1.Parts.length:Int))) ((C4 v1.Parts x3).bind fun v5=>((cond (!((decide (v5.From<0))||(decide (v5.From≥v5.To)))) (Dm p1.Map_ v5.Lane_) (some default))).bind fun v6=>cond (((((decide (v5.From<0))||(decide (v5.From≥v5.To)))||(decide (v5.To>v6)))||(decide (v5.Rank<0)))||(decide (v5.Rank>100))) (some (.out (.inr 2))) (some (.go (E5 (x3+1))))) (some (.out (.inl ())))
def Gc (v1:Zone)(x2:((List Int)×Int)):Option (Stp ((List Int)×Int) (List Int)):=
  cond (decide (x2.2< (v1.Parts.length:Int))) ((C4 v1.Parts x2.2).bind fun v2=>(X3 x2.1 [v2.Lane_]).bind fun v3=>some (.go (v3,(E5 (x2.2+1))))) (some (.out x2.1))
def S8 [Lp](p1:RoadsCheck)(x1:Int):Option (Stp Int (Sum Unit Int)):=
  cond (decide (x1< (p1.Map_.Zones.length:Int))) ((C4 p1.Map_.Zones x1).bind fun v1=>cond (decide ((v1.Parts.length:Int)<2)) (some (.out (.inr 6))) (cond (decide ((v1.Parts.length:Int)>6)) (some (.out (.inr 8))) (cond ((decide (v1.Signal_<0))||(decide (v1.Signal_>(p1.Map_.Signals.length:Int)))) (some (.out (.inr 2))) ((loop (Gc v1) ([],0)).bind fun y2=>(Cl y2 0 (p1.Map_.Lanes.length:Int)).bind fun v4=>cond (!v4) (some (.out (.inr 11))) (thenS (loop (S7 p1 v1) 0) (fun _=>some (.go (E5 (x1+1)))) (fun r=>some (.out (.inr r)))))))) (some (.out (.inl ())))
def W6 [Lp](p1:RoadsCheck):Option Int:=
  thenS (loop (S8 p1) 0) (fun _=>some 0) (fun r=>some r)
theorem BU(p1 r)(h:W6 p1=some r):PCall prog 152 [(.agg (R6 p1.Map_))] (i64 r):=by
 refine C6 (fk func152 ntmps152 (fun r=>if r==15 then [1003]else []) (by with_unfolding_all rfl)) (nl W) ?_;unfold W6 at h;refine B6 (s0:=⟨T [(0,(.d _))],G []⟩) (F0 W W) ?_;refine lr<|fun u1 _=>sm W<|sv W<|A1<|A6<|B1<|sq W<|sp W W<|sl W A2 W<|sd W (D5 W)<|sv W<|A1<|js h fun z1 hz1 h=>D4 (fun s=> ∃(y1:Unit) (g1:Unit),z1= .inl y1∧Sb ⟨T [],G []⟩ s) ?_ ?_;refine A7<|D8 (S8 p1) (fun (x1:Int) (g2:Unit)=>⟨T [(1,(.ptr (1,u1) 0)),(13,(dl Hq p1.Map_.Zones)),(14,(di (p1.Map_.Zones.length:Int))),(15,(di x1))],G [((1,u1),some<|.box 212 (M7 p1.Map_))]⟩) 0 () _ hz1 (F0 W W) ?_;intro x1 g2 z2 hz2 ez2;unfold S8 at hz2;refine B1<|sv W<|A1<|A6<|cc W hz2 (fun c1 hz2=> ?_)<|fun c1 hz2=> ?_;refine A9<|A6<|A7<|lr<|fun u4 _=>bs hz2 fun v1 hv1 hz2=>sd W (C9 W W hv1 W)<|sd W (D7 W hv1 W W)<|sm W<|T1 W A2 [(dl Ck v1.Parts),(di v1.Signal_)] W (A1<|A6<|B1<|sq W<|sl W A2 W<|sd W (D5 W)<|sv W<|A1<|A7<|B1<|sv W<|sv W<|sv W<|A1<|cc W hz2 (fun c2 hz2=> ?_)<|fun c2 hz2=> ?_);refine B1<|sv W<|A1<|B2 ?_;cases hz2;obtain rfl:=ez2 _ rfl;refine ⟨nofun,F4 ?_⟩;rw [wE]at h;cases h;exact A8 (.inr W) (B8 (B3 W) C2) (.refl _);refine B1<|sv W<|sv W<|sv W<|A1<|cc W hz2 (fun c3 hz2=> ?_)<|fun c3 hz2=> ?_;refine B1<|sv W<|A1<|B2 ?_;cases hz2;obtain rfl:=ez2 _ rfl;refine ⟨nofun,F4 ?_⟩;rw [wE]at h;cases h;exact A8 (.inr W) (B8 (B3 W) C2) (.refl _);refine B1<|sq W<|sl W A2 W<|sv W<|sv W<|gp W (L3 W) (fun _=>W) (gf W (vl W A2 W)<|gp W (L3 W) (fun _=>W) ?_);refine M9 _ (.ptr _ _) W (L3 W) (fun w4=>(by simp only [A3 w4];rfl)) ?_;refine gf W (vl W (gq W) W)<|gf W (fun w6=>(D5<|A3 w6))<|gf W (fun w7=>(N2 (A3 w7) (A3 w7) W))<|sd W (P1 W W<|fun hc=>A3<|J9 hc)<|sv W<|A1<|cc W hz2 (fun c4 hz2=> ?_)<|fun c4 hz2=> ?_;refine B1<|sv W<|A1<|B2 ?_;cases hz2;obtain rfl:=ez2 _ rfl;refine ⟨nofun,F4 ?_⟩;rw [wE]at h;cases h;exact A8 (.inr W) (B8 (B3 W) C2) (.refl _);refine A9<|E1<|B1<|sv W<|A1<|A6<|B1<|sq W<|sl W A2 W<|sd W (D5 W)<|sv W<|A1<|bs hz2 fun y2 hy2 hz2=>D4 (fun s=> ∃g3:Nat,Sb ⟨T [(1,(.ptr (1,u1) 0)),(4,(.ptr (4,u4) 0)),(6,(oS y2 (52,g3))),(13,(dl Hq p1.Map_.Zones)),(14,(di (p1.Map_.Zones.length:Int))),(15,(di x1))],G [((1,u1),some<|.box 212 (M7 p1.Map_)),((4,u4),some<|.box 117 [(dl Ck v1.Parts),(di v1.Signal_)]),((52,g3),oB 3 1 A5 y2)]⟩ s) ?_ ?_;refine A7<|D8 (Gc v1) (fun (x2:((List Int)×Int)) (g4:Nat)=>⟨T [(1,(.ptr (1,u1) 0)),(4,(.ptr (4,u4) 0)),(6,(oS x2.1 (52,g4))),(13,(dl Hq p1.Map_.Zones)),(14,(di (p1.Map_.Zones.length:Int))),(15,(di x1)),(42,(dl Ck v1.Parts)),(43,(di (v1.Parts.length:Int))),(44,(di x2.2))],G [((1,u1),some<|.box 212 (M7 p1.Map_)),((4,u4),some<|.box 117 [(dl Ck v1.Parts),(di v1.Signal_)]),((52,g4),oB 3 1 A5 x2.1)]⟩) ([],0) 0 _ hy2 (D0 (T6 W)<|sg W<|B0 A2 (.of W)<|R7 trivial) ?_;intro x2 g4 z3 hz3 ez3;unfold Gc at hz3;refine B1<|sv W<|A1<|A6<|cc W hz3 (fun c5 hz3=> ?_)<|fun c5 hz3=> ?_;refine A9<|A6<|A7<|B1<|bs hz3 fun v2 hv2 hz3=>sd W (C9 W W hv2 W)<|sd W (D7 W hv2 W W)<|sm W<|T1 W A2 (DZ v2) W (A1<|Ae fun u16 _=>B9 (oS x2.1 (52,g4)) W W (sq W<|sl W A2 W<|B9 (dl A5 [v2.Lane_]) W W (bs hz3 fun _ hv3 hz3=>O6 A5 (52,g4) x2.1 v2.Lane_ [] _ (J5<|fun _=>W) W (gq W) hv3 (ss W<|A1<|E1<|C0<|sv W<|sv W<|A1<|E3 ?_))));cases hz3;exact ⟨W,u16,(D0 ⟨.of W, .of W,(.of (T3<|S5 hv3).symm), .of W, .of W, .of W, .of W, .of W, .of W,trivial⟩<|sg W<|sg W<|M6 A2 trivial)⟩;refine C7 W ?_;cases hz3;obtain rfl:=ez3 _ rfl;refine ⟨nofun,C5 W<|T4 ?_⟩;exact ⟨g4,(D0 (T6 W)<|B0 A2 (.of W)<|sg W<|B7 (gq W) trivial)⟩;rintro _ ⟨g3,q1⟩;refine B6 q1<|A6<|B1<|B9 (oS y2 (52,g3)) W W (sq W<|sp W W<|sl W A2 W<|sd W (D5 W)<|bs hz2 fun v4 hv4 hz2=>B4 W (E8 (T9<|gq W)<|rD<|rD F9) (.cons T8 (.cons (.refl _) A4)) (Sg _ _ _ _ hv4) (.inr W) (B9 (.d (bo (!v4))) W W (A1<|cc W hz2 (fun c6 hz2=> ?_)<|fun c6 hz2=> ?_)));refine B1<|sv W<|A1<|B2 ?_;cases hz2;obtain rfl:=ez2 _ rfl;refine ⟨nofun,F4 ?_⟩;rw [wE]at h;cases h;exact A8 (.inr W) (B8 (B3 W) C2) (.refl _);refine A9<|B1<|sq W<|sl W (gq W) W (sd W (D5 W)<|sv W<|A1<|js hz2 fun z4 hz4 hz2=>D4 (fun s=> ∃(y3:Unit) (g5:Unit),z4= .inl y3∧Sb ⟨T [(1,(.ptr (1,u1) 0)),(13,(dl Hq p1.Map_.Zones)),(14,(di (p1.Map_.Zones.length:Int))),(15,(di x1))],G [((1,u1),some<|.box 212 (M7 p1.Map_))]⟩ s) ?_ ?_);refine A7<|D8 (S7 p1 v1) (fun (x3:Int) (g6:Unit)=>⟨T [(1,(.ptr (1,u1) 0)),(13,(dl Hq p1.Map_.Zones)),(14,(di (p1.Map_.Zones.length:Int))),(15,(di x1)),(62,(dl Ck v1.Parts)),(63,(di (v1.Parts.length:Int))),(64,(di x3))],G [((1,u1),some<|.box 212 (M7 p1.Map_))]⟩) 0 () _ hz4 (F0 W W) ?_;intro x3 g6 z5 hz5 ez5;unfold S7 at hz5;refine B1<|sv W<|A1<|A6<|cc W hz5 (fun c7 hz5=> ?_)<|fun c7 hz5=> ?_;refine A9<|A6<|A7<|B1<|bs hz5 fun v5 hv5 hz5=>sd W (C9 W W hv5 W)<|sd W (D7 W hv5 W W)<|sm W<|T1 W A2 (DZ v5) W (A1<|A6<|E9 W<|sq W<|sl W A2 W<|sv W<|sv W<|gp W (L3 W) (fun _=>W) (gf W (vl W A2 W)<|gp W (L3 W) (fun _=>W) (gf W (vl W A2 W)<|gf W (fun w12=>(N2 (A3 w12) (A3 w12) W))<|sd W (P1 W W<|fun hc=>A3<|J9 hc)<|sv W<|gp W (L3 W) (fun _=>W) (gf W (vl W A2 W)<|gp W (L3 W) (fun _=>W) (gf W (fun w16=>(B5 (A3 w16) (gq W) W W))<|gp W (L3 W) (fun _=>W) (gf W (vl W A2 W)<|bs hz5 fun v6 hv6 hz5=> ?_))))));refine N7 _ (i64 v6) (L3 W) (fun w19=>⟨_,[(.d (.agg (R6 p1.Map_))),(di v5.Lane_)],_,_,(by simp only [A3 w19];rfl),W,A4,Ra _ _ _<|C1 w19 hv6,(.inl W)⟩) ?_;refine gf W (fun w20=>(N2 (A3 w20) (A3 w20) W))<|sd W (P1 W W<|fun hc=>A3<|J9 hc)<|sv W<|gp W (L3 W) (fun _=>W) (gf W (vl W A2 W)<|gf W (vb W W W)<|sd W (P1 W W<|fun hc=>A3<|J9 hc)<|sv W<|gp W (L3 W) (fun _=>W) (gf W (vl W A2 W)<|gf W (vb W W W)<|sd W (P1 W W<|fun hc=>A3<|J9 hc)<|A1<|cc W hz5 (fun c8 hz5=> ?_)<|fun c8 hz5=> ?_));refine B1<|sv W<|A1<|B2 ?_;cases hz5;obtain rfl:=ez5 _ rfl;refine ⟨nofun,F4 ?_⟩;rw [wE]at hz2;cases hz2;obtain rfl:=ez2 _ rfl;refine ⟨nofun,F4 ?_⟩;rw [wE]at h;cases h;exact A8 (.inr W) (B8 (B3 W) C2) (.refl _);refine A9<|E1<|C0<|sv W<|sv W<|A1<|E3 ?_;cases hz5;exact ⟨W,(),(F0 W W)⟩;refine C7 W ?_;cases hz5;obtain rfl:=ez5 _ rfl;refine ⟨nofun,C5 W<|T4 ?_⟩;exact ⟨_,(),W,(F0 W W)⟩;rintro _ ⟨y3,g5,rfl,q2⟩;rw [wC]at hz2;refine E1<|B6 q2<|C0<|sv W<|sv W<|A1<|E3 ?_;cases hz2;exact ⟨W,(),(F0 W W)⟩;refine C7 W ?_;cases hz2;obtain rfl:=ez2 _ rfl;refine ⟨nofun,C5 W<|T4 ?_⟩;exact ⟨_,(),W,(F0 W W)⟩;rintro _ ⟨y1,g1,rfl,q3⟩;rw [wC]at h;refine B6 q3<|B1<|sv W<|A1<|B2 ?_;cases h;exact A8 (.inr W) (B8 (B3 W) C2) (.refl _)
def S9 [Lp](p1:RoadsCheck)(x1:Int):Option (Stp Int (Sum Unit Int)):=
  cond (decide (x1< (p1.Map_.Works.length:Int))) ((C4 p1.Map_.Works x1).bind fun v1=>cond ((decide (v1.Lane_<0))||(decide (v1.Lane_≥(p1.Map_.Lanes.length:Int)))) (some (.out (.inr 7))) ((C4 p1.Map_.Lanes v1.Lane_).bind fun v2=>(Fz v2.Kind).bind fun v3=>((cond (!((decide (v1.From<0))||(decide (v1.From>v1.To)))) (Dm p1.Map_ v1.Lane_) (some default))).bind fun v4=>((cond (!((((((decide (v1.From<0))||(decide (v1.From>v1.To)))||(decide (v1.To>v4)))||(decide (v1.Begin<0)))||(decide (v1.Begin≥v1.End)))||(decide (v1.End>1099511627776)))) (Dv v1.Limit 0 v3.1) (some default))).bind fun v5=>cond (((((((decide (v1.From<0))||(decide (v1.From>v1.To)))||(decide (v1.To>v4)))||(decide (v1.Begin<0)))||(decide (v1.Begin≥v1.End)))||(decide (v1.End>1099511627776)))||(!v5)) (some (.out (.inr 2))) (some (.go (E5 (x1+1)))))) (some (.out (.inl ())))
def W7 [Lp](p1:RoadsCheck):Option Int:=
  thenS (loop (S9 p1) 0) (fun _=>some 0) (fun r=>some r)
theorem BV(p1 r)(h:W7 p1=some r):PCall prog 153 [(.agg (R6 p1.Map_))] (i64 r):=by
 refine C6 (fk func153 ntmps153 m0 (by with_unfolding_all rfl)) (nl W) ?_;unfold W7 at h;refine B6 (s0:=⟨T [(0,(.d _))],G []⟩) (F0 W W) ?_;refine lr<|fun u1 _=>sm W<|sv W<|A1<|A6<|B1<|sq W<|sp W W<|sl W A2 W<|sd W (D5 W)<|sv W<|A1<|js h fun z1 hz1 h=>D4 (fun s=> ∃(y1:Unit) (g1:Unit),z1= .inl y1∧Sb ⟨T [],G []⟩ s) ?_ ?_;refine A7<|D8 (S9 p1) (fun (x1:Int) (g2:Unit)=>⟨T [(1,(.ptr (1,u1) 0)),(10,(dl Xl p1.Map_.Works)),(11,(di (p1.Map_.Works.length:Int))),(12,(di x1))],G [((1,u1),some<|.box 212 (M7 p1.Map_))]⟩) 0 () _ hz1 (F0 W W) ?_;intro x1 g2 z2 hz2 ez2;unfold S9 at hz2;refine B1<|sv W<|A1<|A6<|cc W hz2 (fun c1 hz2=> ?_)<|fun c1 hz2=> ?_;refine A9<|A6<|A7<|B1<|bs hz2 fun v1 hv1 hz2=>sd W (C9 W W hv1 W)<|sd W (D7 W hv1 W W)<|sm W<|T1 W A2 (xW v1) W (A1<|A6<|B1<|sq W<|sl W A2 W<|sv W<|sv W<|gp W (L3 W) (fun _=>W) (gf W (vl W A2 W)<|gp W (L3 W) (fun _=>W) ?_));refine M9 _ (.ptr _ _) W (L3 W) (fun w4=>(by simp only [A3 w4];rfl)) ?_;refine gf W (vl W (gq W) W)<|gf W (fun w6=>(D5<|A3 w6))<|gf W (fun w7=>(N2 (A3 w7) (A3 w7) W))<|sd W (P1 W W<|fun hc=>A3<|J9 hc)<|A1<|cc W hz2 (fun c2 hz2=> ?_)<|fun c2 hz2=> ?_;refine B1<|sv W<|A1<|B2 ?_;cases hz2;obtain rfl:=ez2 _ rfl;refine ⟨nofun,F4 ?_⟩;rw [wE]at h;cases h;exact A8 (.inr W) (B8 (B3 W) C2) (.refl _);refine A9<|B1<|sq W<|sp W W<|sl W (gq W) W (sq W<|sl W A2 W<|bs hz2 fun _ hv2 hz2=>sd W (C9 W W hv2 W)<|sv W<|sd W (D2 W hv2 W)<|bs hz2 fun v3 hv3 hz2=>B4 W W A4 (Nb _ _ hv3) (.inl W) (sv W<|sv W<|sv W<|sv W<|sv W<|sv W<|sv W<|A1<|A6<|E9 W<|sq W<|sl W A2 W<|sv W<|sv W<|gp W (L3 W) (fun _=>W) (gf W (vl W A2 W)<|gp W (L3 W) (fun _=>W) (gf W (vl W A2 W)<|gf W (fun w12=>(N2 (A3 w12) (A3 w12) W))<|sd W (P1 W W<|fun hc=>A3<|J9 hc)<|sv W<|gp W (L3 W) (fun _=>W) (gf W (vl W A2 W)<|gp W (L3 W) (fun _=>W) (gf W (fun w16=>(B5 (A3 w16) (gq W) W W))<|gp W (L3 W) (fun _=>W) (gf W (vl W A2 W)<|bs hz2 fun v4 hv4 hz2=> ?_)))))));refine N7 _ (i64 v4) (L3 W) (fun w19=>⟨_,[(.d (.agg (R6 p1.Map_))),(di v1.Lane_)],_,_,(by simp only [A3 w19];rfl),W,A4,Ra _ _ _<|C1 w19 hv4,(.inl W)⟩) ?_;refine gf W (fun w20=>(N2 (A3 w20) (A3 w20) W))<|sd W (P1 W W<|fun hc=>A3<|J9 hc)<|sv W<|gp W (L3 W) (fun _=>W) (gf W (vl W A2 W)<|gf W (vb W W W)<|sd W (P1 W W<|fun hc=>A3<|J9 hc)<|sv W<|gp W (L3 W) (fun _=>W) (gf W (vl W A2 W)<|gp W (L3 W) (fun _=>W) (gf W (vl W A2 W)<|gf W (fun w28=>(N2 (A3 w28) (A3 w28) W))<|sd W (P1 W W<|fun hc=>A3<|J9 hc)<|sv W<|gp W (L3 W) (fun _=>W) (gf W (vl W A2 W)<|gf W (vb W W W)<|sd W (P1 W W<|fun hc=>A3<|J9 hc)<|sv W<|gp W (L3 W) (fun _=>W) (gf W (vl W A2 W)<|gf W (fun _=>W)<|bs hz2 fun v5 hv5 hz2=> ?_)))));refine N7 _ (bo v5) (L3 W) (fun w35=>⟨_,[(di v1.Limit),(di 0),(di v3.1)],_,_,(by simp only [A3 w35];rfl),W,A4,Fu _ _ _ _<|C1 w35 hv5,(.inl W)⟩) ?_;refine M9 _ (.d (bo (!v5))) W (L3 W) (fun w36=>(by simp only [A3 w36];rfl)) ?_;refine sd W (P1 W W<|fun hc=>A3<|J9 hc)<|A1<|cc W hz2 (fun c3 hz2=> ?_)<|fun c3 hz2=> ?_;refine B1<|sv W<|A1<|B2 ?_;cases hz2;obtain rfl:=ez2 _ rfl;refine ⟨nofun,F4 ?_⟩;rw [wE]at h;cases h;exact A8 (.inr W) (B8 (B3 W) C2) (.refl _);refine A9<|E1<|C0<|sv W<|sv W<|A1<|E3 ?_;cases hz2;exact ⟨W,(),(F0 W W)⟩;refine C7 W ?_;cases hz2;obtain rfl:=ez2 _ rfl;refine ⟨nofun,C5 W<|T4 ?_⟩;exact ⟨_,(),W,(F0 W W)⟩;rintro _ ⟨y1,g1,rfl,q1⟩;rw [wC]at h;refine B6 q1<|B1<|sv W<|A1<|B2 ?_;cases h;exact A8 (.inr W) (B8 (B3 W) C2) (.refl _)
def U8 [Lp](v:Nat)(p1:RoadsCheck):Option Int:=
  cond (Nat.beq v 148) (Bj p1) (cond (Nat.beq v 149) (W5 p1) (cond (Nat.beq v 150) (V4 p1) (cond (Nat.beq v 151) (U3 p1) (cond (Nat.beq v 152) (W6 p1) (cond (Nat.beq v 153) (W7 p1) (none))))))
theorem Rt(v p1 r)(h:U8 v p1=some r):PCall prog v [(.agg [(i64 p1.Map_.Version),(.list (List.map Hp p1.Map_.Lanes)),(.list (List.map Hq p1.Map_.Zones)),(.list (List.map Oq p1.Map_.Signals)),(.list (List.map Xl p1.Map_.Works))])] (i64 r):=by
  unfold U8 at h;rcases IZ h with ⟨rfl,h⟩|⟨_,h⟩
  ·exact Yr _ r h
  rcases IZ h with ⟨rfl,h⟩|⟨_,h⟩
  ·exact BT _ r h
  rcases IZ h with ⟨rfl,h⟩|⟨_,h⟩
  ·exact AI _ r h
  rcases IZ h with ⟨rfl,h⟩|⟨_,h⟩
  ·exact Ys _ r h
  rcases IZ h with ⟨rfl,h⟩|⟨_,h⟩
  ·exact BU _ r h
  rcases IZ h with ⟨rfl,h⟩|⟨_,h⟩
  ·exact BV _ r h
  cases h
def Q0 [Lp](p1:Map)(x1:Int):Option (Stp Int (Sum Unit Int)):=
  cond (decide (x1< ([148,149,150,151,152,153].length:Int))) ((C4 [148,149,150,151,152,153] x1).bind fun v1=>(U8 v1 (RoadsCheck.mk p1)).bind fun v2=>cond (v2 !=0) (some (.out (.inr v2))) (some (.go (E5 (x1+1))))) (some (.out (.inl ())))
def Cw [Lp](p1:Map):Option Int:=
  thenS (loop (Q0 p1) 0) (fun _=>some 0) (fun r=>some r)
theorem Ui(p1 r)(h:Cw p1=some r):PCall prog 71 [(.agg (R6 p1))] (i64 r):=by
 refine C6 (fk func71 ntmps71 (fun r=>if r==1 then [1000]else []) (by with_unfolding_all rfl)) (nl W) ?_;unfold Cw at h;refine B6 (s0:=⟨T [(0,(.d _))],G []⟩) (F0 W W) ?_;refine lr<|fun u1 _=>sm W<|sv W<|A1<|A6<|B1<|B9 (dl zS [148,149,150,151,152,153]) W W (sd W (D5 W)<|sv W<|A1<|js h fun z1 hz1 h=>D4 (fun s=> ∃(y1:Unit) (g1:Unit),z1= .inl y1∧Sb ⟨T [],G []⟩ s) ?_ ?_);refine A7<|D8 (Q0 p1) (fun (x1:Int) (g2:Unit)=>⟨T [(1,(.ptr (1,u1) 0)),(6,(dl zS [148,149,150,151,152,153])),(7,(di ([148,149,150,151,152,153].length:Int))),(8,(di x1))],G [((1,u1),some<|.box 33 (M7 p1))]⟩) 0 () _ hz1 (F0 W W) ?_;intro x1 g2 z2 hz2 ez2;unfold Q0 at hz2;refine B1<|sv W<|A1<|A6<|cc W hz2 (fun c1 hz2=> ?_)<|fun c1 hz2=> ?_;refine A9<|A6<|A7<|B1<|bs hz2 fun _ hv1 hz2=>sd W (C9 W W hv1 W)<|sd W (D2 W hv1 W)<|sv W<|A1<|B1<|sv W<|sd W (B5 W A2 W W)<|sv W<|bs hz2 fun _ hv2 hz2=>B4 W W A4 (Rt _ _ _ hv2) (.inl W) (sv W<|A1<|B1<|sv W<|sv W<|A1<|cc W hz2 (fun c2 hz2=> ?_)<|fun c2 hz2=> ?_);refine B1<|sv W<|sv W<|A1<|B2 ?_;cases hz2;obtain rfl:=ez2 _ rfl;refine ⟨nofun,F4 ?_⟩;rw [wE]at h;cases h;exact A8 (.inr W) (B8 (B3 W) C2) (.refl _);refine A9<|E1<|C0<|sv W<|sv W<|A1<|E3 ?_;cases hz2;exact ⟨W,(),(F0 W W)⟩;refine C7 W ?_;cases hz2;obtain rfl:=ez2 _ rfl;refine ⟨nofun,C5 W<|T4 ?_⟩;exact ⟨_,(),W,(F0 W W)⟩;rintro _ ⟨y1,g1,rfl,q1⟩;rw [wC]at h;refine B6 q1<|B1<|sv W<|A1<|B2 ?_;cases h;exact A8 (.inr W) (B8 (B3 W) C2) (.refl _)
def U9 (p1:(List Int))(p2:Int)(x1:Int):Option (Stp Int (Sum Unit Int)):=
  cond (decide (x1< (p1.length:Int))) ((C4 p1 x1).bind fun v1=>cond (p2==v1) (some (.out (.inr x1))) (some (.go (E5 (x1+1))))) (some (.out (.inl ())))
def T0 [Lp](p1:(List Int))(p2:Int):Option Int:=
  thenS (loop (U9 p1 p2) 0) (fun _=>some (-1)) (fun r=>some r)
theorem Nr(p1 p2 r)(h:T0 p1 p2=some r):PCall prog 244 [(.list (List.map A5 p1)),(i64 p2)] (i64 r):=by
 refine C6 (fk func244 ntmps244 m0 (by with_unfolding_all rfl)) (nl W) ?_;unfold T0 at h;refine B6 (s0:=⟨T [(0,(.d _)),(1,(.d _))],G []⟩) (F0 W W) ?_;refine B1<|sv W<|A1<|A6<|B1<|sv W<|sd W (D5 W)<|sv W<|A1<|js h fun z1 hz1 h=>D4 (fun s=> ∃(y1:Unit) (g1:Unit),z1= .inl y1∧Sb ⟨T [],G []⟩ s) ?_ ?_;refine A7<|D8 (U9 p1 p2) (fun (x1:Int) (g2:Unit)=>⟨T [(0,(dl A5 p1)),(1,(di p2)),(7,(di (p1.length:Int))),(8,(di x1))],G []⟩) 0 () _ hz1 (F0 W W) ?_;intro x1 g2 z2 hz2 ez2;unfold U9 at hz2;refine B1<|sv W<|A1<|A6<|cc W hz2 (fun c1 hz2=> ?_)<|fun c1 hz2=> ?_;refine A9<|A6<|A7<|B1<|sv W<|sv W<|A1<|B1<|sv W<|sv W<|sv W<|bs hz2 fun _ hv1 hz2=>sd W (C9 W W hv1 W)<|sd W (D2 W hv1 W)<|sv W<|A1<|cc W hz2 (fun c2 hz2=> ?_)<|fun c2 hz2=> ?_;refine B1<|sv W<|sv W<|A1<|B2 ?_;cases hz2;obtain rfl:=ez2 _ rfl;refine ⟨nofun,F4 ?_⟩;rw [wE]at h;cases h;exact A8 (.inr W) (B8 (B3 W) C2) (.refl _);refine A9<|E1<|C0<|sv W<|sv W<|A1<|E3 ?_;cases hz2;exact ⟨W,(),(F0 W W)⟩;refine C7 W ?_;cases hz2;obtain rfl:=ez2 _ rfl;refine ⟨nofun,C5 W<|T4 ?_⟩;exact ⟨_,(),W,(F0 W W)⟩;rintro _ ⟨y1,g1,rfl,q1⟩;rw [wC]at h;refine B6 q1<|B1<|sv W<|A1<|B2 ?_;cases h;exact A8 (.inr W) (B8 (B3 W) C2) (.refl _)
def O7 [Lp](p1:(List Int))(p2:Int):Option Bool:=
  (T0 p1 p2).bind fun v1=>some (decide (v1≥0))
theorem Es(p1 p2 r)(h:O7 p1 p2=some r):PCall prog 215 [(.list (List.map A5 p1)),(i64 p2)] (bo r):=by
 refine C6 (fk func215 ntmps215 m0 (by with_unfolding_all rfl)) (nl W) ?_;unfold O7 at h;refine B6 (s0:=⟨T [(0,(.d _)),(1,(.d _))],G []⟩) (F0 W W) ?_;refine B1<|sv W<|A1<|B1<|sv W<|sv W<|bs h fun _ hv1 h=>B4 W W A4 (Nr _ _ _ hv1) (.inl W) (sv W<|sv W<|A1<|B2 ?_);cases h;exact A8 (.inr W) (B8 (B3 W) C2) (.refl _)
def Bo [Lp](p1:Map)(p2:Int)(x1:((List Int)×Int)):Option (Stp ((List Int)×Int) (List Int)):=
  cond (decide (x1.2< (p1.Lanes.length:Int))) ((C4 p1.Lanes x1.2).bind fun v1=>(O7 v1.Next p2).bind fun v2=>cond v2 ((X3 x1.1 [x1.2]).bind fun v3=>some (.go (v3,(E5 (x1.2+1))))) (some (.go (x1.1,(E5 (x1.2+1)))))) (some (.out x1.1))
def Gd [Lp](p1:Map)(p2:Int):Option (List Int):=
  (loop (Bo p1 p2) ([],0)).bind fun y1=>some y1
theorem LH(p1 p2 r)(h:Gd p1 p2=some r):PCall prog 214 [(.agg (R6 p1)),(i64 p2)] (.list (List.map A5 r)):=by
 refine C6 (fk func214 ntmps214 (fun r=>if r==6 then [1002]else []) (by with_unfolding_all rfl)) (nl W) ?_;unfold Gd at h;refine B6 (s0:=⟨T [(0,(.d _)),(1,(.d _))],G []⟩) (F0 W W) ?_;refine B1<|sm W<|sv W<|A1<|B1<|sv W<|A1<|A6<|B1<|sq W<|sl W A2 W<|sd W (D5 W)<|sv W<|A1<|bs h fun y1 hy1 h=>D4 (fun s=> ∃g1:Nat,Sb ⟨T [(5,(oS y1 (23,g1)))],G [((23,g1),oB 3 1 A5 y1)]⟩ s) ?_ ?_;refine A7<|D8 (Bo p1 p2) (fun (x1:((List Int)×Int)) (g2:Nat)=>⟨T [(1,(di p2)),(5,(oS x1.1 (23,g2))),(9,(dl Hp p1.Lanes)),(10,(di (p1.Lanes.length:Int))),(11,(di x1.2))],G [((23,g2),oB 3 1 A5 x1.1)]⟩) ([],0) 0 _ hy1 (D0 (T6 W)<|R7 trivial) ?_;intro x1 g2 z1 hz1 ez1;unfold Bo at hz1;refine B1<|sv W<|A1<|A6<|cc W hz1 (fun c1 hz1=> ?_)<|fun c1 hz1=> ?_;refine A9<|A6<|A7<|B1<|sv W<|bs hz1 fun v1 hv1 hz1=>sd W (C9 W W hv1 W)<|sd W (D7 W hv1 W W)<|sm W<|sv W<|T1 W A2 (HH v1) W (A1<|B1<|sq W<|sl W A2 W<|sv W<|bs hz1 fun _ hv2 hz1=>B4 W W A4 (Es _ _ _ hv2) (.inl W) (A1<|cc W hz1 (fun c2 hz1=> ?_)<|fun c2 hz1=> ?_));refine Ae fun u7 _=>B9 (oS x1.1 (23,g2)) W W (sv W<|B9 (dl A5 [x1.2]) W W (bs hz1 fun _ hv3 hz1=>O6 A5 (23,g2) x1.1 x1.2 [] _ (J5<|fun _=>W) W (gq W) hv3 (ss W<|A1<|E1<|C0<|sv W<|sv W<|A1<|E3 ?_)));cases hz1;exact ⟨W,u7,(D0 ⟨.of W,(.of (T3<|S5 hv3).symm), .of W, .of W, .of W,trivial⟩<|M6 A2 trivial)⟩;refine A9<|E1<|C0<|sv W<|sv W<|A1<|E3 ?_;cases hz1;exact ⟨W,g2,(D0 (T6 W)<|B7 (gq W) trivial)⟩;refine C7 W ?_;cases hz1;obtain rfl:=ez1 _ rfl;refine ⟨nofun,C5 W<|T4 ?_⟩;exact ⟨g2,(D0 ⟨.of W,trivial⟩<|B7 A2 trivial)⟩;rintro _ ⟨g1,q1⟩;refine B6 q1<|B1<|B9 (oS y1 (23,g1)) W W (B9 (oS y1 (23,g1)) W W (A1<|B2 ?_));cases h;exact A8 (.inr W) (B8 (B3 W)<|T9 A2) T8
def R4 [Lp](p1:Map)(v7:List Int)(x1:(Int×Int)):Option (Stp (Int×Int) (Sum Unit Int)):=
  cond (decide (x1.2< (v7.length:Int))) ((C4 v7 x1.2).bind fun v8=>(C4 p1.Lanes x1.1).bind fun v9=>(O7 v9.Next v8).bind fun v10=>cond (!v10) (some (.out (.inr 13))) (some (.go (v8,(E5 (x1.2+1)))))) (some (.out (.inl ())))
def Y7 [Lp](p1:Map)(p2:(List Int)):Option Int:=
  (Cw p1).bind fun v1=>cond (v1 !=0) (some v1) (((cond (!(((p2.length:Int)==0)||(decide ((p2.length:Int)>8)))) (C4 p2 0) (some default))).bind fun v2=>((cond (!((((p2.length:Int)==0)||(decide ((p2.length:Int)>8)))||(decide (v2<0)))) (C4 p2 0) (some default))).bind fun v3=>((cond (!(((((p2.length:Int)==0)||(decide ((p2.length:Int)>8)))||(decide (v2<0)))||(decide (v3≥(p1.Lanes.length:Int))))) (C4 p2 0) (some default))).bind fun v4=>((cond (!(((((p2.length:Int)==0)||(decide ((p2.length:Int)>8)))||(decide (v2<0)))||(decide (v3≥(p1.Lanes.length:Int))))) (Gd p1 v4) (some default))).bind fun v5=>cond ((((((p2.length:Int)==0)||(decide ((p2.length:Int)>8)))||(decide (v2<0)))||(decide (v3≥(p1.Lanes.length:Int))))||(decide ((v5.length:Int)>0))) (some 13) ((C4 p2 0).bind fun v6=>(aE p2 1 (p2.length:Int)).bind fun v7=>thenS (loop (R4 p1 v7) (v6,0)) (fun _=>some 0) (fun r=>some r)))
theorem Tb(p1 p2 r)(h:Y7 p1 p2=some r):PCall prog 154 [(.agg (R6 p1)),(.list (List.map A5 p2))] (i64 r):=by
 refine C6 (fk func154 ntmps154 m0 (by with_unfolding_all rfl)) (nl W) ?_;unfold Y7 at h;refine B6 (s0:=⟨T [(0,(.d _)),(1,(.d _))],G []⟩) (F0 W W) ?_;refine lr<|fun u1 _=>sm W<|sv W<|A1<|A6<|B1<|sd W (B5 W A2 W W)<|bs h fun _ hv1 h=>B4 W W A4 (Ui _ _ hv1) (.inl W) (sv W<|A1<|B1<|sv W<|sv W<|A1<|cc W h (fun c1 h=> ?_)<|fun c1 h=> ?_);refine B1<|sv W<|sv W<|A1<|B2 ?_;cases h;exact A8 (.inr W) (B8 (B3 W) C2) (.refl _);refine A9<|A6<|A6<|E9 W<|sv W<|sd W (D5 W)<|sv W<|sv W<|gf W (fun _=>W)<|gf W (fun w2=>(D5<|A3 w2))<|gf W (vb W W W)<|sd W (P1 W W<|fun hc=>A3<|J9 hc)<|sv W<|gf W (fun _=>W)<|bs h fun _ hv2 h=>gf W (fun w5=>(C9 (A3 w5) W (C1 w5 hv2) W))<|gf W (fun w6=>(D2 (A3 w6) (C1 w6 hv2) W))<|gf W (vb W W W)<|sd W (P1 W W<|fun hc=>A3<|J9 hc)<|sv W<|gf W (fun _=>W)<|bs h fun _ hv3 h=>gf W (fun w9=>(C9 (A3 w9) W (C1 w9 hv3) W))<|gf W (fun w10=>(D2 (A3 w10) (C1 w10 hv3) W))<|gp W (L3 W) (fun _=>W) (gf W (vl W A2 W)<|gf W (fun w13=>(D5<|A3 w13))<|gf W (fun w14=>(N2 (A3 w14) (A3 w14) W))<|sd W (P1 W W<|fun hc=>A3<|J9 hc)<|sv W<|gf W (fun _=>(B5 W A2 W W))<|gf W (fun _=>W)<|bs h fun v4 hv4 h=>gf W (fun w17=>(C9 (A3 w17) W (C1 w17 hv4) W))<|gf W (fun w18=>(D2 (A3 w18) (C1 w18 hv4) W))<|bs h fun v5 hv5 h=> ?_);refine N7 _ (.list (List.map A5 v5)) (L3 W) (fun w19=>⟨_,[(.d (.agg (R6 p1))),(di v4)],_,_,(by simp only [A3 w19];rfl),W,A4,LH _ _ _<|C1 w19 hv5,(.inl W)⟩) ?_;refine gf W (fun w20=>(D5<|A3 w20))<|gf W (vb W W W)<|sd W (P1 W W<|fun hc=>A3<|J9 hc)<|A1<|cc W h (fun c2 h=> ?_)<|fun c2 h=> ?_;refine B1<|sv W<|A1<|B2 ?_;cases h;exact A8 (.inr W) (B8 (B3 W) C2) (.refl _);refine A9<|B1<|sv W<|bs h fun v6 hv6 h=>sd W (C9 W W hv6 W)<|sd W (D2 W hv6 W)<|sv W<|A1<|A6<|B1<|sv W<|bs h fun v7 hv7 h=>sd W (xP W (fun _=>W) (yZ W) vF hv7)<|sd W (D5 W)<|sv W<|A1<|js h fun z1 hz1 h=>D4 (fun s=> ∃(y1:Unit) (g1:Unit),z1= .inl y1∧Sb ⟨T [],G []⟩ s) ?_ ?_;refine A7<|D8 (R4 p1 v7) (fun (x1:(Int×Int)) (g2:Unit)=>⟨T [(2,(.ptr (2,u1) 0)),(6,(di x1.1)),(50,(dl A5 v7)),(51,(di (v7.length:Int))),(52,(di x1.2))],G [((2,u1),some<|.box 33 (M7 p1))]⟩) (v6,0) () _ hz1 (F0 W W) ?_;intro x1 g2 z2 hz2 ez2;unfold R4 at hz2;refine B1<|sv W<|A1<|A6<|cc W hz2 (fun c3 hz2=> ?_)<|fun c3 hz2=> ?_;refine A9<|A6<|A7<|B1<|bs hz2 fun _ hv8 hz2=>sd W (C9 W W hv8 W)<|sd W (D2 W hv8 W)<|sv W<|A1<|A6<|B1<|sq W<|sl W A2 W<|sv W<|bs hz2 fun _ hv9 hz2=>sd W (C9 W W hv9 W)<|sv W<|sd W (D2 W hv9 W)<|sv W<|bs hz2 fun v10 hv10 hz2=>B4 W W A4 (Es _ _ _ hv10) (.inl W) (B9 (.d (bo (!v10))) W W (A1<|cc W hz2 (fun c4 hz2=> ?_)<|fun c4 hz2=> ?_));refine B1<|sv W<|A1<|B2 ?_;cases hz2;obtain rfl:=ez2 _ rfl;refine ⟨nofun,F4 ?_⟩;rw [wE]at h;cases h;exact A8 (.inr W) (B8 (B3 W) C2) (.refl _);refine A9<|C0<|sv W<|sv W<|A1<|E1<|C0<|sv W<|sv W<|A1<|E3 ?_;cases hz2;exact ⟨W,(),(F0 W W)⟩;refine C7 W ?_;cases hz2;obtain rfl:=ez2 _ rfl;refine ⟨nofun,C5 W<|T4 ?_⟩;exact ⟨_,(),W,(F0 W W)⟩;rintro _ ⟨y1,g1,rfl,q1⟩;rw [wC]at h;refine B6 q1<|B1<|sv W<|A1<|B2 ?_;cases h;exact A8 (.inr W) (B8 (B3 W) C2) (.refl _)
def Y4 [Lp](p1:Map)(p2:(List Int))(x1:(Int× ((List Int)×Int))):Option (Stp (Int× ((List Int)×Int)) ((List Int)×Int)):=
  cond (decide (x1.1< (p2.length:Int))) ((C4 p2 x1.1).bind fun v2=>(X3 x1.2.1 [x1.2.2]).bind fun v3=>(Dm p1 v2).bind fun v4=>some (.go ((E5 (x1.1+1)),(v3,(E5 (x1.2.2+v4)))))) (some (.out x1.2))
def Av [Lp](p1:Map)(p2:(List Int)):Option RoadsWay:=
  (Y7 p1 p2).bind fun v1=>cond (v1 !=0) (some (RoadsWay.mk (Map.mk 0 [] [] [] []) [] [] 0)) ((loop (Y4 p1 p2) (0,([],0))).bind fun y1=>some (RoadsWay.mk p1 p2 y1.1 y1.2))
theorem Nc(p1 p2 r)(h:Av p1 p2=some r):PCall prog 205 [(.agg (R6 p1)),(.list (List.map A5 p2))] (.agg (gG r)):=by
 refine C6 (fk func205 ntmps205 (fun r=>if r==7 then [1004]else []) (by with_unfolding_all rfl)) (nl W) ?_;unfold Av at h;refine B6 (s0:=⟨T [(0,(.d _)),(1,(.d _))],G []⟩) (F0 W W) ?_;refine lr<|fun u1 _=>sm W<|sm W<|A1<|A6<|B1<|sd W (B5 W (gq W) W W)<|sv W<|bs h fun _ hv1 h=>B4 W W A4 (Tb _ _ _ hv1) (.inl W) (sv W<|A1<|cc W h (fun c1 h=> ?_)<|fun c1 h=> ?_);refine B1<|sv W<|T1 W A2 [(di 0),(.d .nilS),(.d .nilS),(.d .nilS),(.d .nilS),(.d .nilS),(.d .nilS),(di 0)] W (A1<|B2 ?_);cases h;exact A8 (.inr W) (B8 (J4 W A2 (nl W) W) C2) (.agg (ca W<|.cons ⟨DLe.nil,W⟩ (.cons ⟨DLe.nil,W⟩ (.cons ⟨DLe.nil,W⟩ (.cons ⟨DLe.nil,W⟩ (.cons ⟨DLe.nil,W⟩ (.cons ⟨DLe.nil,W⟩ (cz W))))))));refine A9<|lr<|fun u4 _=>sd W (B5 W (gq W) W W)<|sv W<|sv W<|sm W<|T1 W A2 ((M7 p1)++ [(dl A5 p2),(.d .nilS),(di 0)]) W (A1<|A6<|B1<|sv W<|sd W (D5 W)<|sv W<|A1<|bs h fun y1 hy1 h=>D4 (fun s=> ∃g1:Nat,Sb ⟨T [(4,(.ptr (4,u1) 0)),(5,(.ptr (5,u4) 0))],G [((4,u1),some<|.box 260 [(di 0),(.d .nilS),(.d .nilS),(.d .nilS),(.d .nilS),(.d .nilS),(.d .nilS),(di 0)]),((5,u4),some<|.box 260 ((M7 p1)++ [(dl A5 p2),(oS y1.1 (27,g1)),(di y1.2)])),((27,g1),oB 2 1 A5 y1.1)]⟩ s) ?_ ?_);refine A7<|D8 (Y4 p1 p2) (fun (x1:(Int× ((List Int)×Int))) (g2:Nat)=>⟨T [(2,(.ptr (2,u1) 0)),(4,(.ptr (4,u1) 0)),(5,(.ptr (5,u4) 0)),(16,(dl A5 p2)),(17,(di (p2.length:Int))),(18,(di x1.1))],G [((2,u1),some<|.box 33 (M7 p1)),((4,u1),some<|.box 260 [(di 0),(.d .nilS),(.d .nilS),(.d .nilS),(.d .nilS),(.d .nilS),(.d .nilS),(di 0)]),((5,u4),some<|.box 260 ((M7 p1)++ [(dl A5 p2),(oS x1.2.1 (27,g2)),(di x1.2.2)])),((27,g2),oB 2 1 A5 x1.2.1)]⟩) (0,([],0)) 0 _ hy1 (D0 (T6 W)<|sg W<|sg W<|B0 A2 (.of W)<|R7 trivial) ?_;intro x1 g2 z1 hz1 ez1;unfold Y4 at hz1;refine B1<|sv W<|A1<|A6<|cc W hz1 (fun c2 hz1=> ?_)<|fun c2 hz1=> ?_;refine A9<|A6<|A7<|B1<|bs hz1 fun _ hv2 hz1=>sd W (C9 W W hv2 W)<|sd W (D2 W hv2 W)<|sv W<|A1<|lr<|fun u8 _=>sq W<|B9 (oS x1.2.1 (27,g2)) W (R3 W (gq W) W) (sq W<|sl W (gq W) W (B9 (dl A5 [x1.2.2]) W W (bs hz1 fun _ hv3 hz1=>O6 A5 (27,g2) x1.2.1 x1.2.2 [] _ (J5<|fun _=>W) W (gq W) hv3 (sq W<|T1 W (gq W) ((M7 p1)++ [(dl A5 p2),(.sl (27,u8)),(di x1.2.2)]) W (A1<|E9 W<|sq W<|sl W A2 W<|sd W (B5 W (gq W) W W)<|sv W<|bs hz1 fun v4 hv4 hz1=>B4 W W A4 (Ra _ _ _ hv4) (.inl W) (sv W<|sq W<|T1 W A2 ((M7 p1)++ [(dl A5 p2),(.sl (27,u8)),(di<|E5 (x1.2.2+v4))]) W (A1<|E1<|C0<|sv W<|sv W<|A1<|E3 ?_)))))));cases hz1;exact ⟨W,u8,(D0 (T6 W)<|sg W<|sg W<|B0 A2 (.box (cv<|cv<|cv<|cv<|cv<|cv<|.cons (.of (T3<|S5 hv3).symm) cw))<|M6 (gq W) trivial)⟩;refine C7 W ?_;cases hz1;obtain rfl:=ez1 _ rfl;refine ⟨nofun,C5 W<|T4 ?_⟩;exact ⟨g2,(D0 (T6 W)<|sg W<|sg W<|B7 (gq W) trivial)⟩;rintro _ ⟨g1,q1⟩;refine B6 q1<|B1<|B9 (X6 ((M7 p1)++ [(dl A5 p2),(oS y1.1 (27,g1)),(di y1.2)])) W (B5 W (gq W) W W) (Hz _ _ _ _ _ (V3 _) W W A2 (nl W) ((M7 p1)++ [(dl A5 p2),(oS y1.1 (27,g1)),(di y1.2)]) W (A1<|B2 ?_));cases h;exact A8 (.inr W) (B8 (J4 W A2 (nl W) W)<|La<|rD<|rD<|rD<|rD<|rD<|rD<|E8 (T9<|gq W)<|rD F9) (.agg (ca W<|ca W<|ca W<|ca W<|ca W<|ca W<|.cons ⟨T8,W⟩ (cz W)))
def W8 [Lp](p1:Map)(p2:(List Int)):Option Int:=
  (Av p1 p2).bind fun v1=>some v1.length
theorem Ru(p1 p2 r)(h:W8 p1 p2=some r):PCall prog 155 [(.agg (R6 p1)),(.list (List.map A5 p2))] (i64 r):=by
 refine C6 (fk func155 ntmps155 m0 (by with_unfolding_all rfl)) (nl W) ?_;unfold W8 at h;refine B6 (s0:=⟨T [(0,(.d _)),(1,(.d _))],G []⟩) (F0 W W) ?_;refine B1<|sm W<|sv W<|A1<|B1<|sd W (B5 W A2 W W)<|sv W<|bs h fun _ hv1 h=>B4 W W A4 (Nc _ _ _ hv1) (.inl W) (sv W<|sv W<|A1<|B2 ?_);cases h;exact A8 (.inr W) (B8 (B3 W) C2) (.refl _)
def Cn [Lp](p1:Map)(p2:(List Int)):Option (List Int):=
  (Av p1 p2).bind fun v1=>some v1.starts
theorem Sh(p1 p2 r)(h:Cn p1 p2=some r):PCall prog 139 [(.agg (R6 p1)),(.list (List.map A5 p2))] (.list (List.map A5 r)):=by
 refine C6 (fk func139 ntmps139 m0 (by with_unfolding_all rfl)) (nl W) ?_;unfold Cn at h;refine B6 (s0:=⟨T [(0,(.d _)),(1,(.d _))],G []⟩) (F0 W W) ?_;refine B1<|sm W<|sv W<|A1<|B1<|sd W (B5 W A2 W W)<|sv W<|bs h fun _ hv1 h=>B4 W W A4 (Nc _ _ _ hv1) (.inl W) (sv W<|sv W<|A1<|B2 ?_);cases h;exact A8 (.inr W) (B8 (B3 W) C2) (.refl _)
def Km (p2:Agent)(v1:(List Int))(x1:Int):Option (Stp Int Int):=
  (C4 v1 x1).bind fun v2=>cond (decide (v2>p2.S)) (some (.go (E5 (x1 - 1)))) (some (.out x1))
def Jk [Lp](p1:Map)(p2:Agent):Option (Int×Int):=
  (Cn p1 p2.Route).bind fun v1=>(loop (Km p2 v1) (E5 ((v1.length:Int) - 1))).bind fun y1=>(C4 p2.Route y1).bind fun v3=>(C4 v1 y1).bind fun v4=>some (v3,(E5 (p2.S - v4)))
theorem ED(p1 p2 r)(h:Jk p1 p2=some r):PCall prog 156 [(.agg (R6 p1)),(.agg (D1 p2))] (.tup [(i64 r.1),(i64 r.2)]):=by
 refine C6 (fk func156 ntmps156 m0 (by with_unfolding_all rfl)) (nl W) ?_;unfold Jk at h;refine B6 (s0:=⟨T [(0,(.d _)),(1,(.d _))],G []⟩) (F0 W W) ?_;refine lr<|fun u1 _=>sm W<|sm W<|sv W<|sv W<|A1<|B1<|sd W (B5 W (gq W) W W)<|sq W<|sl W A2 W<|bs h fun v1 hv1 h=>B4 W W A4 (Sh _ _ _ hv1) (.inl W) (sv W<|A1<|B1<|sv W<|sd W (D5 W)<|sv W<|sv W<|A1<|A6<|bs h fun y1 hy1 h=>D4 (fun s=> ∃g1:Unit,Sb ⟨T [(3,(.ptr (3,u1) 0)),(6,(dl A5 v1)),(7,(di y1))],G [((3,u1),some<|.box 45 (O8 p2))]⟩ s) ?_ ?_);refine A7<|D8 (Km p2 v1) (fun (x1:Int) (g2:Unit)=>⟨T [(3,(.ptr (3,u1) 0)),(6,(dl A5 v1)),(7,(di x1))],G [((3,u1),some<|.box 45 (O8 p2))]⟩) (E5 ((v1.length:Int) - 1)) () _ hy1 (F0 W W) ?_;intro x1 g2 z1 hz1 ez1;unfold Km at hz1;refine A6<|A6<|E9 W<|sv W<|sv W<|bs hz1 fun _ hv2 hz1=>sd W (C9 W W hv2 W)<|sd W (D2 W hv2 W)<|sq W<|sl W A2 W<|sv W<|A1<|cc W hz1 (fun c1 hz1=> ?_)<|fun c1 hz1=> ?_;refine A9<|A7<|C0<|sv W<|sv W<|sv W<|A1<|E1<|E3 ?_;cases hz1;exact ⟨W,(),(F0 W W)⟩;refine C7 W ?_;cases hz1;obtain rfl:=ez1 _ rfl;refine ⟨nofun,C5 W<|T4 ?_⟩;exact ⟨(),(F0 W W)⟩;rintro _ ⟨g1,q1⟩;refine B6 q1<|A6<|E9 W<|sq W<|sl W A2 W<|sv W<|bs h fun _ hv3 h=>sd W (C9 W W hv3 W)<|sd W (D2 W hv3 W)<|sq W<|sl W A2 W<|sv W<|sv W<|bs h fun _ hv4 h=>sd W (C9 W W hv4 W)<|sd W (D2 W hv4 W)<|sv W<|sv W<|sv W<|A1<|B2 ?_;cases h;exact A8 (.inr W) (Jy (B3 W) (B3 W) C2 C2) (.refl _)
def Aw (p1:Agent):Option WorldSpan:=
  some (WorldSpan.mk (E5 (p1.S - p1.Len)) p1.S)
theorem Kn(p1 r)(h:Aw p1=some r):PCall prog 140 [(.agg (D1 p1))] (.agg [(i64 r.from_),(i64 r.to)]):=by
 refine C6 (fk func140 ntmps140 m0 (by with_unfolding_all rfl)) (nl W) ?_;unfold Aw at h;refine B6 (s0:=⟨T [(0,(.d _))],G []⟩) (F0 W W) ?_;refine B1<|sm W<|sn W W<|A1<|B1<|sq W<|sl W (gq W) W (sq W<|sl W (gq W) W (sv W<|sq W<|sl W (gq W) W (sv W<|T1 W A2 [(di<|E5 (p1.S - p1.Len)),(di p1.S)] W (A1<|B2 ?_))));cases h;exact A8 (.inr W) (B8 (J4 W A2 (nl W) W) C2) (.refl _)
def Gx [Lp](p1:Map)(p2:Agent):Option Bool:=
  (Aw p2).bind fun v1=>(W8 p1 p2.Route).bind fun v2=>some (decide (v1.from_>v2))
theorem EE(p1 p2 r)(h:Gx p1 p2=some r):PCall prog 158 [(.agg (R6 p1)),(.agg (D1 p2))] (bo r):=by
 refine C6 (fk func158 ntmps158 m0 (by with_unfolding_all rfl)) (nl W) ?_;unfold Gx at h;refine B6 (s0:=⟨T [(0,(.d _)),(1,(.d _))],G []⟩) (F0 W W) ?_;refine B1<|sm W<|sn W W<|sv W<|A1<|A6<|E9 W<|sd W (B5 W A2 W W)<|bs h fun _ hv1 h=>B4 W W A4 (Kn _ _ hv1) (.inl W) (sv W<|sd W (B5 W (gq W) W W)<|sq W<|sl W A2 W<|bs h fun _ hv2 h=>B4 W W A4 (Ru _ _ _ hv2) (.inl W) (sv W<|sv W<|A1<|B2 ?_));cases h;exact A8 (.inr W) (B8 (B3 W) C2) (.refl _)
def Ai [Lp](p1:Map)(p2:State)(p3:Int):Option Int:=
  (C4 p2.Agents p3).bind fun v1=>(Y7 p1 v1.Route).bind fun v2=>cond (v2 !=0) (some 13) (((cond (!(((((decide (v1.Len<300))||(decide (v1.Len>20000)))||(decide (v1.Begin<0)))||(decide (v1.Begin>1099511627776)))||(decide (v1.S<0)))) (W8 p1 v1.Route) (some default))).bind fun v3=>cond ((((((decide (v1.Len<300))||(decide (v1.Len>20000)))||(decide (v1.Begin<0)))||(decide (v1.Begin>1099511627776)))||(decide (v1.S<0)))||(decide (v1.S>(E5 ((E5 (v3+v1.Len))+2000))))) (some 2) ((Jk p1 v1).bind fun v4=>(C4 p1.Lanes v4.1).bind fun v5=>(Fz v5.Kind).bind fun v6=>cond ((decide (v1.V<0))||(decide (v1.V>v6.1))) (some 2) ((Gx p1 v1).bind fun v7=>cond ((!(v1.Gone==v7))||(((decide (v1.Begin>p2.Tick))&& (v1.S !=0))||((p3==0)&& (v1.Begin !=0)))) (some 10) (some 0))))
theorem DQ(p1 p2 p3 r)(h:Ai p1 p2 p3=some r):PCall prog 72 [(.agg (R6 p1)),(.agg (W2 p2)),(i64 p3)] (i64 r):=by
 refine C6 (fk func72 ntmps72 m0 (by with_unfolding_all rfl)) (nl W) ?_;unfold Ai at h;refine B6 (s0:=⟨T [(0,(.d _)),(1,(.d _)),(2,(.d _))],G []⟩) (F0 W W) ?_;refine B1<|sm W<|sn W W<|sv W<|A1<|B1<|sq W<|sl W A2 W<|sv W<|bs h fun v1 hv1 h=>sd W (C9 W W hv1 W)<|sd W (D7 W hv1 W W)<|sm W<|T1 W A2 (O8 v1) W (A1<|A6<|B1<|sd W (B5 W (gq W) W W)<|sq W<|sl W A2 W<|bs h fun _ hv2 h=>B4 W W A4 (Tb _ _ _ hv2) (.inl W) (sv W<|A1<|cc W h (fun c1 h=> ?_)<|fun c1 h=> ?_));refine B1<|sv W<|A1<|B2 ?_;cases h;exact A8 (.inr W) (B8 (B3 W) C2) (.refl _);refine A9<|A6<|A6<|E9 W<|sq W<|sl W A2 W<|sv W<|sv W<|gp W (L3 W) (fun _=>W) (gf W (vl W A2 W)<|gf W (vb W W W)<|sd W (P1 W W<|fun hc=>A3<|J9 hc)<|sv W<|gp W (L3 W) (fun _=>W) (gf W (vl W A2 W)<|gf W (vb W W W)<|sd W (P1 W W<|fun hc=>A3<|J9 hc)<|sv W<|gp W (L3 W) (fun _=>W) (gf W (vl W A2 W)<|gf W (vb W W W)<|sd W (P1 W W<|fun hc=>A3<|J9 hc)<|sv W<|gp W (L3 W) (fun _=>W) (gf W (vl W A2 W)<|gf W (vb W W W)<|sd W (P1 W W<|fun hc=>A3<|J9 hc)<|sv W<|gp W (L3 W) (fun _=>W) (gf W (vl W A2 W)<|gf W (fun _=>(B5 W (gq W) W W))<|gp W (L3 W) (fun _=>W) (gf W (vl W A2 W)<|bs h fun v3 hv3 h=> ?_))))));refine N7 _ (i64 v3) (L3 W) (fun w18=>⟨_,[(.d (.agg (R6 p1))),(dl A5 v1.Route)],_,_,(by simp only [A3 w18];rfl),W,A4,Ru _ _ _<|C1 w18 hv3,(.inl W)⟩) ?_;refine gp W (L3 W) (fun _=>W) (gf W (vl W A2 W)<|gf W (fun w21=>(N2 (A3 w21) (A3 w21) W))<|gf W (vb W W W)<|gf W (fun w23=>(N2 (A3 w23) (A3 w23) W))<|sd W (P1 W W<|fun hc=>A3<|J9 hc)<|A1<|cc W h (fun c2 h=> ?_)<|fun c2 h=> ?_);refine B1<|sv W<|A1<|B2 ?_;cases h;exact A8 (.inr W) (B8 (B3 W) C2) (.refl _);refine A9<|B1<|sd W (B5 W (gq W) W W)<|sd W (B5 W A2 W W)<|bs h fun _ hv4 h=>B4 W W A4 (ED _ _ _ hv4) (.inl W) (sv W<|sv W<|sv W<|sv W<|sv W<|A1<|A6<|B1<|sq W<|sl W (gq W) W (sv W<|bs h fun _ hv5 h=>sd W (C9 W W hv5 W)<|sv W<|sd W (D2 W hv5 W)<|bs h fun _ hv6 h=>B4 W W A4 (Nb _ _ hv6) (.inl W) (sv W<|sv W<|sv W<|sv W<|sv W<|sv W<|sv W<|A1<|B1<|sq W<|sl W A2 W<|sv W<|sv W<|gp W (L3 W) (fun _=>W) (gf W (vl W A2 W)<|gf W (fun _=>W)<|gf W (fun w27=>(N2 (A3 w27) (A3 w27) W))<|sd W (P1 W W<|fun hc=>A3<|J9 hc)<|A1<|cc W h (fun c3 h=> ?_)<|fun c3 h=> ?_))));refine B1<|sv W<|A1<|B2 ?_;cases h;exact A8 (.inr W) (B8 (B3 W) C2) (.refl _);refine A9<|B1<|sq W<|sl W A2 W<|sq W<|sl W (gq W) W (sv W<|sv W<|gp W (L9 W) (fun _=>W) (gt W (vl W A2 W)<|gt W (vb W W W)<|sa W W W<|sv W<|gf W (fun _=>W)<|gf W (vb W W W)<|gf W (fun w33=>(TX<|A3 w33))<|M9 _ (.ptr _ _) W (W1 W) (fun _=>W) (gv W (W1 W) (vl W A2 W) (gv W (W1 W) (vb W W W) (gf W (fun w37=>(KH (A3 w37) (fun hc=>A3<|HA w37 hc) W))<|sd W (P1 W W<|fun hc=>A3<|J9 hc)<|sv W<|A1<|A6<|A6<|E9 W<|sq W<|sl W A2 W<|sd W (B5 W (gq W) W W)<|sd W (B5 W A2 W W)<|bs h fun v7 hv7 h=>B4 W W A4 (EE _ _ _ hv7) (.inl W) (B9 (.d (bo (!(v1.Gone==v7)))) W W (sv W<|gf W (fun _=>W)<|sd W (P1 W W<|fun hc=>A3<|J9 hc)<|A1<|cc W h (fun c4 h=> ?_)<|fun c4 h=> ?_)))))));refine B1<|sv W<|A1<|B2 ?_;cases h;exact A8 (.inr W) (B8 (B3 W) C2) (.refl _);refine A9<|B1<|sv W<|A1<|B2 ?_;cases h;exact A8 (.inr W) (B8 (B3 W) C2) (.refl _)
def Ko (p1:Int):Option Bool:=
  some (p1 !=p1)
theorem Xo(p1 r)(h:Ko p1=some r):PCall prog 216 [(i64 p1)] (bo r):=by
 refine C6 (fk func216 ntmps216 m0 (by with_unfolding_all rfl)) (nl W) ?_;unfold Ko at h;refine B6 (s0:=⟨T [(0,(.d _))],G []⟩) (F0 W W) ?_;refine B1<|sv W<|A1<|B1<|sv W<|sv W<|sv W<|sv W<|A1<|B2 ?_;cases h;exact A8 (.inr W) (B8 (B3 W) C2) (.refl _)
def Aa (p1:Int)(p2:Int):Option Int:=
  (Ko p1).bind fun v1=>(Ko p2).bind fun v2=>cond v1 (cond v2 (some 0) (some (-1))) (cond v2 (some 1) (cond (decide (p1<p2)) (some (-1)) (cond (decide (p1>p2)) (some 1) (some 0))))
theorem Jl(p1 p2 r)(h:Aa p1 p2=some r):PCall prog 160 [(i64 p1),(i64 p2)] (i64 r):=by
 refine C6 (fk func160 ntmps160 m0 (by with_unfolding_all rfl)) (nl W) ?_;unfold Aa at h;refine B6 (s0:=⟨T [(0,(.d _)),(1,(.d _))],G []⟩) (F0 W W) ?_;refine B1<|sv W<|A1<|B1<|sv W<|bs h fun _ hv1 h=>B4 W W A4 (Xo _ _ hv1) (.inl W) (sv W<|A1<|B1<|sv W<|bs h fun _ hv2 h=>B4 W W A4 (Xo _ _ hv2) (.inl W) (sv W<|A1<|A6<|B1<|sv W<|A1<|cc W h (fun c1 h=> ?_)<|fun c1 h=> ?_));refine A6<|B1<|sv W<|A1<|cc W h (fun c2 h=> ?_)<|fun c2 h=> ?_;refine B1<|sv W<|A1<|B2 ?_;cases h;exact A8 (.inr W) (B8 (B3 W) C2) (.refl _);refine A9<|B1<|sv W<|A1<|B2 ?_;cases h;exact A8 (.inr W) (B8 (B3 W) C2) (.refl _);refine A9<|A6<|B1<|sv W<|A1<|cc W h (fun c3 h=> ?_)<|fun c3 h=> ?_;refine B1<|sv W<|A1<|B2 ?_;cases h;exact A8 (.inr W) (B8 (B3 W) C2) (.refl _);refine A9<|A6<|B1<|sv W<|sv W<|sv W<|A1<|cc W h (fun c4 h=> ?_)<|fun c4 h=> ?_;refine B1<|sv W<|A1<|B2 ?_;cases h;exact A8 (.inr W) (B8 (B3 W) C2) (.refl _);refine A9<|A6<|B1<|sv W<|sv W<|sv W<|A1<|cc W h (fun c5 h=> ?_)<|fun c5 h=> ?_;refine B1<|sv W<|A1<|B2 ?_;cases h;exact A8 (.inr W) (B8 (B3 W) C2) (.refl _);refine A9<|B1<|sv W<|A1<|B2 ?_;cases h;exact A8 (.inr W) (B8 (B3 W) C2) (.refl _)
def Ap (p1:(List Int))(x1:Int):Option (Stp Int (Sum Unit Int)):=
  cond (decide (x1< (p1.length:Int))) ((C4 p1 x1).bind fun v1=>cond (v1 !=0) (some (.out (.inr v1))) (some (.go (E5 (x1+1))))) (some (.out (.inl ())))
def Cd [Lp](p1:(List Int)):Option Int:=
  thenS (loop (Ap p1) 0) (fun _=>some 0) (fun r=>some r)
theorem Wq(p1 r)(h:Cd p1=some r):PCall prog 159 [(.list (List.map A5 p1))] (i64 r):=by
 refine C6 (fk func159 ntmps159 m0 (by with_unfolding_all rfl)) (nl W) ?_;unfold Cd at h;refine B6 (s0:=⟨T [(0,(.d _))],G []⟩) (F0 W W) ?_;refine B1<|sv W<|A1<|B1<|sv W<|A1<|A6<|B1<|sv W<|sd W (D5 W)<|sv W<|A1<|js h fun z1 hz1 h=>D4 (fun s=> ∃(y1:Unit) (g1:Unit),z1= .inl y1∧Sb ⟨T [(3,(di 0))],G []⟩ s) ?_ ?_;refine A7<|D8 (Ap p1) (fun (x1:Int) (g2:Unit)=>⟨T [(3,(di 0)),(6,(dl A5 p1)),(7,(di (p1.length:Int))),(8,(di x1))],G []⟩) 0 () _ hz1 (F0 W W) ?_;intro x1 g2 z2 hz2 ez2;unfold Ap at hz2;refine B1<|sv W<|A1<|A6<|cc W hz2 (fun c1 hz2=> ?_)<|fun c1 hz2=> ?_;refine A9<|A6<|A7<|B1<|bs hz2 fun _ hv1 hz2=>sd W (C9 W W hv1 W)<|sd W (D2 W hv1 W)<|sv W<|A1<|B1<|sv W<|sv W<|sv W<|A1<|cc W hz2 (fun c2 hz2=> ?_)<|fun c2 hz2=> ?_;refine B1<|sv W<|sv W<|A1<|B2 ?_;cases hz2;obtain rfl:=ez2 _ rfl;refine ⟨nofun,F4 ?_⟩;rw [wE]at h;cases h;exact A8 (.inr W) (B8 (B3 W) C2) (.refl _);refine A9<|E1<|C0<|sv W<|sv W<|A1<|E3 ?_;cases hz2;exact ⟨W,(),(F0 W W)⟩;refine C7 W ?_;cases hz2;obtain rfl:=ez2 _ rfl;refine ⟨nofun,C5 W<|T4 ?_⟩;exact ⟨_,(),W,(F0 W W)⟩;rintro _ ⟨y1,g1,rfl,q1⟩;rw [wC]at h;refine B6 q1<|B1<|sv W<|sv W<|A1<|B2 ?_;cases h;exact A8 (.inr W) (B8 (B3 W) C2) (.refl _)
def Eb [Lp](p1:Stay)(p2:Stay):Option Int:=
  (Aa p1.Agent_ p2.Agent_).bind fun v1=>(Aa p1.Zone_ p2.Zone_).bind fun v2=>(Cd [v1,v2]).bind fun v3=>some v3
theorem Uj(p1 p2 r)(h:Eb p1 p2=some r):PCall prog 73 [(.agg (I4 p1)),(.agg (I4 p2))] (i64 r):=by
 refine C6 (fk func73 ntmps73 (fun r=>if r==1 then [1010]else []) (by with_unfolding_all rfl)) (nl W) ?_;unfold Eb at h;refine B6 (s0:=⟨T [(0,(.d _)),(1,(.d _))],G []⟩) (F0 W W) ?_;refine B1<|sm W<|sn W W<|sv W<|A1<|A6<|E9 W<|sq W<|sl W (gq W) W (sq W<|sl W A2 W<|bs h fun v1 hv1 h=>B4 W W A4 (Jl _ _ _ hv1) (.inl W) (sq W<|sl W (gq W) W (sq W<|sl W A2 W<|bs h fun v2 hv2 h=>B4 W W A4 (Jl _ _ _ hv2) (.inl W) (B9 (dl A5 [v1,v2]) W W (bs h fun _ hv3 h=>B4 W W A4 (Wq _ _ hv3) (.inl W) (sv W<|A1<|B2 ?_))))));cases h;exact A8 (.inr W) (B8 (B3 W) C2) (.refl _)
def Nd (p1:Stay)(p2:State):Option Bool:=
  some ((((decide (p1.Since<0))||(decide (p1.Since>p2.Tick)))||(decide (p1.Rank<0)))||(decide (p1.Rank>100)))
theorem FL(p1 p2 r)(h:Nd p1 p2=some r):PCall prog 75 [(.agg (I4 p1)),(.bp (W2 p2) 0)] (bo r):=by
 refine C6 (fk func75 ntmps75 m0 (by with_unfolding_all rfl)) (nl W) ?_;unfold Nd at h;refine B6 (s0:=⟨T [(0,(.d _)),(1,(.d _))],G []⟩) (F0 W W) ?_;refine B1<|sm W<|sv W<|A1<|B1<|sq W<|sl W A2 W<|sv W<|sv W<|gp W (L3 W) (fun _=>W) (gf W (vl W A2 W)<|gf W (fun _=>W) ?_);refine gf W (fun w4=>(by simp only [A3 w4];rfl)) ?_;refine gf W (fun w5=>(N2 (A3 w5) (A3 w5) W))<|sd W (P1 W W<|fun hc=>A3<|J9 hc)<|sv W<|gp W (L3 W) (fun _=>W) (gf W (vl W A2 W)<|gf W (vb W W W)<|sd W (P1 W W<|fun hc=>A3<|J9 hc)<|sv W<|gp W (L3 W) (fun _=>W) (gf W (vl W A2 W)<|gf W (vb W W W)<|sd W (P1 W W<|fun hc=>A3<|J9 hc)<|sv W<|A1<|B2 ?_));cases h;exact A8 (.inr W) (B8 (B3 W) C2) (.refl _)
def N0 (p1:(List Stay))(p2:State)(x1:Int):Option (Stp Int (Sum Unit Int)):=
  cond (decide (x1< (p1.length:Int))) ((C4 p1 x1).bind fun v1=>(Nd v1 p2).bind fun v2=>cond v2 (some (.out (.inr x1))) (some (.go (E5 (x1+1))))) (some (.out (.inl ())))
def K6 [Lp](p1:(List Stay))(p2:State):Option Int:=
  thenS (loop (N0 p1 p2) 0) (fun _=>some (-1)) (fun r=>some r)
theorem Ig(p1 p2 r)(h:K6 p1 p2=some r):PCall prog 161 [(.list (List.map I4 p1)),(.fn (.func 75) [] [(.bp (W2 p2) 0)])] (i64 r):=by
 refine C6 (fk func161 ntmps161 m0 (by with_unfolding_all rfl)) (nl W) ?_;unfold K6 at h;refine B6 (s0:=⟨T [(0,(.d _)),(1,(.d _))],G []⟩) (F0 W W) ?_;refine B1<|sv W<|A1<|A6<|B1<|sv W<|sd W (D5 W)<|sv W<|A1<|js h fun z1 hz1 h=>D4 (fun s=> ∃(y1:Unit) (g1:Unit),z1= .inl y1∧Sb ⟨T [],G []⟩ s) ?_ ?_;refine A7<|D8 (N0 p1 p2) (fun (x1:Int) (g2:Unit)=>⟨T [(0,(dl I4 p1)),(1,(.d (.fn (.func 75) [] [(.bp (W2 p2) 0)]))),(7,(di (p1.length:Int))),(8,(di x1))],G []⟩) 0 () _ hz1 (F0 W W) ?_;intro x1 g2 z2 hz2 ez2;unfold N0 at hz2;refine B1<|sv W<|A1<|A6<|cc W hz2 (fun c1 hz2=> ?_)<|fun c1 hz2=> ?_;refine A9<|A6<|A7<|B1<|sv W<|sv W<|A1<|B1<|sv W<|sv W<|sv W<|bs hz2 fun _ hv1 hz2=>sd W (C9 W W hv1 W)<|sd W (D7 W hv1 W W)<|bs hz2 fun _ hv2 hz2=>B4 W W A4 (FL _ _ _ hv2) (.inl W) (A1<|cc W hz2 (fun c2 hz2=> ?_)<|fun c2 hz2=> ?_);refine B1<|sv W<|sv W<|A1<|B2 ?_;cases hz2;obtain rfl:=ez2 _ rfl;refine ⟨nofun,F4 ?_⟩;rw [wE]at h;cases h;exact A8 (.inr W) (B8 (B3 W) C2) (.refl _);refine A9<|E1<|C0<|sv W<|sv W<|A1<|E3 ?_;cases hz2;exact ⟨W,(),(F0 W W)⟩;refine C7 W ?_;cases hz2;obtain rfl:=ez2 _ rfl;refine ⟨nofun,C5 W<|T4 ?_⟩;exact ⟨_,(),W,(F0 W W)⟩;rintro _ ⟨y1,g1,rfl,q1⟩;rw [wC]at h;refine B6 q1<|B1<|sv W<|A1<|B2 ?_;cases h;exact A8 (.inr W) (B8 (B3 W) C2) (.refl _)
def G0 [Lp](p1:(List Stay))(p2:State):Option Bool:=
  (K6 p1 p2).bind fun v1=>some (decide (v1≥0))
theorem Gf(p1 p2 r)(h:G0 p1 p2=some r):PCall prog 74 [(.list (List.map I4 p1)),(.fn (.func 75) [] [(.bp (W2 p2) 0)])] (bo r):=by
 refine C6 (fk func74 ntmps74 m0 (by with_unfolding_all rfl)) (nl W) ?_;unfold G0 at h;refine B6 (s0:=⟨T [(0,(.d _)),(1,(.d _))],G []⟩) (F0 W W) ?_;refine B1<|sv W<|A1<|B1<|sv W<|sv W<|bs h fun _ hv1 h=>B4 W W A4 (Ig _ _ _ hv1) (.inl W) (sv W<|sv W<|A1<|B2 ?_);cases h;exact A8 (.inr W) (B8 (B3 W) C2) (.refl _)
def Ax [Lp](p1:Map)(p2:State)(x2:Int):Option (Stp Int (Sum Unit Int)):=
  cond (decide (x2< (p2.In.length:Int))) ((C4 p2.In x2).bind fun v3=>((cond ((!((((decide (v3.Agent_<0))||(decide (v3.Agent_≥(p2.Agents.length:Int))))||(decide (v3.Zone_<0)))||(decide (v3.Zone_≥(p1.Zones.length:Int)))))&& (decide (x2>0))) (C4 p2.In (E5 (x2 - 1))) (some default))).bind fun v4=>((cond ((!((((decide (v3.Agent_<0))||(decide (v3.Agent_≥(p2.Agents.length:Int))))||(decide (v3.Zone_<0)))||(decide (v3.Zone_≥(p1.Zones.length:Int)))))&& (decide (x2>0))) (Eb v4 v3) (some default))).bind fun v5=>cond (((((decide (v3.Agent_<0))||(decide (v3.Agent_≥(p2.Agents.length:Int))))||(decide (v3.Zone_<0)))||(decide (v3.Zone_≥(p1.Zones.length:Int))))||((decide (x2>0))&& (decide (v5≥0)))) (some (.out (.inr 11))) (some (.go (E5 (x2+1))))) (some (.out (.inl ())))
def Ay [Lp](p1:Map)(p2:State)(x1:Int):Option (Stp Int (Sum Unit Int)):=
  cond (decide (x1< (p2.Agents.length:Int))) ((Ai p1 p2 x1).bind fun v2=>cond (v2 !=0) (some (.out (.inr v2))) (some (.go (E5 (x1+1))))) (some (.out (.inl ())))
def Ec [Lp](p1:Map)(p2:State):Option Int:=
  (Cw p1).bind fun v1=>cond (v1 !=0) (some v1) (cond ((decide (p2.Tick<0))||(decide (p2.Tick>1099511627776))) (some 2) (cond ((p2.Agents.length:Int)==0) (some 6) (cond (decide ((p2.Agents.length:Int)>8)) (some 8) (thenS (loop (Ay p1 p2) 0) (fun _=>thenS (loop (Ax p1 p2) 0) (fun _=>(G0 p2.In p2).bind fun v6=>cond v6 (some 2) (some 0)) (fun r=>some r)) (fun r=>some r)))))
theorem Uk(p1 p2 r)(h:Ec p1 p2=some r):PCall prog 24 [(.agg (R6 p1)),(.agg (W2 p2))] (i64 r):=by
 refine C6 (fk func24 ntmps24 m0 (by with_unfolding_all rfl)) (nl W) ?_;unfold Ec at h;refine B6 (s0:=⟨T [(0,(.d _)),(1,(.d _))],G []⟩) (F0 W W) ?_;refine lr<|fun u1 _=>sm W<|sm W<|sv W<|A1<|A6<|B1<|sd W (B5 W (gq W) W W)<|bs h fun _ hv1 h=>B4 W W A4 (Ui _ _ hv1) (.inl W) (sv W<|A1<|B1<|sv W<|sv W<|A1<|cc W h (fun c1 h=> ?_)<|fun c1 h=> ?_);refine B1<|sv W<|sv W<|A1<|B2 ?_;cases h;exact A8 (.inr W) (B8 (B3 W) C2) (.refl _);refine A9<|A6<|B1<|sq W<|sl W A2 W<|sd W (D5 W)<|sv W<|A1<|A7<|B1<|sq W<|sl W A2 W<|sv W<|sv W<|gp W (L3 W) (fun _=>W) (gf W (vl W A2 W)<|gf W (vb W W W)<|sd W (P1 W W<|fun hc=>A3<|J9 hc)<|sv W<|A1<|cc W h (fun c2 h=> ?_)<|fun c2 h=> ?_);refine B1<|sv W<|A1<|B2 ?_;cases h;exact A8 (.inr W) (B8 (B3 W) C2) (.refl _);refine B1<|sv W<|sv W<|sv W<|A1<|cc W h (fun c3 h=> ?_)<|fun c3 h=> ?_;refine B1<|sv W<|A1<|B2 ?_;cases h;exact A8 (.inr W) (B8 (B3 W) C2) (.refl _);refine B1<|sv W<|sv W<|sv W<|A1<|cc W h (fun c4 h=> ?_)<|fun c4 h=> ?_;refine B1<|sv W<|A1<|B2 ?_;cases h;exact A8 (.inr W) (B8 (B3 W) C2) (.refl _);refine A9<|E1<|A6<|B1<|sq W<|sl W A2 W<|sd W (D5 W)<|sv W<|A1<|js h fun z1 hz1 h=>D4 (fun s=> ∃(y1:Unit) (g1:Unit),z1= .inl y1∧Sb ⟨T [(2,(.ptr (2,u1) 0)),(3,(.ptr (3,u1) 0))],G [((2,u1),some<|.box 33 (M7 p1)),((3,u1),some<|.box 25 (F6 p2))]⟩ s) ?_ ?_;refine A7<|D8 (Ay p1 p2) (fun (x1:Int) (g2:Unit)=>⟨T [(2,(.ptr (2,u1) 0)),(3,(.ptr (3,u1) 0)),(36,(di (p2.Agents.length:Int))),(37,(di x1))],G [((2,u1),some<|.box 33 (M7 p1)),((3,u1),some<|.box 25 (F6 p2))]⟩) 0 () _ hz1 (F0 W W) ?_;intro x1 g2 z2 hz2 ez2;unfold Ay at hz2;refine B1<|sv W<|A1<|A6<|cc W hz2 (fun c5 hz2=> ?_)<|fun c5 hz2=> ?_;refine A9<|A6<|A7<|B1<|sv W<|sv W<|A1<|B1<|sd W (B5 W A2 W W)<|sd W (B5 W (gq W) W W)<|sv W<|bs hz2 fun _ hv2 hz2=>B4 W W A4 (DQ _ _ _ _ hv2) (.inl W) (sv W<|A1<|B1<|sv W<|sv W<|A1<|cc W hz2 (fun c6 hz2=> ?_)<|fun c6 hz2=> ?_);refine B1<|sv W<|sv W<|A1<|B2 ?_;cases hz2;obtain rfl:=ez2 _ rfl;refine ⟨nofun,F4 ?_⟩;rw [wE]at h;cases h;exact A8 (.inr W) (B8 (B3 W) C2) (.refl _);refine A9<|E1<|C0<|sv W<|sv W<|A1<|E3 ?_;cases hz2;exact ⟨W,(),(F0 W W)⟩;refine C7 W ?_;cases hz2;obtain rfl:=ez2 _ rfl;refine ⟨nofun,C5 W<|T4 ?_⟩;exact ⟨_,(),W,(F0 W W)⟩;rintro _ ⟨y1,g1,rfl,q1⟩;rw [wC]at h;refine B6 q1<|A6<|B1<|sq W<|sl W (gq W) W (sd W (D5 W)<|sv W<|A1<|js h fun z3 hz3 h=>D4 (fun s=> ∃(y2:Unit) (g3:Unit),z3= .inl y2∧Sb ⟨T [(3,(.ptr (3,u1) 0))],G [((3,u1),some<|.box 25 (F6 p2))]⟩ s) ?_ ?_);refine A7<|D8 (Ax p1 p2) (fun (x2:Int) (g4:Unit)=>⟨T [(2,(.ptr (2,u1) 0)),(3,(.ptr (3,u1) 0)),(49,(dl I4 p2.In)),(50,(di (p2.In.length:Int))),(51,(di x2))],G [((2,u1),some<|.box 33 (M7 p1)),((3,u1),some<|.box 25 (F6 p2))]⟩) 0 () _ hz3 (F0 W W) ?_;intro x2 g4 z4 hz4 ez4;unfold Ax at hz4;refine B1<|sv W<|A1<|A6<|cc W hz4 (fun c7 hz4=> ?_)<|fun c7 hz4=> ?_;refine A9<|A6<|A7<|B1<|sv W<|bs hz4 fun v3 hv3 hz4=>sd W (C9 W W hv3 W)<|sd W (D7 W hv3 W W)<|sm W<|sv W<|T1 W A2 (Xm v3) W (A1<|A6<|E9 W<|sq W<|sl W A2 W<|sv W<|sv W<|gp W (L3 W) (fun _=>W) (gf W (vl W A2 W)<|gp W (L3 W) (fun _=>W) (gf W (vl W (gq W) W)<|gf W (fun w8=>(D5<|A3 w8))<|gf W (fun w9=>(N2 (A3 w9) (A3 w9) W))<|sd W (P1 W W<|fun hc=>A3<|J9 hc)<|sv W<|gp W (L3 W) (fun _=>W) (gf W (vl W A2 W)<|gf W (vb W W W)<|sd W (P1 W W<|fun hc=>A3<|J9 hc)<|sv W<|gp W (L3 W) (fun _=>W) (gf W (vl W A2 W)<|gp W (L3 W) (fun _=>W) (gf W (vl W (gq W) W)<|gf W (fun w17=>(D5<|A3 w17))<|gf W (fun w18=>(N2 (A3 w18) (A3 w18) W))<|sd W (P1 W W<|fun hc=>A3<|J9 hc)<|sv W<|gf W (fun _=>W)<|gf W (vb W W W)<|gf W (fun w21=>(TX<|A3 w21))<|M9 _ (.ptr _ _) W (W1 W) (fun _=>W) (gv W (W1 W) (vl W (gq W) W) (gv W (W1 W) (fun _=>W) (gv W (W1 W) (vb W W W) (bs hz4 fun v4 hv4 hz4=>gv W (W1 W) (fun w26=>(C9 (A3 w26) (A3 w26) (C1 w26 hv4) W)) (gv W (W1 W) (fun w27=>(D7 (A3 w27) (C1 w27 hv4) W W)) (gv W (W1 W) (fun _=>(B5 W A2 W W)) (bs hz4 fun v5 hv5 hz4=> ?_)))))))))))));refine N7 _ (i64 v5) (W1 W) (fun w29=>⟨_,[(.d (.agg (I4 v4))),(.d (.agg (I4 v3)))],_,_,(by simp only [A3 w29];rfl),W,A4,Uj _ _ _<|C1 w29 hv5,(.inl W)⟩) ?_;refine gv W (W1 W) (vb W W W) (gf W (fun w31=>(KH (A3 w31) (fun hc=>A3<|HA w31 hc) W))<|sd W (P1 W W<|fun hc=>A3<|J9 hc)<|A1<|cc W hz4 (fun c8 hz4=> ?_)<|fun c8 hz4=> ?_);refine B1<|sv W<|A1<|B2 ?_;cases hz4;obtain rfl:=ez4 _ rfl;refine ⟨nofun,F4 ?_⟩;rw [wE]at h;cases h;exact A8 (.inr W) (B8 (B3 W) C2) (.refl _);refine A9<|E1<|C0<|sv W<|sv W<|A1<|E3 ?_;cases hz4;exact ⟨W,(),(F0 W W)⟩;refine C7 W ?_;cases hz4;obtain rfl:=ez4 _ rfl;refine ⟨nofun,C5 W<|T4 ?_⟩;exact ⟨_,(),W,(F0 W W)⟩;rintro _ ⟨y2,g3,rfl,q2⟩;rw [wC]at h;refine B6 q2<|A6<|B1<|sq W<|sl W A2 W<|B9 (.fn _ _ _) W W (bs h fun _ hv6 h=>B4 W (rD<|E8 (DW F9<|E8 (Ca A2<|rD<|rD<|rD F9) F9) F9) A4 (Gf _ _ _ hv6) (.inr W) (A1<|cc W h (fun c9 h=> ?_)<|fun c9 h=> ?_));refine B1<|sv W<|A1<|B2 ?_;cases h;exact A8 (.inr W) (B8 (B3 W) C2) (.refl _);refine A9<|B1<|sv W<|A1<|B2 ?_;cases h;exact A8 (.inr W) (B8 (B3 W) C2) (.refl _)
def BW (p1:Agent):Option Bool:=
  some p1.Gone
theorem OB(p1 r)(h:BW p1=some r):PCall prog 79 [(.agg (D1 p1))] (bo r):=by
 refine C6 (fk func79 ntmps79 m0 (by with_unfolding_all rfl)) (nl W) ?_;unfold BW at h;refine B6 (s0:=⟨T [(0,(.d _))],G []⟩) (F0 W W) ?_;refine B1<|sm W<|sv W<|A1<|B1<|sq W<|sl W A2 W<|sv W<|A1<|B2 ?_;cases h;exact A8 (.inr W) (B8 (B3 W) C2) (.refl _)
def V2 (p1:(List Agent))(x1:Int):Option (Stp Int (Sum Unit Int)):=
  cond (decide (x1< (p1.length:Int))) ((C4 p1 x1).bind fun v1=>(BW v1).bind fun v2=>cond v2 (some (.out (.inr x1))) (some (.go (E5 (x1+1))))) (some (.out (.inl ())))
def M4 [Lp](p1:(List Agent)):Option Int:=
  thenS (loop (V2 p1) 0) (fun _=>some (-1)) (fun r=>some r)
theorem Iw(p1 r)(h:M4 p1=some r):PCall prog 170 [(.list (List.map D1 p1)),(.fn (.func 79) [] [])] (i64 r):=by
 refine C6 (fk func170 ntmps170 m0 (by with_unfolding_all rfl)) (nl W) ?_;unfold M4 at h;refine B6 (s0:=⟨T [(0,(.d _)),(1,(.d _))],G []⟩) (F0 W W) ?_;refine B1<|sv W<|A1<|A6<|B1<|sv W<|sd W (D5 W)<|sv W<|A1<|js h fun z1 hz1 h=>D4 (fun s=> ∃(y1:Unit) (g1:Unit),z1= .inl y1∧Sb ⟨T [],G []⟩ s) ?_ ?_;refine A7<|D8 (V2 p1) (fun (x1:Int) (g2:Unit)=>⟨T [(0,(dl D1 p1)),(1,(.d (.fn (.func 79) [] []))),(7,(di (p1.length:Int))),(8,(di x1))],G []⟩) 0 () _ hz1 (F0 W W) ?_;intro x1 g2 z2 hz2 ez2;unfold V2 at hz2;refine B1<|sv W<|A1<|A6<|cc W hz2 (fun c1 hz2=> ?_)<|fun c1 hz2=> ?_;refine A9<|A6<|A7<|B1<|sv W<|sv W<|A1<|B1<|sv W<|sv W<|sv W<|bs hz2 fun _ hv1 hz2=>sd W (C9 W W hv1 W)<|sd W (D7 W hv1 W W)<|bs hz2 fun _ hv2 hz2=>B4 W W A4 (OB _ _ hv2) (.inl W) (A1<|cc W hz2 (fun c2 hz2=> ?_)<|fun c2 hz2=> ?_);refine B1<|sv W<|sv W<|A1<|B2 ?_;cases hz2;obtain rfl:=ez2 _ rfl;refine ⟨nofun,F4 ?_⟩;rw [wE]at h;cases h;exact A8 (.inr W) (B8 (B3 W) C2) (.refl _);refine A9<|E1<|C0<|sv W<|sv W<|A1<|E3 ?_;cases hz2;exact ⟨W,(),(F0 W W)⟩;refine C7 W ?_;cases hz2;obtain rfl:=ez2 _ rfl;refine ⟨nofun,C5 W<|T4 ?_⟩;exact ⟨_,(),W,(F0 W W)⟩;rintro _ ⟨y1,g1,rfl,q1⟩;rw [wC]at h;refine B6 q1<|B1<|sv W<|A1<|B2 ?_;cases h;exact A8 (.inr W) (B8 (B3 W) C2) (.refl _)
def L5 [Lp](p1:(List Agent)):Option Bool:=
  (M4 p1).bind fun v1=>some (decide (v1≥0))
theorem Gy(p1 r)(h:L5 p1=some r):PCall prog 78 [(.list (List.map D1 p1)),(.fn (.func 79) [] [])] (bo r):=by
 refine C6 (fk func78 ntmps78 m0 (by with_unfolding_all rfl)) (nl W) ?_;unfold L5 at h;refine B6 (s0:=⟨T [(0,(.d _)),(1,(.d _))],G []⟩) (F0 W W) ?_;refine B1<|sv W<|A1<|B1<|sv W<|sv W<|bs h fun _ hv1 h=>B4 W W A4 (Iw _ _ hv1) (.inl W) (sv W<|sv W<|A1<|B2 ?_);cases h;exact A8 (.inr W) (B8 (B3 W) C2) (.refl _)
def Jb (p1:State)(p2:Int):Option Bool:=
  ((cond ((decide (p2≥0))&& (decide (p2< (p1.Agents.length:Int)))) (C4 p1.Agents p2) (some default))).bind fun v1=>((cond (((decide (p2≥0))&& (decide (p2< (p1.Agents.length:Int))))&& (!v1.Gone)) (C4 p1.Agents p2) (some default))).bind fun v2=>some ((((decide (p2≥0))&& (decide (p2< (p1.Agents.length:Int))))&& (!v1.Gone))&& (decide (v2.Begin≤p1.Tick)))
theorem Ou(p1 p2 r)(h:Jb p1 p2=some r):PCall prog 36 [(.agg (W2 p1)),(i64 p2)] (bo r):=by
 refine C6 (fk func36 ntmps36 m0 (by with_unfolding_all rfl)) (nl W) ?_;unfold Jb at h;refine B6 (s0:=⟨T [(0,(.d _)),(1,(.d _))],G []⟩) (F0 W W) ?_;refine B1<|sm W<|sv W<|A1<|A6<|E9 W<|sv W<|sv W<|sv W<|gt W (fun _=>W)<|gp W (L9 W) (fun _=>W) (gt W (vl W A2 W)<|gt W (fun w4=>(D5<|A3 w4))<|gt W (fun w5=>(N2 (A3 w5) (A3 w5) W))<|sa W W W<|sv W<|gp W (L9 W) (fun _=>W) (gt W (vl W A2 W)<|gt W (fun _=>W)<|bs h fun v1 hv1 h=>gt W (fun w9=>(C9 (A3 w9) (A3 w9) (C1 w9 hv1) W)) ?_));refine gt W (fun w10=>(by simp only [A3 w10];rfl)) ?_;refine gt W (fun w11=>(D2 (A3 w11) (C1 w11 hv1) W)) ?_;refine M9 _ (.d (bo (!v1.Gone))) W (L9 W) (fun w12=>(by simp only [A3 w12];rfl)) ?_;refine sa W W W<|sv W<|gp W (L9 W) (fun _=>W) (gt W (vl W A2 W)<|gt W (fun _=>W)<|bs h fun _ hv2 h=>gt W (fun w16=>(C9 (A3 w16) (A3 w16) (C1 w16 hv2) W)) ?_);refine gt W (fun w17=>(by simp only [A3 w17];rfl)) ?_;refine gt W (fun w18=>(D2 (A3 w18) (C1 w18 hv2) W))<|gp W (L9 W) (fun _=>W) (gt W (vl W A2 W)<|gt W (fun w21=>(N2 (A3 w21) (A3 w21) W))<|sa W W W<|sv W<|A1<|B2 ?_);cases h;exact A8 (.inr W) (B8 (B3 W) C2) (.refl _)
def Nk (p1:Agent):Option Bool:=
  some ((((decide (p1.S≥0))&& (decide (p1.S≤1099511627776)))&& (decide (p1.Len≥0)))&& (decide (p1.Len≤1099511627776)))
theorem Wr(p1 r)(h:Nk p1=some r):PCall prog 138 [(.agg (D1 p1))] (bo r):=by
 refine C6 (fk func138 ntmps138 m0 (by with_unfolding_all rfl)) (nl W) ?_;unfold Nk at h;refine B6 (s0:=⟨T [(0,(.d _))],G []⟩) (F0 W W) ?_;refine B1<|sm W<|sv W<|A1<|B1<|sq W<|sl W A2 W<|sv W<|sv W<|gp W (L9 W) (fun _=>W) (gt W (vl W A2 W)<|gt W (vb W W W)<|sa W W W<|sv W<|gp W (L9 W) (fun _=>W) (gt W (vl W A2 W)<|gt W (vb W W W)<|sa W W W<|sv W<|gp W (L9 W) (fun _=>W) (gt W (vl W A2 W)<|gt W (vb W W W)<|sa W W W<|sv W<|A1<|B2 ?_)));cases h;exact A8 (.inr W) (B8 (B3 W) C2) (.refl _)
def Y5 (p1:Int):Option Bool:=
  some (p1 !=p1)
theorem Jm(p1 r)(h:Y5 p1=some r):PCall prog 255 [(i64 p1)] (bo r):=by
 refine C6 (fk func255 ntmps255 m0 (by with_unfolding_all rfl)) (nl W) ?_;unfold Y5 at h;refine B6 (s0:=⟨T [(0,(.d _))],G []⟩) (F0 W W) ?_;refine B1<|sv W<|A1<|B1<|sv W<|sv W<|sv W<|sv W<|A1<|B2 ?_;cases h;exact A8 (.inr W) (B8 (B3 W) C2) (.refl _)
def Az (p1:Int)(p2:Int):Option Int:=
  (Y5 p1).bind fun v1=>(Y5 p2).bind fun v2=>cond v1 (cond v2 (some 0) (some (-1))) (cond v2 (some 1) (cond (decide (p1<p2)) (some (-1)) (cond (decide (p1>p2)) (some 1) (some 0))))
theorem Rv(p1 p2 r)(h:Az p1 p2=some r):PCall prog 229 [(i64 p1),(i64 p2)] (i64 r):=by
 refine C6 (fk func229 ntmps229 m0 (by with_unfolding_all rfl)) (nl W) ?_;unfold Az at h;refine B6 (s0:=⟨T [(0,(.d _)),(1,(.d _))],G []⟩) (F0 W W) ?_;refine B1<|sv W<|A1<|B1<|sv W<|bs h fun _ hv1 h=>B4 W W A4 (Jm _ _ hv1) (.inl W) (sv W<|A1<|B1<|sv W<|bs h fun _ hv2 h=>B4 W W A4 (Jm _ _ hv2) (.inl W) (sv W<|A1<|A6<|B1<|sv W<|A1<|cc W h (fun c1 h=> ?_)<|fun c1 h=> ?_));refine A6<|B1<|sv W<|A1<|cc W h (fun c2 h=> ?_)<|fun c2 h=> ?_;refine B1<|sv W<|A1<|B2 ?_;cases h;exact A8 (.inr W) (B8 (B3 W) C2) (.refl _);refine A9<|B1<|sv W<|A1<|B2 ?_;cases h;exact A8 (.inr W) (B8 (B3 W) C2) (.refl _);refine A9<|A6<|B1<|sv W<|A1<|cc W h (fun c3 h=> ?_)<|fun c3 h=> ?_;refine B1<|sv W<|A1<|B2 ?_;cases h;exact A8 (.inr W) (B8 (B3 W) C2) (.refl _);refine A9<|A6<|B1<|sv W<|sv W<|sv W<|A1<|cc W h (fun c4 h=> ?_)<|fun c4 h=> ?_;refine B1<|sv W<|A1<|B2 ?_;cases h;exact A8 (.inr W) (B8 (B3 W) C2) (.refl _);refine A9<|A6<|B1<|sv W<|sv W<|sv W<|A1<|cc W h (fun c5 h=> ?_)<|fun c5 h=> ?_;refine B1<|sv W<|A1<|B2 ?_;cases h;exact A8 (.inr W) (B8 (B3 W) C2) (.refl _);refine A9<|B1<|sv W<|A1<|B2 ?_;cases h;exact A8 (.inr W) (B8 (B3 W) C2) (.refl _)
def Cx [Lp](p1:Pass)(p2:Pass):Option Int:=
  (Az p1.From p2.From).bind fun v1=>(Aa p1.Zone_ p2.Zone_).bind fun v2=>(Cd [v1,v2]).bind fun v3=>some v3
theorem HJ(p1 p2 r)(h:Cx p1 p2=some r):PCall prog 264 [(.agg (S3 p1)),(.agg (S3 p2))] (i64 r):=by
 refine C6 (fk func264 ntmps264 (fun r=>if r==1 then [1010]else []) (by with_unfolding_all rfl)) (nl W) ?_;unfold Cx at h;refine B6 (s0:=⟨T [(0,(.d _)),(1,(.d _))],G []⟩) (F0 W W) ?_;refine B1<|sm W<|sn W W<|sv W<|A1<|A6<|E9 W<|sq W<|sl W (gq W) W (sq W<|sl W A2 W<|bs h fun v1 hv1 h=>B4 W W A4 (Rv _ _ _ hv1) (.inl W) (sq W<|sl W (gq W) W (sq W<|sl W A2 W<|bs h fun v2 hv2 h=>B4 W W A4 (Jl _ _ _ hv2) (.inl W) (B9 (dl A5 [v1,v2]) W W (bs h fun _ hv3 h=>B4 W W A4 (Wq _ _ hv3) (.inl W) (sv W<|A1<|B2 ?_))))));cases h;exact A8 (.inr W) (B8 (B3 W) C2) (.refl _)
end
end Go.Abs.World
