/-
  Plain facts on the functions: what they compute, and that the law holds of it.
-/
import Derived.Test.YtgjdiioennhoeaaGreatFns3
set_option maxRecDepth 100000
set_option linter.unusedVariables false
namespace Go.Abs.World
open Go Go.Abs
def B46 (p4:(List Int))(x1:(Int× (List Spot))):Option (Stp (Int× (List Spot)) (List Spot)):=
  cond (decide ((w64 (x1.1+1))< (p4.length:Int))) ((G8 p4 x1.1).bind fun v1=>(G8 p4 (w64 (x1.1+1))).bind fun v2=>(B2d x1.2 [(Spot.mk v1 v2)]).bind fun v3=>some (.go ((w64 (x1.1+2)),v3))) (some (.out x1.2))
theorem C1a (p4:(List Int))(x1:(Int× (List Spot))):Le (B46 p4 x1) (A9k p4 x1):=by
  unfold B46 A9k
  repeat' first|with_reducible exact Le.refl _|with_reducible refine Le.bind ?_ fun _=> ?_|with_reducible refine Le.cond ?_ ?_|with_reducible refine Le.ite ?_ ?_|with_reducible refine Le.thenS ?_ (fun _=> ?_) (fun _=> ?_)|with_reducible refine Le.loop (fun _=> ?_) _|with_reducible refine Le.loopL (fun _ _=> ?_) _ _|exact Le.refl _
def B6q (p1:Int)(p2:Int)(p3:(List Int))(p4:(List Int)):Option Lane:=
  (R4 (B46 p4) (0,[])).bind fun y1=>cond (p1==3) (some (Lane.mk p1 (Curve.mk y1) 500 p2 p3)) (some (Lane.mk p1 (Curve.mk y1) 1500 p2 p3))
theorem C5i (p1:Int)(p2:Int)(p3:(List Int))(p4:(List Int)):Le (B6q p1 p2 p3 p4) (B4m p1 p2 p3 p4):=by
  unfold B6q B4m
  repeat' first|with_reducible exact Le.refl _|with_reducible exact C1a _ _|with_reducible refine Le.bind ?_ fun _=> ?_|with_reducible refine Le.cond ?_ ?_|with_reducible refine Le.ite ?_ ?_|with_reducible refine Le.thenS ?_ (fun _=> ?_) (fun _=> ?_)|with_reducible refine Le.loop (fun _=> ?_) _|with_reducible refine Le.loopL (fun _ _=> ?_) _ _|exact Le.refl _
def B7o:Option Map:=
  (B6q 1 1500 [] [0,0,100000,0]).bind fun v1=>(B6q 1 1500 [] [50000,(-50000),50000,50000]).bind fun v2=>some (Map.mk 0 [v1,v2] [(Zone.mk [(Part.mk 0 48000 52000 1),(Part.mk 1 48000 52000 0)] 0)] [] [])
theorem C4e:Le (B7o) (B3z):=by
  unfold B7o B3z
  repeat' first|with_reducible exact Le.refl _|with_reducible exact C5i _ _ _ _|with_reducible refine Le.bind ?_ fun _=> ?_|with_reducible refine Le.cond ?_ ?_|with_reducible refine Le.ite ?_ ?_|with_reducible refine Le.thenS ?_ (fun _=> ?_) (fun _=> ?_)|with_reducible refine Le.loop (fun _=> ?_) _|with_reducible refine Le.loopL (fun _ _=> ?_) _ _|exact Le.refl _
def B0r (p1:Int)(p2:Int)(p3:Int):Option Agent:=
  some (Agent.mk [p1] p2 p3 4000 0 false false)
theorem C1b (p1:Int)(p2:Int)(p3:Int):Le (B0r p1 p2 p3) (A75 p1 p2 p3):=by
  unfold B0r A75
  repeat' first|with_reducible exact Le.refl _|with_reducible refine Le.bind ?_ fun _=> ?_|with_reducible refine Le.cond ?_ ?_|with_reducible refine Le.ite ?_ ?_|with_reducible refine Le.thenS ?_ (fun _=> ?_) (fun _=> ?_)|with_reducible refine Le.loop (fun _=> ?_) _|with_reducible refine Le.loopL (fun _ _=> ?_) _ _|exact Le.refl _
def Z3 (p1:List Stay):Option (List Stay):=B2d [] p1
theorem A5a (p1:List Stay):Le (Z3 p1) (S7 p1):=by
  unfold Z3 S7
  repeat' first|with_reducible exact Le.refl _|with_reducible refine Le.bind ?_ fun _=> ?_|with_reducible refine Le.cond ?_ ?_|with_reducible refine Le.ite ?_ ?_|with_reducible refine Le.thenS ?_ (fun _=> ?_) (fun _=> ?_)|with_reducible refine Le.loop (fun _=> ?_) _|with_reducible refine Le.loopL (fun _ _=> ?_) _ _|exact Le.refl _
def A41 (p1:List Int):Option (List Int):=B2d [] p1
theorem B2p (p1:List Int):Le (A41 p1) (A1w p1):=by
  unfold A41 A1w
  repeat' first|with_reducible exact Le.refl _|with_reducible refine Le.bind ?_ fun _=> ?_|with_reducible refine Le.cond ?_ ?_|with_reducible refine Le.ite ?_ ?_|with_reducible refine Le.thenS ?_ (fun _=> ?_) (fun _=> ?_)|with_reducible refine Le.loop (fun _=> ?_) _|with_reducible refine Le.loopL (fun _ _=> ?_) _ _|exact Le.refl _
def A42 (p1:Agent):Option Agent:=
  (A41 p1.Route).bind fun v1=>some (Agent.mk v1 p1.S p1.V p1.Len p1.Begin p1.Obey p1.Gone)
theorem A7c (p1:Agent):Le (A42 p1) (A1h p1):=by
  unfold A42 A1h
  repeat' first|with_reducible exact Le.refl _|with_reducible exact B2p _|with_reducible refine Le.bind ?_ fun _=> ?_|with_reducible refine Le.cond ?_ ?_|with_reducible refine Le.ite ?_ ?_|with_reducible refine Le.thenS ?_ (fun _=> ?_) (fun _=> ?_)|with_reducible refine Le.loop (fun _=> ?_) _|with_reducible refine Le.loopL (fun _ _=> ?_) _ _|exact Le.refl _
def B13 (p1:State)(x1:(Int×State)):Option (Stp (Int×State) State):=
  cond (decide (x1.1< (p1.Agents.length:Int))) ((G8 p1.Agents x1.1).bind fun v2=>(A42 v2).bind fun v3=>(B2d x1.2.Agents [v3]).bind fun v4=>some (.go ((w64 (x1.1+1)),(State.mk x1.2.Tick v4 x1.2.In)))) (some (.out x1.2))
theorem B8m (p1:State)(x1:(Int×State)):Le (B13 p1 x1) (A63 p1 x1):=by
  unfold B13 A63
  repeat' first|with_reducible exact Le.refl _|with_reducible exact A7c _|with_reducible refine Le.bind ?_ fun _=> ?_|with_reducible refine Le.cond ?_ ?_|with_reducible refine Le.ite ?_ ?_|with_reducible refine Le.thenS ?_ (fun _=> ?_) (fun _=> ?_)|with_reducible refine Le.loop (fun _=> ?_) _|with_reducible refine Le.loopL (fun _ _=> ?_) _ _|exact Le.refl _
def B2q (p1:State):Option State:=
  (Z3 p1.In).bind fun v1=>(R4 (B13 p1) (0,(State.mk p1.Tick [] v1))).bind fun y1=>some y1
theorem C2s (p1:State):Le (B2q p1) (A91 p1):=by
  unfold B2q A91
  repeat' first|with_reducible exact Le.refl _|with_reducible exact A5a _|with_reducible exact B8m _ _|with_reducible refine Le.bind ?_ fun _=> ?_|with_reducible refine Le.cond ?_ ?_|with_reducible refine Le.ite ?_ ?_|with_reducible refine Le.thenS ?_ (fun _=> ?_) (fun _=> ?_)|with_reducible refine Le.loop (fun _=> ?_) _|with_reducible refine Le.loopL (fun _ _=> ?_) _ _|exact Le.refl _
def A17 (p1:Int)(p2:Int)(p3:Int):Option Bool:=
  some ((decide (p2≤p1))&& (decide (p1≤p3)))
theorem A43 (p1:Int)(p2:Int)(p3:Int):Le (A17 p1 p2 p3) (Z5 p1 p2 p3):=by
  unfold A17 Z5
  repeat' first|with_reducible exact Le.refl _|with_reducible refine Le.bind ?_ fun _=> ?_|with_reducible refine Le.cond ?_ ?_|with_reducible refine Le.ite ?_ ?_|with_reducible refine Le.thenS ?_ (fun _=> ?_) (fun _=> ?_)|with_reducible refine Le.loop (fun _=> ?_) _|with_reducible refine Le.loopL (fun _ _=> ?_) _ _|exact Le.refl _
def A4q (p1:RoadsCheck):Option Int:=
  (A17 p1.Map_.Version 0 1099511627776).bind fun v1=>cond (!v1) (some 2) (cond ((p1.Map_.Lanes.length:Int)==0) (some 6) (cond ((((decide ((p1.Map_.Lanes.length:Int)>12))||(decide ((p1.Map_.Zones.length:Int)>12)))||(decide ((p1.Map_.Signals.length:Int)>4)))||(decide ((p1.Map_.Works.length:Int)>8))) (some 8) (some 0)))
theorem B3l (p1:RoadsCheck):Le (A4q p1) (A07 p1):=by
  unfold A4q A07
  repeat' first|with_reducible exact Le.refl _|with_reducible exact A43 _ _ _|with_reducible refine Le.bind ?_ fun _=> ?_|with_reducible refine Le.cond ?_ ?_|with_reducible refine Le.ite ?_ ?_|with_reducible refine Le.thenS ?_ (fun _=> ?_) (fun _=> ?_)|with_reducible refine Le.loop (fun _=> ?_) _|with_reducible refine Le.loopL (fun _ _=> ?_) _ _|exact Le.refl _
def A4h (p1:Int):Option (Int×Int×Int):=
  cond ((decide (p1<0))||(decide (p1≥4))) (some (0,0,0)) ((G8 ([(0,0,0),(2000,30,90),(1000,20,60),(300,100,300)]:List (Int×Int×Int)) p1).bind fun v1=>some (v1.1,v1.2.1,v1.2.2))
theorem A6j (p1:Int):Le (A4h p1) (A2k p1):=by
  unfold A4h A2k
  repeat' first|with_reducible exact Le.refl _|with_reducible refine Le.bind ?_ fun _=> ?_|with_reducible refine Le.cond ?_ ?_|with_reducible refine Le.ite ?_ ?_|with_reducible refine Le.thenS ?_ (fun _=> ?_) (fun _=> ?_)|with_reducible refine Le.loop (fun _=> ?_) _|with_reducible refine Le.loopL (fun _ _=> ?_) _ _|exact Le.refl _
def B14 (p1:(List Spot))(x1:Int):Option (Stp Int (Sum Unit Bool)):=
  cond (decide (x1< (p1.length:Int))) ((G8 p1 x1).bind fun v1=>cond ((decide ((mm2 false v1.X v1.Y)< (-16777216)))||(decide ((mm2 true v1.X v1.Y)>16777216))) (some (.out (.inr false))) (some (.go (w64 (x1+1))))) (some (.out (.inl ())))
theorem B8n (p1:(List Spot))(x1:Int):Le (B14 p1 x1) (A65 p1 x1):=by
  unfold B14 A65
  repeat' first|with_reducible exact Le.refl _|with_reducible refine Le.bind ?_ fun _=> ?_|with_reducible refine Le.cond ?_ ?_|with_reducible refine Le.ite ?_ ?_|with_reducible refine Le.thenS ?_ (fun _=> ?_) (fun _=> ?_)|with_reducible refine Le.loop (fun _=> ?_) _|with_reducible refine Le.loopL (fun _ _=> ?_) _ _|exact Le.refl _
def B5q (p1:(List Spot)):Option Bool:=
  thenS (R4 (B14 p1) 0) (fun _=>some true) (fun r=>some r)
theorem C2t (p1:(List Spot)):Le (B5q p1) (B1y p1):=by
  unfold B5q B1y
  repeat' first|with_reducible exact Le.refl _|with_reducible exact B8n _ _|with_reducible refine Le.bind ?_ fun _=> ?_|with_reducible refine Le.cond ?_ ?_|with_reducible refine Le.ite ?_ ?_|with_reducible refine Le.thenS ?_ (fun _=> ?_) (fun _=> ?_)|with_reducible refine Le.loop (fun _=> ?_) _|with_reducible refine Le.loopL (fun _ _=> ?_) _ _|exact Le.refl _
def B2r (p1:Spot)(p2:Spot):Option CurveVector:=
  some (CurveVector.mk (w64 (p2.X - p1.X)) (w64 (p2.Y - p1.Y)))
theorem B6r (p1:Spot)(p2:Spot):Le (B2r p1 p2) (A92 p1 p2):=by
  unfold B2r A92
  repeat' first|with_reducible exact Le.refl _|with_reducible refine Le.bind ?_ fun _=> ?_|with_reducible refine Le.cond ?_ ?_|with_reducible refine Le.ite ?_ ?_|with_reducible refine Le.thenS ?_ (fun _=> ?_) (fun _=> ?_)|with_reducible refine Le.loop (fun _=> ?_) _|with_reducible refine Le.loopL (fun _ _=> ?_) _ _|exact Le.refl _
def A2a (p1:CurveVector)(p2:CurveVector):Option Int:=
  some (w64 ((w64 (p1.x*p2.x))+ (w64 (p1.y*p2.y))))
theorem A9v (p1:CurveVector)(p2:CurveVector):Le (A2a p1 p2) (X6 p1 p2):=by
  unfold A2a X6
  repeat' first|with_reducible exact Le.refl _|with_reducible refine Le.bind ?_ fun _=> ?_|with_reducible refine Le.cond ?_ ?_|with_reducible refine Le.ite ?_ ?_|with_reducible refine Le.thenS ?_ (fun _=> ?_) (fun _=> ?_)|with_reducible refine Le.loop (fun _=> ?_) _|with_reducible refine Le.loopL (fun _ _=> ?_) _ _|exact Le.refl _
def B15 (p1:Int)(x1:(Int×Int)):Option (Stp (Int×Int) Int):=
  cond (decide (x1.1<x1.2)) (cond (decide ((w64 ((w64 ((w64 (x1.1+x1.2)).tdiv 2))* (w64 ((w64 (x1.1+x1.2)).tdiv 2))))<p1)) (some (.go ((w64 ((w64 ((w64 (x1.1+x1.2)).tdiv 2))+1)),x1.2))) (some (.go (x1.1,(w64 ((w64 (x1.1+x1.2)).tdiv 2)))))) (some (.out x1.1))
theorem B8o (p1:Int)(x1:(Int×Int)):Le (B15 p1 x1) (A66 p1 x1):=by
  unfold B15 A66
  repeat' first|with_reducible exact Le.refl _|with_reducible refine Le.bind ?_ fun _=> ?_|with_reducible refine Le.cond ?_ ?_|with_reducible refine Le.ite ?_ ?_|with_reducible refine Le.thenS ?_ (fun _=> ?_) (fun _=> ?_)|with_reducible refine Le.loop (fun _=> ?_) _|with_reducible refine Le.loopL (fun _ _=> ?_) _ _|exact Le.refl _
def B2s (p1:Int):Option (Int×Bool):=
  (R4 (B15 p1) (0,67108864)).bind fun y1=>some (y1,((w64 (y1*y1))==p1))
theorem B6s (p1:Int):Le (B2s p1) (A93 p1):=by
  unfold B2s A93
  repeat' first|with_reducible exact Le.refl _|with_reducible exact B8o _ _|with_reducible refine Le.bind ?_ fun _=> ?_|with_reducible refine Le.cond ?_ ?_|with_reducible refine Le.ite ?_ ?_|with_reducible refine Le.thenS ?_ (fun _=> ?_) (fun _=> ?_)|with_reducible refine Le.loop (fun _=> ?_) _|with_reducible refine Le.loopL (fun _ _=> ?_) _ _|exact Le.refl _
def A9w (p1:Curve)(x1:(Int×CurveVector)):Option (Stp (Int×CurveVector) (Sum Unit Int)):=
  cond (decide (x1.1< (w64 ((p1.Pts.length:Int) - 1)))) ((G8 p1.Pts x1.1).bind fun v2=>(G8 p1.Pts (w64 (x1.1+1))).bind fun v3=>(B2r v2 v3).bind fun v4=>(A2a v4 v4).bind fun v5=>(B2s v5).bind fun v6=>cond (!v6.2) (some (.out (.inr 3))) (cond ((decide (v6.1<1000))||(decide (v6.1>1048576))) (some (.out (.inr 2))) (((cond (decide (x1.1>0)) (A2a x1.2 v4) (some default))).bind fun v7=>cond ((decide (x1.1>0))&& (decide (v7≤0))) (some (.out (.inr 12))) (some (.go ((w64 (x1.1+1)),v4)))))) (some (.out (.inl ())))
theorem B7p (p1:Curve)(x1:(Int×CurveVector)):Le (A9w p1 x1) (A4x p1 x1):=by
  unfold A9w A4x
  repeat' first|with_reducible exact Le.refl _|with_reducible exact B6r _ _|with_reducible exact A9v _ _|with_reducible exact B6s _|with_reducible refine Le.bind ?_ fun _=> ?_|with_reducible refine Le.cond ?_ ?_|with_reducible refine Le.ite ?_ ?_|with_reducible refine Le.thenS ?_ (fun _=> ?_) (fun _=> ?_)|with_reducible refine Le.loop (fun _=> ?_) _|with_reducible refine Le.loopL (fun _ _=> ?_) _ _|exact Le.refl _
def B0s (p1:Curve):Option Int:=
  cond (decide ((p1.Pts.length:Int)<2)) (some 6) (cond (decide ((p1.Pts.length:Int)>16)) (some 5) ((B5q p1.Pts).bind fun v1=>cond (!v1) (some 2) (thenS (R4 (A9w p1) (0,(CurveVector.mk 0 0))) (fun _=>some 0) (fun r=>some r))))
theorem B58 (p1:Curve):Le (B0s p1) (A77 p1):=by
  unfold B0s A77
  repeat' first|with_reducible exact Le.refl _|with_reducible exact C2t _|with_reducible exact B7p _ _|with_reducible refine Le.bind ?_ fun _=> ?_|with_reducible refine Le.cond ?_ ?_|with_reducible refine Le.ite ?_ ?_|with_reducible refine Le.thenS ?_ (fun _=> ?_) (fun _=> ?_)|with_reducible refine Le.loop (fun _=> ?_) _|with_reducible refine Le.loopL (fun _ _=> ?_) _ _|exact Le.refl _
def A87 (p1:(List Int))(p3:Int)(x1:(Int×Int)):Option (Stp (Int×Int) (Sum Unit Bool)):=
  cond (decide (x1.2< (p1.length:Int))) ((G8 p1 x1.2).bind fun v1=>cond ((decide (v1<x1.1))||(decide (v1≥p3))) (some (.out (.inr false))) (some (.go ((w64 (v1+1)),(w64 (x1.2+1)))))) (some (.out (.inl ())))
theorem B6t (p1:(List Int))(p3:Int)(x1:(Int×Int)):Le (A87 p1 p3 x1) (A3n p1 p3 x1):=by
  unfold A87 A3n
  repeat' first|with_reducible exact Le.refl _|with_reducible refine Le.bind ?_ fun _=> ?_|with_reducible refine Le.cond ?_ ?_|with_reducible refine Le.ite ?_ ?_|with_reducible refine Le.thenS ?_ (fun _=> ?_) (fun _=> ?_)|with_reducible refine Le.loop (fun _=> ?_) _|with_reducible refine Le.loopL (fun _ _=> ?_) _ _|exact Le.refl _
def A6k (p1:(List Int))(p2:Int)(p3:Int):Option Bool:=
  thenS (R4 (A87 p1 p3) (p2,0)) (fun _=>some true) (fun r=>some r)
theorem A9x (p1:(List Int))(p2:Int)(p3:Int):Le (A6k p1 p2 p3) (A3o p1 p2 p3):=by
  unfold A6k A3o
  repeat' first|with_reducible exact Le.refl _|with_reducible exact B6t _ _ _|with_reducible refine Le.bind ?_ fun _=> ?_|with_reducible refine Le.cond ?_ ?_|with_reducible refine Le.ite ?_ ?_|with_reducible refine Le.thenS ?_ (fun _=> ?_) (fun _=> ?_)|with_reducible refine Le.loop (fun _=> ?_) _|with_reducible refine Le.loopL (fun _ _=> ?_) _ _|exact Le.refl _
def A44 (p1:RoadsCheck)(x1:Int):Option (Stp Int (Sum Unit Int)):=
  cond (decide (x1< (p1.Map_.Lanes.length:Int))) ((G8 p1.Map_.Lanes x1).bind fun v1=>(A4h v1.Kind).bind fun v2=>cond (v2.1==0) (some (.out (.inr 4))) ((B0s v1.Curve_).bind fun v3=>cond (v3 !=0) (some (.out (.inr v3))) ((A17 v1.Half 200 4000).bind fun v4=>((cond (!(!v4)) (A17 v1.Limit 1 v2.1) (some default))).bind fun v5=>cond ((!v4)||(!v5)) (some (.out (.inr 2))) (cond (decide ((v1.Next.length:Int)>3)) (some (.out (.inr 8))) ((A6k v1.Next (w64 (x1+1)) (p1.Map_.Lanes.length:Int)).bind fun v6=>cond (!v6) (some (.out (.inr 11))) (some (.go (w64 (x1+1))))))))) (some (.out (.inl ())))
theorem B2t (p1:RoadsCheck)(x1:Int):Le (A44 p1 x1) (Y3 p1 x1):=by
  unfold A44 Y3
  repeat' first|with_reducible exact Le.refl _|with_reducible exact A6j _|with_reducible exact B58 _|with_reducible exact A43 _ _ _|with_reducible exact A9x _ _ _|with_reducible refine Le.bind ?_ fun _=> ?_|with_reducible refine Le.cond ?_ ?_|with_reducible refine Le.ite ?_ ?_|with_reducible refine Le.thenS ?_ (fun _=> ?_) (fun _=> ?_)|with_reducible refine Le.loop (fun _=> ?_) _|with_reducible refine Le.loopL (fun _ _=> ?_) _ _|exact Le.refl _
def A6l (p1:RoadsCheck):Option Int:=
  thenS (R4 (A44 p1) 0) (fun _=>some 0) (fun r=>some r)
theorem B4u (p1:RoadsCheck):Le (A6l p1) (A24 p1):=by
  unfold A6l A24
  repeat' first|with_reducible exact Le.refl _|with_reducible exact B2t _ _|with_reducible refine Le.bind ?_ fun _=> ?_|with_reducible refine Le.cond ?_ ?_|with_reducible refine Le.ite ?_ ?_|with_reducible refine Le.thenS ?_ (fun _=> ?_) (fun _=> ?_)|with_reducible refine Le.loop (fun _=> ?_) _|with_reducible refine Le.loopL (fun _ _=> ?_) _ _|exact Le.refl _
def A35 (p1:RoadsCheck)(v1:Lane)(v2:Spot)(x2:Int):Option (Stp Int (Sum Unit Int)):=
  cond (decide (x2< (v1.Next.length:Int))) ((G8 v1.Next x2).bind fun v3=>(G8 p1.Map_.Lanes v3).bind fun v4=>cond (v4.Kind !=v1.Kind) (some (.out (.inr 4))) ((G8 p1.Map_.Lanes v3).bind fun v5=>(G8 v5.Curve_.Pts 0).bind fun v6=>cond (!(v6.X==v2.X&& (v6.Y==v2.Y&&true))) (some (.out (.inr 3))) (some (.go (w64 (x2+1)))))) (some (.out (.inl ())))
theorem B27 (p1:RoadsCheck)(v1:Lane)(v2:Spot)(x2:Int):Le (A35 p1 v1 v2 x2) (V7 p1 v1 v2 x2):=by
  unfold A35 V7
  repeat' first|with_reducible exact Le.refl _|with_reducible refine Le.bind ?_ fun _=> ?_|with_reducible refine Le.cond ?_ ?_|with_reducible refine Le.ite ?_ ?_|with_reducible refine Le.thenS ?_ (fun _=> ?_) (fun _=> ?_)|with_reducible refine Le.loop (fun _=> ?_) _|with_reducible refine Le.loopL (fun _ _=> ?_) _ _|exact Le.refl _
def A36 (p1:RoadsCheck)(x1:Int):Option (Stp Int (Sum Unit Int)):=
  cond (decide (x1< (p1.Map_.Lanes.length:Int))) ((G8 p1.Map_.Lanes x1).bind fun v1=>(G8 v1.Curve_.Pts (w64 ((v1.Curve_.Pts.length:Int) - 1))).bind fun v2=>thenS (R4 (A35 p1 v1 v2) 0) (fun _=>some (.go (w64 (x1+1)))) (fun r=>some (.out (.inr r)))) (some (.out (.inl ())))
theorem B28 (p1:RoadsCheck)(x1:Int):Le (A36 p1 x1) (V8 p1 x1):=by
  unfold A36 V8
  repeat' first|with_reducible exact Le.refl _|with_reducible exact B27 _ _ _ _|with_reducible refine Le.bind ?_ fun _=> ?_|with_reducible refine Le.cond ?_ ?_|with_reducible refine Le.ite ?_ ?_|with_reducible refine Le.thenS ?_ (fun _=> ?_) (fun _=> ?_)|with_reducible refine Le.loop (fun _=> ?_) _|with_reducible refine Le.loopL (fun _ _=> ?_) _ _|exact Le.refl _
def A5l (p1:RoadsCheck):Option Int:=
  thenS (R4 (A36 p1) 0) (fun _=>some 0) (fun r=>some r)
theorem B47 (p1:RoadsCheck):Le (A5l p1) (A15 p1):=by
  unfold A5l A15
  repeat' first|with_reducible exact Le.refl _|with_reducible exact B28 _ _|with_reducible refine Le.bind ?_ fun _=> ?_|with_reducible refine Le.cond ?_ ?_|with_reducible refine Le.ite ?_ ?_|with_reducible refine Le.thenS ?_ (fun _=> ?_) (fun _=> ?_)|with_reducible refine Le.loop (fun _=> ?_) _|with_reducible refine Le.loopL (fun _ _=> ?_) _ _|exact Le.refl _
def A37 (p1:Phase):Option Bool:=
  (A17 p1.Ticks 1 10000).bind fun v1=>some (!v1)
theorem B29 (p1:Phase):Le (A37 p1) (V9 p1):=by
  unfold A37 V9
  repeat' first|with_reducible exact Le.refl _|with_reducible exact A43 _ _ _|with_reducible refine Le.bind ?_ fun _=> ?_|with_reducible refine Le.cond ?_ ?_|with_reducible refine Le.ite ?_ ?_|with_reducible refine Le.thenS ?_ (fun _=> ?_) (fun _=> ?_)|with_reducible refine Le.loop (fun _=> ?_) _|with_reducible refine Le.loopL (fun _ _=> ?_) _ _|exact Le.refl _
def K1 (p1:(List Phase))(x1:Int):Option (Stp Int (Sum Unit Int)):=
  cond (decide (x1< (p1.length:Int))) ((G8 p1 x1).bind fun v1=>(A37 v1).bind fun v2=>cond v2 (some (.out (.inr x1))) (some (.go (w64 (x1+1))))) (some (.out (.inl ())))
theorem X0 (p1:(List Phase))(x1:Int):Le (K1 p1 x1) (D0 p1 x1):=by
  unfold K1 D0
  repeat' first|with_reducible exact Le.refl _|with_reducible exact B29 _|with_reducible refine Le.bind ?_ fun _=> ?_|with_reducible refine Le.cond ?_ ?_|with_reducible refine Le.ite ?_ ?_|with_reducible refine Le.thenS ?_ (fun _=> ?_) (fun _=> ?_)|with_reducible refine Le.loop (fun _=> ?_) _|with_reducible refine Le.loopL (fun _ _=> ?_) _ _|exact Le.refl _
def L7 (p1:(List Phase)):Option Int:=
  thenS (R4 (K1 p1) 0) (fun _=>some (-1)) (fun r=>some r)
theorem Z4 (p1:(List Phase)):Le (L7 p1) (E3 p1):=by
  unfold L7 E3
  repeat' first|with_reducible exact Le.refl _|with_reducible exact X0 _ _|with_reducible refine Le.bind ?_ fun _=> ?_|with_reducible refine Le.cond ?_ ?_|with_reducible refine Le.ite ?_ ?_|with_reducible refine Le.thenS ?_ (fun _=> ?_) (fun _=> ?_)|with_reducible refine Le.loop (fun _=> ?_) _|with_reducible refine Le.loopL (fun _ _=> ?_) _ _|exact Le.refl _
def K2 (p1:(List Phase)):Option Bool:=
  (L7 p1).bind fun v1=>some (decide (v1≥0))
theorem X1 (p1:(List Phase)):Le (K2 p1) (D1 p1):=by
  unfold K2 D1
  repeat' first|with_reducible exact Le.refl _|with_reducible exact Z4 _|with_reducible refine Le.bind ?_ fun _=> ?_|with_reducible refine Le.cond ?_ ?_|with_reducible refine Le.ite ?_ ?_|with_reducible refine Le.thenS ?_ (fun _=> ?_) (fun _=> ?_)|with_reducible refine Le.loop (fun _=> ?_) _|with_reducible refine Le.loopL (fun _ _=> ?_) _ _|exact Le.refl _
def A2b (p1:Phase)(p2:RoadsCheck):Option Bool:=
  (A6k p1.Green 0 (p2.Map_.Lanes.length:Int)).bind fun v1=>some (!v1)
theorem B0m (p1:Phase)(p2:RoadsCheck):Le (A2b p1 p2) (U4 p1 p2):=by
  unfold A2b U4
  repeat' first|with_reducible exact Le.refl _|with_reducible exact A9x _ _ _|with_reducible refine Le.bind ?_ fun _=> ?_|with_reducible refine Le.cond ?_ ?_|with_reducible refine Le.ite ?_ ?_|with_reducible refine Le.thenS ?_ (fun _=> ?_) (fun _=> ?_)|with_reducible refine Le.loop (fun _=> ?_) _|with_reducible refine Le.loopL (fun _ _=> ?_) _ _|exact Le.refl _
def J9 (p1:(List Phase))(p2:RoadsCheck)(x1:Int):Option (Stp Int (Sum Unit Int)):=
  cond (decide (x1< (p1.length:Int))) ((G8 p1 x1).bind fun v1=>(A2b v1 p2).bind fun v2=>cond v2 (some (.out (.inr x1))) (some (.go (w64 (x1+1))))) (some (.out (.inl ())))
theorem W5 (p1:(List Phase))(p2:RoadsCheck)(x1:Int):Le (J9 p1 p2 x1) (C6 p1 p2 x1):=by
  unfold J9 C6
  repeat' first|with_reducible exact Le.refl _|with_reducible exact B0m _ _|with_reducible refine Le.bind ?_ fun _=> ?_|with_reducible refine Le.cond ?_ ?_|with_reducible refine Le.ite ?_ ?_|with_reducible refine Le.thenS ?_ (fun _=> ?_) (fun _=> ?_)|with_reducible refine Le.loop (fun _=> ?_) _|with_reducible refine Le.loopL (fun _ _=> ?_) _ _|exact Le.refl _
def L3 (p1:(List Phase))(p2:RoadsCheck):Option Int:=
  thenS (R4 (J9 p1 p2) 0) (fun _=>some (-1)) (fun r=>some r)
theorem Z0 (p1:(List Phase))(p2:RoadsCheck):Le (L3 p1 p2) (D9 p1 p2):=by
  unfold L3 D9
  repeat' first|with_reducible exact Le.refl _|with_reducible exact W5 _ _ _|with_reducible refine Le.bind ?_ fun _=> ?_|with_reducible refine Le.cond ?_ ?_|with_reducible refine Le.ite ?_ ?_|with_reducible refine Le.thenS ?_ (fun _=> ?_) (fun _=> ?_)|with_reducible refine Le.loop (fun _=> ?_) _|with_reducible refine Le.loopL (fun _ _=> ?_) _ _|exact Le.refl _
def K0 (p1:(List Phase))(p2:RoadsCheck):Option Bool:=
  (L3 p1 p2).bind fun v1=>some (decide (v1≥0))
theorem W6 (p1:(List Phase))(p2:RoadsCheck):Le (K0 p1 p2) (C7 p1 p2):=by
  unfold K0 C7
  repeat' first|with_reducible exact Le.refl _|with_reducible exact Z0 _ _|with_reducible refine Le.bind ?_ fun _=> ?_|with_reducible refine Le.cond ?_ ?_|with_reducible refine Le.ite ?_ ?_|with_reducible refine Le.thenS ?_ (fun _=> ?_) (fun _=> ?_)|with_reducible refine Le.loop (fun _=> ?_) _|with_reducible refine Le.loopL (fun _ _=> ?_) _ _|exact Le.refl _
def A2r (p1:RoadsCheck)(x1:Int):Option (Stp Int (Sum Unit Int)):=
  cond (decide (x1< (p1.Map_.Signals.length:Int))) ((G8 p1.Map_.Signals x1).bind fun v1=>cond ((v1.Phases.length:Int)==0) (some (.out (.inr 6))) (cond (decide ((v1.Phases.length:Int)>6)) (some (.out (.inr 8))) ((A17 v1.Offset 0 1099511627776).bind fun v2=>cond (!v2) (some (.out (.inr 2))) ((K2 v1.Phases).bind fun v3=>cond v3 (some (.out (.inr 2))) ((K0 v1.Phases p1).bind fun v4=>cond v4 (some (.out (.inr 11))) (some (.go (w64 (x1+1))))))))) (some (.out (.inl ())))
theorem B16 (p1:RoadsCheck)(x1:Int):Le (A2r p1 x1) (V0 p1 x1):=by
  unfold A2r V0
  repeat' first|with_reducible exact Le.refl _|with_reducible exact A43 _ _ _|with_reducible exact X1 _|with_reducible exact W6 _ _|with_reducible refine Le.bind ?_ fun _=> ?_|with_reducible refine Le.cond ?_ ?_|with_reducible refine Le.ite ?_ ?_|with_reducible refine Le.thenS ?_ (fun _=> ?_) (fun _=> ?_)|with_reducible refine Le.loop (fun _=> ?_) _|with_reducible refine Le.loopL (fun _ _=> ?_) _ _|exact Le.refl _
def A4r (p1:RoadsCheck):Option Int:=
  thenS (R4 (A2r p1) 0) (fun _=>some 0) (fun r=>some r)
theorem B3m (p1:RoadsCheck):Le (A4r p1) (A08 p1):=by
  unfold A4r A08
  repeat' first|with_reducible exact Le.refl _|with_reducible exact B16 _ _|with_reducible refine Le.bind ?_ fun _=> ?_|with_reducible refine Le.cond ?_ ?_|with_reducible refine Le.ite ?_ ?_|with_reducible refine Le.thenS ?_ (fun _=> ?_) (fun _=> ?_)|with_reducible refine Le.loop (fun _=> ?_) _|with_reducible refine Le.loopL (fun _ _=> ?_) _ _|exact Le.refl _
def B6u (pts:List Spot):Nat→Nat→Int→Option (List (Int×CurvePiece))
  |0,_,_=>some []
  |n+1,i,start=>(pts[i]?).bind fun p=>(pts[i+1]?).bind fun q=>(B2r p q).bind fun v=>(A2a v v).bind fun d=>(B2s d).bind fun r=>
   (B6u pts n (i+1) (w64 (start+r.1))).bind fun l=>some (((i:Int),CurvePiece.mk p v r.1 start)::l)
theorem C0o (pts:List Spot): ∀(n i:Nat) (s:Int),Le (B6u pts n i s) (A8o pts n i s)
  |0,i,s=>Le.refl _
  |n+1,i,s=>by
   rw [A8o,B6u]
   exact Le.bind (Le.refl _) fun _=>Le.bind (Le.refl _) fun _=>Le.bind (B6r _ _) fun _=>Le.bind (A9v _ _) fun _=>Le.bind (B6s _) fun _=>Le.bind (C0o pts n _ _) fun _=>Le.refl _
def C2u (pts:List Spot):Option (List (Int×CurvePiece)):=if pts.length≤1000000 then B6u pts (pts.length - 1) 0 0 else none
theorem C7g (pts:List Spot):Le (C2u pts) (C0g pts):=by
  unfold C2u C0g
  repeat' first|with_reducible exact Le.refl _|with_reducible exact C0o _ _ _ _|with_reducible refine Le.bind ?_ fun _=> ?_|with_reducible refine Le.cond ?_ ?_|with_reducible refine Le.ite ?_ ?_|with_reducible refine Le.thenS ?_ (fun _=> ?_) (fun _=> ?_)|with_reducible refine Le.loop (fun _=> ?_) _|with_reducible refine Le.loopL (fun _ _=> ?_) _ _|exact Le.refl _
def A88 (x1:(List Int))(a1:(Int×CurvePiece)):Option (Stp (List Int) (List Int)):=
  (B2d x1 [a1.2.l]).bind fun v3=>some (.go v3)
theorem B6v (x1:(List Int))(a1:(Int×CurvePiece)):Le (A88 x1 a1) (A3p x1 a1):=by
  unfold A88 A3p
  repeat' first|with_reducible exact Le.refl _|with_reducible refine Le.bind ?_ fun _=> ?_|with_reducible refine Le.cond ?_ ?_|with_reducible refine Le.ite ?_ ?_|with_reducible refine Le.thenS ?_ (fun _=> ?_) (fun _=> ?_)|with_reducible refine Le.loop (fun _=> ?_) _|with_reducible refine Le.loopL (fun _ _=> ?_) _ _|exact Le.refl _
def B2u (p1:Curve):Option (List Int):=
  (B0s p1).bind fun v1=>cond (v1 !=0) (some []) (((C2u p1.Pts).bind fun v2=>loopL (A88) (fun (x1:(List Int))=>x1) v2 []).bind fun y1=>some y1)
theorem C0p (p1:Curve):Le (B2u p1) (A7r p1):=by
  unfold B2u A7r
  repeat' first|with_reducible exact Le.refl _|with_reducible exact B58 _|with_reducible exact C7g _|with_reducible exact B6v _ _|with_reducible refine Le.bind ?_ fun _=> ?_|with_reducible refine Le.cond ?_ ?_|with_reducible refine Le.ite ?_ ?_|with_reducible refine Le.thenS ?_ (fun _=> ?_) (fun _=> ?_)|with_reducible refine Le.loop (fun _=> ?_) _|with_reducible refine Le.loopL (fun _ _=> ?_) _ _|exact Le.refl _
def A89 (v1:(List Int))(x1:(Int×Int)):Option (Stp (Int×Int) Int):=
  cond (decide (x1.2< (v1.length:Int))) ((G8 v1 x1.2).bind fun v2=>some (.go ((w64 (x1.1+v2)),(w64 (x1.2+1))))) (some (.out x1.1))
theorem B6w (v1:(List Int))(x1:(Int×Int)):Le (A89 v1 x1) (A3q v1 x1):=by
  unfold A89 A3q
  repeat' first|with_reducible exact Le.refl _|with_reducible refine Le.bind ?_ fun _=> ?_|with_reducible refine Le.cond ?_ ?_|with_reducible refine Le.ite ?_ ?_|with_reducible refine Le.thenS ?_ (fun _=> ?_) (fun _=> ?_)|with_reducible refine Le.loop (fun _=> ?_) _|with_reducible refine Le.loopL (fun _ _=> ?_) _ _|exact Le.refl _
def B2v (p1:Curve):Option Int:=
  (B2u p1).bind fun v1=>(R4 (A89 v1) (0,0)).bind fun y1=>some y1
theorem C0q (p1:Curve):Le (B2v p1) (A7s p1):=by
  unfold B2v A7s
  repeat' first|with_reducible exact Le.refl _|with_reducible exact C0p _|with_reducible exact B6w _ _|with_reducible refine Le.bind ?_ fun _=> ?_|with_reducible refine Le.cond ?_ ?_|with_reducible refine Le.ite ?_ ?_|with_reducible refine Le.thenS ?_ (fun _=> ?_) (fun _=> ?_)|with_reducible refine Le.loop (fun _=> ?_) _|with_reducible refine Le.loopL (fun _ _=> ?_) _ _|exact Le.refl _
def A7d (p1:Map)(p2:Int):Option Int:=
  (G8 p1.Lanes p2).bind fun v1=>(B2v v1.Curve_).bind fun v2=>some v2
theorem A8x (p1:Map)(p2:Int):Le (A7d p1 p2) (A5s p1 p2):=by
  unfold A7d A5s
  repeat' first|with_reducible exact Le.refl _|with_reducible exact C0q _|with_reducible refine Le.bind ?_ fun _=> ?_|with_reducible refine Le.cond ?_ ?_|with_reducible refine Le.ite ?_ ?_|with_reducible refine Le.thenS ?_ (fun _=> ?_) (fun _=> ?_)|with_reducible refine Le.loop (fun _=> ?_) _|with_reducible refine Le.loopL (fun _ _=> ?_) _ _|exact Le.refl _
def A45 (p1:RoadsCheck)(v1:Zone)(x3:Int):Option (Stp Int (Sum Unit Int)):=
  cond (decide (x3< (v1.Parts.length:Int))) ((G8 v1.Parts x3).bind fun v5=>((cond (!((decide (v5.From<0))||(decide (v5.From≥v5.To)))) (A7d p1.Map_ v5.Lane_) (some default))).bind fun v6=>cond (((((decide (v5.From<0))||(decide (v5.From≥v5.To)))||(decide (v5.To>v6)))||(decide (v5.Rank<0)))||(decide (v5.Rank>100))) (some (.out (.inr 2))) (some (.go (w64 (x3+1))))) (some (.out (.inl ())))
theorem B2w (p1:RoadsCheck)(v1:Zone)(x3:Int):Le (A45 p1 v1 x3) (Y5 p1 v1 x3):=by
  unfold A45 Y5
  repeat' first|with_reducible exact Le.refl _|with_reducible exact A8x _ _|with_reducible refine Le.bind ?_ fun _=> ?_|with_reducible refine Le.cond ?_ ?_|with_reducible refine Le.ite ?_ ?_|with_reducible refine Le.thenS ?_ (fun _=> ?_) (fun _=> ?_)|with_reducible refine Le.loop (fun _=> ?_) _|with_reducible refine Le.loopL (fun _ _=> ?_) _ _|exact Le.refl _
def A46 (v1:Zone)(x2:((List Int)×Int)):Option (Stp ((List Int)×Int) (List Int)):=
  cond (decide (x2.2< (v1.Parts.length:Int))) ((G8 v1.Parts x2.2).bind fun v2=>(B2d x2.1 [v2.Lane_]).bind fun v3=>some (.go (v3,(w64 (x2.2+1))))) (some (.out x2.1))
theorem B2x (v1:Zone)(x2:((List Int)×Int)):Le (A46 v1 x2) (Y6 v1 x2):=by
  unfold A46 Y6
  repeat' first|with_reducible exact Le.refl _|with_reducible refine Le.bind ?_ fun _=> ?_|with_reducible refine Le.cond ?_ ?_|with_reducible refine Le.ite ?_ ?_|with_reducible refine Le.thenS ?_ (fun _=> ?_) (fun _=> ?_)|with_reducible refine Le.loop (fun _=> ?_) _|with_reducible refine Le.loopL (fun _ _=> ?_) _ _|exact Le.refl _
def A47 (p1:RoadsCheck)(x1:Int):Option (Stp Int (Sum Unit Int)):=
  cond (decide (x1< (p1.Map_.Zones.length:Int))) ((G8 p1.Map_.Zones x1).bind fun v1=>cond (decide ((v1.Parts.length:Int)<2)) (some (.out (.inr 6))) (cond (decide ((v1.Parts.length:Int)>6)) (some (.out (.inr 8))) (cond ((decide (v1.Signal_<0))||(decide (v1.Signal_>(p1.Map_.Signals.length:Int)))) (some (.out (.inr 2))) ((R4 (A46 v1) ([],0)).bind fun y2=>(A6k y2 0 (p1.Map_.Lanes.length:Int)).bind fun v4=>cond (!v4) (some (.out (.inr 11))) (thenS (R4 (A45 p1 v1) 0) (fun _=>some (.go (w64 (x1+1)))) (fun r=>some (.out (.inr r)))))))) (some (.out (.inl ())))
theorem B2y (p1:RoadsCheck)(x1:Int):Le (A47 p1 x1) (Y7 p1 x1):=by
  unfold A47 Y7
  repeat' first|with_reducible exact Le.refl _|with_reducible exact B2x _ _|with_reducible exact A9x _ _ _|with_reducible exact B2w _ _ _|with_reducible refine Le.bind ?_ fun _=> ?_|with_reducible refine Le.cond ?_ ?_|with_reducible refine Le.ite ?_ ?_|with_reducible refine Le.thenS ?_ (fun _=> ?_) (fun _=> ?_)|with_reducible refine Le.loop (fun _=> ?_) _|with_reducible refine Le.loopL (fun _ _=> ?_) _ _|exact Le.refl _
def A6m (p1:RoadsCheck):Option Int:=
  thenS (R4 (A47 p1) 0) (fun _=>some 0) (fun r=>some r)
theorem B4v (p1:RoadsCheck):Le (A6m p1) (A25 p1):=by
  unfold A6m A25
  repeat' first|with_reducible exact Le.refl _|with_reducible exact B2y _ _|with_reducible refine Le.bind ?_ fun _=> ?_|with_reducible refine Le.cond ?_ ?_|with_reducible refine Le.ite ?_ ?_|with_reducible refine Le.thenS ?_ (fun _=> ?_) (fun _=> ?_)|with_reducible refine Le.loop (fun _=> ?_) _|with_reducible refine Le.loopL (fun _ _=> ?_) _ _|exact Le.refl _
def A48 (p1:RoadsCheck)(x1:Int):Option (Stp Int (Sum Unit Int)):=
  cond (decide (x1< (p1.Map_.Works.length:Int))) ((G8 p1.Map_.Works x1).bind fun v1=>cond ((decide (v1.Lane_<0))||(decide (v1.Lane_≥(p1.Map_.Lanes.length:Int)))) (some (.out (.inr 7))) ((G8 p1.Map_.Lanes v1.Lane_).bind fun v2=>(A4h v2.Kind).bind fun v3=>((cond (!((decide (v1.From<0))||(decide (v1.From>v1.To)))) (A7d p1.Map_ v1.Lane_) (some default))).bind fun v4=>((cond (!((((((decide (v1.From<0))||(decide (v1.From>v1.To)))||(decide (v1.To>v4)))||(decide (v1.Begin<0)))||(decide (v1.Begin≥v1.End)))||(decide (v1.End>1099511627776)))) (A17 v1.Limit 0 v3.1) (some default))).bind fun v5=>cond (((((((decide (v1.From<0))||(decide (v1.From>v1.To)))||(decide (v1.To>v4)))||(decide (v1.Begin<0)))||(decide (v1.Begin≥v1.End)))||(decide (v1.End>1099511627776)))||(!v5)) (some (.out (.inr 2))) (some (.go (w64 (x1+1)))))) (some (.out (.inl ())))
theorem B2z (p1:RoadsCheck)(x1:Int):Le (A48 p1 x1) (Y8 p1 x1):=by
  unfold A48 Y8
  repeat' first|with_reducible exact Le.refl _|with_reducible exact A6j _|with_reducible exact A8x _ _|with_reducible exact A43 _ _ _|with_reducible refine Le.bind ?_ fun _=> ?_|with_reducible refine Le.cond ?_ ?_|with_reducible refine Le.ite ?_ ?_|with_reducible refine Le.thenS ?_ (fun _=> ?_) (fun _=> ?_)|with_reducible refine Le.loop (fun _=> ?_) _|with_reducible refine Le.loopL (fun _ _=> ?_) _ _|exact Le.refl _
def A6n (p1:RoadsCheck):Option Int:=
  thenS (R4 (A48 p1) 0) (fun _=>some 0) (fun r=>some r)
theorem B4w (p1:RoadsCheck):Le (A6n p1) (A26 p1):=by
  unfold A6n A26
  repeat' first|with_reducible exact Le.refl _|with_reducible exact B2z _ _|with_reducible refine Le.bind ?_ fun _=> ?_|with_reducible refine Le.cond ?_ ?_|with_reducible refine Le.ite ?_ ?_|with_reducible refine Le.thenS ?_ (fun _=> ?_) (fun _=> ?_)|with_reducible refine Le.loop (fun _=> ?_) _|with_reducible refine Le.loopL (fun _ _=> ?_) _ _|exact Le.refl _
def A0e (v:Nat)(p1:RoadsCheck):Option Int:=
  cond (Nat.beq v 148) (A4q p1) (cond (Nat.beq v 149) (A6l p1) (cond (Nat.beq v 150) (A5l p1) (cond (Nat.beq v 151) (A4r p1) (cond (Nat.beq v 152) (A6m p1) (cond (Nat.beq v 153) (A6n p1) (none))))))
theorem A8a (v:Nat)(p1:RoadsCheck):Le (A0e v p1) (S3 v p1):=by
  unfold A0e S3
  repeat' first|with_reducible exact Le.refl _|with_reducible exact B3l _|with_reducible exact B4u _|with_reducible exact B47 _|with_reducible exact B3m _|with_reducible exact B4v _|with_reducible exact B4w _|with_reducible refine Le.bind ?_ fun _=> ?_|with_reducible refine Le.cond ?_ ?_|with_reducible refine Le.ite ?_ ?_|with_reducible refine Le.thenS ?_ (fun _=> ?_) (fun _=> ?_)|with_reducible refine Le.loop (fun _=> ?_) _|with_reducible refine Le.loopL (fun _ _=> ?_) _ _|exact Le.refl _
def A9y (p1:Map)(x1:Int):Option (Stp Int (Sum Unit Int)):=
  cond (decide (x1< ([148,149,150,151,152,153].length:Int))) ((G8 [148,149,150,151,152,153] x1).bind fun v1=>(A0e v1 (RoadsCheck.mk p1)).bind fun v2=>cond (v2 !=0) (some (.out (.inr v2))) (some (.go (w64 (x1+1))))) (some (.out (.inl ())))
theorem B7q (p1:Map)(x1:Int):Le (A9y p1 x1) (A4y p1 x1):=by
  unfold A9y A4y
  repeat' first|with_reducible exact Le.refl _|with_reducible exact A8a _ _|with_reducible refine Le.bind ?_ fun _=> ?_|with_reducible refine Le.cond ?_ ?_|with_reducible refine Le.ite ?_ ?_|with_reducible refine Le.thenS ?_ (fun _=> ?_) (fun _=> ?_)|with_reducible refine Le.loop (fun _=> ?_) _|with_reducible refine Le.loopL (fun _ _=> ?_) _ _|exact Le.refl _
def A80 (p1:Map):Option Int:=
  thenS (R4 (A9y p1) 0) (fun _=>some 0) (fun r=>some r)
theorem B17 (p1:Map):Le (A80 p1) (A5h p1):=by
  unfold A80 A5h
  repeat' first|with_reducible exact Le.refl _|with_reducible exact B7q _ _|with_reducible refine Le.bind ?_ fun _=> ?_|with_reducible refine Le.cond ?_ ?_|with_reducible refine Le.ite ?_ ?_|with_reducible refine Le.thenS ?_ (fun _=> ?_) (fun _=> ?_)|with_reducible refine Le.loop (fun _=> ?_) _|with_reducible refine Le.loopL (fun _ _=> ?_) _ _|exact Le.refl _
def A2c (p1:(List Int))(p2:Int)(x1:Int):Option (Stp Int (Sum Unit Int)):=
  cond (decide (x1< (p1.length:Int))) ((G8 p1 x1).bind fun v1=>cond (p2==v1) (some (.out (.inr x1))) (some (.go (w64 (x1+1))))) (some (.out (.inl ())))
theorem B0n (p1:(List Int))(p2:Int)(x1:Int):Le (A2c p1 p2 x1) (U5 p1 p2 x1):=by
  unfold A2c U5
  repeat' first|with_reducible exact Le.refl _|with_reducible refine Le.bind ?_ fun _=> ?_|with_reducible refine Le.cond ?_ ?_|with_reducible refine Le.ite ?_ ?_|with_reducible refine Le.thenS ?_ (fun _=> ?_) (fun _=> ?_)|with_reducible refine Le.loop (fun _=> ?_) _|with_reducible refine Le.loopL (fun _ _=> ?_) _ _|exact Le.refl _
def A18 (p1:(List Int))(p2:Int):Option Int:=
  thenS (R4 (A2c p1 p2) 0) (fun _=>some (-1)) (fun r=>some r)
theorem A6o (p1:(List Int))(p2:Int):Le (A18 p1 p2) (U8 p1 p2):=by
  unfold A18 U8
  repeat' first|with_reducible exact Le.refl _|with_reducible exact B0n _ _ _|with_reducible refine Le.bind ?_ fun _=> ?_|with_reducible refine Le.cond ?_ ?_|with_reducible refine Le.ite ?_ ?_|with_reducible refine Le.thenS ?_ (fun _=> ?_) (fun _=> ?_)|with_reducible refine Le.loop (fun _=> ?_) _|with_reducible refine Le.loopL (fun _ _=> ?_) _ _|exact Le.refl _
def T8 (p1:(List Int))(p2:Int):Option Bool:=
  (A18 p1 p2).bind fun v1=>some (decide (v1≥0))
theorem A0s (p1:(List Int))(p2:Int):Le (T8 p1 p2) (P6 p1 p2):=by
  unfold T8 P6
  repeat' first|with_reducible exact Le.refl _|with_reducible exact A6o _ _|with_reducible refine Le.bind ?_ fun _=> ?_|with_reducible refine Le.cond ?_ ?_|with_reducible refine Le.ite ?_ ?_|with_reducible refine Le.thenS ?_ (fun _=> ?_) (fun _=> ?_)|with_reducible refine Le.loop (fun _=> ?_) _|with_reducible refine Le.loopL (fun _ _=> ?_) _ _|exact Le.refl _
def A8b (p1:Map)(p2:Int)(x1:((List Int)×Int)):Option (Stp ((List Int)×Int) (List Int)):=
  cond (decide (x1.2< (p1.Lanes.length:Int))) ((G8 p1.Lanes x1.2).bind fun v1=>(T8 v1.Next p2).bind fun v2=>cond v2 ((B2d x1.1 [x1.2]).bind fun v3=>some (.go (v3,(w64 (x1.2+1))))) (some (.go (x1.1,(w64 (x1.2+1)))))) (some (.out x1.1))
theorem B6x (p1:Map)(p2:Int)(x1:((List Int)×Int)):Le (A8b p1 p2 x1) (A3r p1 p2 x1):=by
  unfold A8b A3r
  repeat' first|with_reducible exact Le.refl _|with_reducible exact A0s _ _|with_reducible refine Le.bind ?_ fun _=> ?_|with_reducible refine Le.cond ?_ ?_|with_reducible refine Le.ite ?_ ?_|with_reducible refine Le.thenS ?_ (fun _=> ?_) (fun _=> ?_)|with_reducible refine Le.loop (fun _=> ?_) _|with_reducible refine Le.loopL (fun _ _=> ?_) _ _|exact Le.refl _
def B30 (p1:Map)(p2:Int):Option (List Int):=
  (R4 (A8b p1 p2) ([],0)).bind fun y1=>some y1
theorem C0r (p1:Map)(p2:Int):Le (B30 p1 p2) (A7t p1 p2):=by
  unfold B30 A7t
  repeat' first|with_reducible exact Le.refl _|with_reducible exact B6x _ _ _|with_reducible refine Le.bind ?_ fun _=> ?_|with_reducible refine Le.cond ?_ ?_|with_reducible refine Le.ite ?_ ?_|with_reducible refine Le.thenS ?_ (fun _=> ?_) (fun _=> ?_)|with_reducible refine Le.loop (fun _=> ?_) _|with_reducible refine Le.loopL (fun _ _=> ?_) _ _|exact Le.refl _
def A4s (p1:Map)(v7:List Int)(x1:(Int×Int)):Option (Stp (Int×Int) (Sum Unit Int)):=
  cond (decide (x1.2< (v7.length:Int))) ((G8 v7 x1.2).bind fun v8=>(G8 p1.Lanes x1.1).bind fun v9=>(T8 v9.Next v8).bind fun v10=>cond (!v10) (some (.out (.inr 13))) (some (.go (v8,(w64 (x1.2+1)))))) (some (.out (.inl ())))
theorem B3n (p1:Map)(v7:List Int)(x1:(Int×Int)):Le (A4s p1 v7 x1) (A09 p1 v7 x1):=by
  unfold A4s A09
  repeat' first|with_reducible exact Le.refl _|with_reducible exact A0s _ _|with_reducible refine Le.bind ?_ fun _=> ?_|with_reducible refine Le.cond ?_ ?_|with_reducible refine Le.ite ?_ ?_|with_reducible refine Le.thenS ?_ (fun _=> ?_) (fun _=> ?_)|with_reducible refine Le.loop (fun _=> ?_) _|with_reducible refine Le.loopL (fun _ _=> ?_) _ _|exact Le.refl _
def A4i (p1:Map)(p2:(List Int)):Option Int:=
  (A80 p1).bind fun v1=>cond (v1 !=0) (some v1) (((cond (!(((p2.length:Int)==0)||(decide ((p2.length:Int)>8)))) (G8 p2 0) (some default))).bind fun v2=>((cond (!((((p2.length:Int)==0)||(decide ((p2.length:Int)>8)))||(decide (v2<0)))) (G8 p2 0) (some default))).bind fun v3=>((cond (!(((((p2.length:Int)==0)||(decide ((p2.length:Int)>8)))||(decide (v2<0)))||(decide (v3≥(p1.Lanes.length:Int))))) (G8 p2 0) (some default))).bind fun v4=>((cond (!(((((p2.length:Int)==0)||(decide ((p2.length:Int)>8)))||(decide (v2<0)))||(decide (v3≥(p1.Lanes.length:Int))))) (B30 p1 v4) (some default))).bind fun v5=>cond ((((((p2.length:Int)==0)||(decide ((p2.length:Int)>8)))||(decide (v2<0)))||(decide (v3≥(p1.Lanes.length:Int))))||(decide ((v5.length:Int)>0))) (some 13) ((G8 p2 0).bind fun v6=>(D3p p2 1 (p2.length:Int)).bind fun v7=>thenS (R4 (A4s p1 v7) (v6,0)) (fun _=>some 0) (fun r=>some r)))
theorem A9z (p1:Map)(p2:(List Int)):Le (A4i p1 p2) (A0x p1 p2):=by
  unfold A4i A0x
  repeat' first|with_reducible exact Le.refl _|with_reducible exact B17 _|with_reducible exact C0r _ _|with_reducible exact B3n _ _ _|with_reducible refine Le.bind ?_ fun _=> ?_|with_reducible refine Le.cond ?_ ?_|with_reducible refine Le.ite ?_ ?_|with_reducible refine Le.thenS ?_ (fun _=> ?_) (fun _=> ?_)|with_reducible refine Le.loop (fun _=> ?_) _|with_reducible refine Le.loopL (fun _ _=> ?_) _ _|exact Le.refl _
def A8c (p1:Map)(p2:(List Int))(x1:(Int× ((List Int)×Int))):Option (Stp (Int× ((List Int)×Int)) ((List Int)×Int)):=
  cond (decide (x1.1< (p2.length:Int))) ((G8 p2 x1.1).bind fun v2=>(B2d x1.2.1 [x1.2.2]).bind fun v3=>(A7d p1 v2).bind fun v4=>some (.go ((w64 (x1.1+1)),(v3,(w64 (x1.2.2+v4)))))) (some (.out x1.2))
theorem B6y (p1:Map)(p2:(List Int))(x1:(Int× ((List Int)×Int))):Le (A8c p1 p2 x1) (A3s p1 p2 x1):=by
  unfold A8c A3s
  repeat' first|with_reducible exact Le.refl _|with_reducible exact A8x _ _|with_reducible refine Le.bind ?_ fun _=> ?_|with_reducible refine Le.cond ?_ ?_|with_reducible refine Le.ite ?_ ?_|with_reducible refine Le.thenS ?_ (fun _=> ?_) (fun _=> ?_)|with_reducible refine Le.loop (fun _=> ?_) _|with_reducible refine Le.loopL (fun _ _=> ?_) _ _|exact Le.refl _
def A4j (p1:Map)(p2:(List Int)):Option RoadsWay:=
  (A4i p1 p2).bind fun v1=>cond (v1 !=0) (some (RoadsWay.mk (Map.mk 0 [] [] [] []) [] [] 0)) ((R4 (A8c p1 p2) (0,([],0))).bind fun y1=>some (RoadsWay.mk p1 p2 y1.1 y1.2))
theorem A6p (p1:Map)(p2:(List Int)):Le (A4j p1 p2) (A2l p1 p2):=by
  unfold A4j A2l
  repeat' first|with_reducible exact Le.refl _|with_reducible exact A9z _ _|with_reducible exact B6y _ _ _|with_reducible refine Le.bind ?_ fun _=> ?_|with_reducible refine Le.cond ?_ ?_|with_reducible refine Le.ite ?_ ?_|with_reducible refine Le.thenS ?_ (fun _=> ?_) (fun _=> ?_)|with_reducible refine Le.loop (fun _=> ?_) _|with_reducible refine Le.loopL (fun _ _=> ?_) _ _|exact Le.refl _
def A3i (p1:Map)(p2:(List Int)):Option Int:=
  (A4j p1 p2).bind fun v1=>some v1.length
theorem A8l (p1:Map)(p2:(List Int)):Le (A3i p1 p2) (Z6 p1 p2):=by
  unfold A3i Z6
  repeat' first|with_reducible exact Le.refl _|with_reducible exact A6p _ _|with_reducible refine Le.bind ?_ fun _=> ?_|with_reducible refine Le.cond ?_ ?_|with_reducible refine Le.ite ?_ ?_|with_reducible refine Le.thenS ?_ (fun _=> ?_) (fun _=> ?_)|with_reducible refine Le.loop (fun _=> ?_) _|with_reducible refine Le.loopL (fun _ _=> ?_) _ _|exact Le.refl _
def A6q (p1:Map)(p2:(List Int)):Option (List Int):=
  (A4j p1 p2).bind fun v1=>some v1.starts
theorem B00 (p1:Map)(p2:(List Int)):Le (A6q p1 p2) (A3t p1 p2):=by
  unfold A6q A3t
  repeat' first|with_reducible exact Le.refl _|with_reducible exact A6p _ _|with_reducible refine Le.bind ?_ fun _=> ?_|with_reducible refine Le.cond ?_ ?_|with_reducible refine Le.ite ?_ ?_|with_reducible refine Le.thenS ?_ (fun _=> ?_) (fun _=> ?_)|with_reducible refine Le.loop (fun _=> ?_) _|with_reducible refine Le.loopL (fun _ _=> ?_) _ _|exact Le.refl _
def B18 (p2:Agent)(v1:(List Int))(x1:Int):Option (Stp Int Int):=
  (G8 v1 x1).bind fun v2=>cond (decide (v2>p2.S)) (some (.go (w64 (x1 - 1)))) (some (.out x1))
theorem B8p (p2:Agent)(v1:(List Int))(x1:Int):Le (B18 p2 v1 x1) (A69 p2 v1 x1):=by
  unfold B18 A69
  repeat' first|with_reducible exact Le.refl _|with_reducible refine Le.bind ?_ fun _=> ?_|with_reducible refine Le.cond ?_ ?_|with_reducible refine Le.ite ?_ ?_|with_reducible refine Le.thenS ?_ (fun _=> ?_) (fun _=> ?_)|with_reducible refine Le.loop (fun _=> ?_) _|with_reducible refine Le.loopL (fun _ _=> ?_) _ _|exact Le.refl _
def B31 (p1:Map)(p2:Agent):Option (Int×Int):=
  (A6q p1 p2.Route).bind fun v1=>(R4 (B18 p2 v1) (w64 ((v1.length:Int) - 1))).bind fun y1=>(G8 p2.Route y1).bind fun v3=>(G8 v1 y1).bind fun v4=>some (v3,(w64 (p2.S - v4)))
theorem B6z (p1:Map)(p2:Agent):Le (B31 p1 p2) (A94 p1 p2):=by
  unfold B31 A94
  repeat' first|with_reducible exact Le.refl _|with_reducible exact B00 _ _|with_reducible exact B8p _ _ _|with_reducible refine Le.bind ?_ fun _=> ?_|with_reducible refine Le.cond ?_ ?_|with_reducible refine Le.ite ?_ ?_|with_reducible refine Le.thenS ?_ (fun _=> ?_) (fun _=> ?_)|with_reducible refine Le.loop (fun _=> ?_) _|with_reducible refine Le.loopL (fun _ _=> ?_) _ _|exact Le.refl _
def A49 (p1:Agent):Option WorldSpan:=
  some (WorldSpan.mk (w64 (p1.S - p1.Len)) p1.S)
theorem A8y (p1:Agent):Le (A49 p1) (A33 p1):=by
  unfold A49 A33
  repeat' first|with_reducible exact Le.refl _|with_reducible refine Le.bind ?_ fun _=> ?_|with_reducible refine Le.cond ?_ ?_|with_reducible refine Le.ite ?_ ?_|with_reducible refine Le.thenS ?_ (fun _=> ?_) (fun _=> ?_)|with_reducible refine Le.loop (fun _=> ?_) _|with_reducible refine Le.loopL (fun _ _=> ?_) _ _|exact Le.refl _
def B32 (p1:Map)(p2:Agent):Option Bool:=
  (A49 p2).bind fun v1=>(A3i p1 p2.Route).bind fun v2=>some (decide (v1.from_>v2))
theorem B70 (p1:Map)(p2:Agent):Le (B32 p1 p2) (A95 p1 p2):=by
  unfold B32 A95
  repeat' first|with_reducible exact Le.refl _|with_reducible exact A8y _|with_reducible exact A8l _ _|with_reducible refine Le.bind ?_ fun _=> ?_|with_reducible refine Le.cond ?_ ?_|with_reducible refine Le.ite ?_ ?_|with_reducible refine Le.thenS ?_ (fun _=> ?_) (fun _=> ?_)|with_reducible refine Le.loop (fun _=> ?_) _|with_reducible refine Le.loopL (fun _ _=> ?_) _ _|exact Le.refl _
def A7e (p1:Map)(p2:State)(p3:Int):Option Int:=
  (G8 p2.Agents p3).bind fun v1=>(A4i p1 v1.Route).bind fun v2=>cond (v2 !=0) (some 13) (((cond (!(((((decide (v1.Len<300))||(decide (v1.Len>20000)))||(decide (v1.Begin<0)))||(decide (v1.Begin>1099511627776)))||(decide (v1.S<0)))) (A3i p1 v1.Route) (some default))).bind fun v3=>cond ((((((decide (v1.Len<300))||(decide (v1.Len>20000)))||(decide (v1.Begin<0)))||(decide (v1.Begin>1099511627776)))||(decide (v1.S<0)))||(decide (v1.S>(w64 ((w64 (v3+v1.Len))+2000))))) (some 2) ((B31 p1 v1).bind fun v4=>(G8 p1.Lanes v4.1).bind fun v5=>(A4h v5.Kind).bind fun v6=>cond ((decide (v1.V<0))||(decide (v1.V>v6.1))) (some 2) ((B32 p1 v1).bind fun v7=>cond ((!(v1.Gone==v7))||(((decide (v1.Begin>p2.Tick))&& (v1.S !=0))||((p3==0)&& (v1.Begin !=0)))) (some 10) (some 0))))
theorem B5r (p1:Map)(p2:State)(p3:Int):Le (A7e p1 p2 p3) (A30 p1 p2 p3):=by
  unfold A7e A30
  repeat' first|with_reducible exact Le.refl _|with_reducible exact A9z _ _|with_reducible exact A8l _ _|with_reducible exact B6z _ _|with_reducible exact A6j _|with_reducible exact B70 _ _|with_reducible refine Le.bind ?_ fun _=> ?_|with_reducible refine Le.cond ?_ ?_|with_reducible refine Le.ite ?_ ?_|with_reducible refine Le.thenS ?_ (fun _=> ?_) (fun _=> ?_)|with_reducible refine Le.loop (fun _=> ?_) _|with_reducible refine Le.loopL (fun _ _=> ?_) _ _|exact Le.refl _
def A7k (p1:Int):Option Bool:=
  some (p1 !=p1)
theorem B8q (p1:Int):Le (A7k p1) (A4d p1):=by
  unfold A7k A4d
  repeat' first|with_reducible exact Le.refl _|with_reducible refine Le.bind ?_ fun _=> ?_|with_reducible refine Le.cond ?_ ?_|with_reducible refine Le.ite ?_ ?_|with_reducible refine Le.thenS ?_ (fun _=> ?_) (fun _=> ?_)|with_reducible refine Le.loop (fun _=> ?_) _|with_reducible refine Le.loopL (fun _ _=> ?_) _ _|exact Le.refl _
def A10 (p1:Int)(p2:Int):Option Int:=
  (A7k p1).bind fun v1=>(A7k p2).bind fun v2=>cond v1 (cond v2 (some 0) (some (-1))) (cond v2 (some 1) (cond (decide (p1<p2)) (some (-1)) (cond (decide (p1>p2)) (some 1) (some 0))))
theorem A6r (p1:Int)(p2:Int):Le (A10 p1 p2) (W1 p1 p2):=by
  unfold A10 W1
  repeat' first|with_reducible exact Le.refl _|with_reducible exact B8q _|with_reducible refine Le.bind ?_ fun _=> ?_|with_reducible refine Le.cond ?_ ?_|with_reducible refine Le.ite ?_ ?_|with_reducible refine Le.thenS ?_ (fun _=> ?_) (fun _=> ?_)|with_reducible refine Le.loop (fun _=> ?_) _|with_reducible refine Le.loopL (fun _ _=> ?_) _ _|exact Le.refl _
def B19 (p1:(List Int))(x1:Int):Option (Stp Int (Sum Unit Int)):=
  cond (decide (x1< (p1.length:Int))) ((G8 p1 x1).bind fun v1=>cond (v1 !=0) (some (.out (.inr v1))) (some (.go (w64 (x1+1))))) (some (.out (.inl ())))
theorem B8r (p1:(List Int))(x1:Int):Le (B19 p1 x1) (A6a p1 x1):=by
  unfold B19 A6a
  repeat' first|with_reducible exact Le.refl _|with_reducible refine Le.bind ?_ fun _=> ?_|with_reducible refine Le.cond ?_ ?_|with_reducible refine Le.ite ?_ ?_|with_reducible refine Le.thenS ?_ (fun _=> ?_) (fun _=> ?_)|with_reducible refine Le.loop (fun _=> ?_) _|with_reducible refine Le.loopL (fun _ _=> ?_) _ _|exact Le.refl _
def B01 (p1:(List Int)):Option Int:=
  thenS (R4 (B19 p1) 0) (fun _=>some 0) (fun r=>some r)
theorem B33 (p1:(List Int)):Le (B01 p1) (A78 p1):=by
  unfold B01 A78
  repeat' first|with_reducible exact Le.refl _|with_reducible exact B8r _ _|with_reducible refine Le.bind ?_ fun _=> ?_|with_reducible refine Le.cond ?_ ?_|with_reducible refine Le.ite ?_ ?_|with_reducible refine Le.thenS ?_ (fun _=> ?_) (fun _=> ?_)|with_reducible refine Le.loop (fun _=> ?_) _|with_reducible refine Le.loopL (fun _ _=> ?_) _ _|exact Le.refl _
def A81 (p1:Stay)(p2:Stay):Option Int:=
  (A10 p1.Agent_ p2.Agent_).bind fun v1=>(A10 p1.Zone_ p2.Zone_).bind fun v2=>(B01 [v1,v2]).bind fun v3=>some v3
theorem B1a (p1:Stay)(p2:Stay):Le (A81 p1 p2) (A5i p1 p2):=by
  unfold A81 A5i
  repeat' first|with_reducible exact Le.refl _|with_reducible exact A6r _ _|with_reducible exact B33 _|with_reducible refine Le.bind ?_ fun _=> ?_|with_reducible refine Le.cond ?_ ?_|with_reducible refine Le.ite ?_ ?_|with_reducible refine Le.thenS ?_ (fun _=> ?_) (fun _=> ?_)|with_reducible refine Le.loop (fun _=> ?_) _|with_reducible refine Le.loopL (fun _ _=> ?_) _ _|exact Le.refl _
def A8d (p1:Stay)(p2:State):Option Bool:=
  some ((((decide (p1.Since<0))||(decide (p1.Since>p2.Tick)))||(decide (p1.Rank<0)))||(decide (p1.Rank>100)))
theorem B71 (p1:Stay)(p2:State):Le (A8d p1 p2) (A3u p1 p2):=by
  unfold A8d A3u
  repeat' first|with_reducible exact Le.refl _|with_reducible refine Le.bind ?_ fun _=> ?_|with_reducible refine Le.cond ?_ ?_|with_reducible refine Le.ite ?_ ?_|with_reducible refine Le.thenS ?_ (fun _=> ?_) (fun _=> ?_)|with_reducible refine Le.loop (fun _=> ?_) _|with_reducible refine Le.loopL (fun _ _=> ?_) _ _|exact Le.refl _
def O5 (p1:(List Stay))(p2:State)(x1:Int):Option (Stp Int (Sum Unit Int)):=
  cond (decide (x1< (p1.length:Int))) ((G8 p1 x1).bind fun v1=>(A8d v1 p2).bind fun v2=>cond v2 (some (.out (.inr x1))) (some (.go (w64 (x1+1))))) (some (.out (.inl ())))
theorem A1l (p1:(List Stay))(p2:State)(x1:Int):Le (O5 p1 p2 x1) (G4 p1 p2 x1):=by
  unfold O5 G4
  repeat' first|with_reducible exact Le.refl _|with_reducible exact B71 _ _|with_reducible refine Le.bind ?_ fun _=> ?_|with_reducible refine Le.cond ?_ ?_|with_reducible refine Le.ite ?_ ?_|with_reducible refine Le.thenS ?_ (fun _=> ?_) (fun _=> ?_)|with_reducible refine Le.loop (fun _=> ?_) _|with_reducible refine Le.loopL (fun _ _=> ?_) _ _|exact Le.refl _
def Q2 (p1:(List Stay))(p2:State):Option Int:=
  thenS (R4 (O5 p1 p2) 0) (fun _=>some (-1)) (fun r=>some r)
theorem A2i (p1:(List Stay))(p2:State):Le (Q2 p1 p2) (I6 p1 p2):=by
  unfold Q2 I6
  repeat' first|with_reducible exact Le.refl _|with_reducible exact A1l _ _ _|with_reducible refine Le.bind ?_ fun _=> ?_|with_reducible refine Le.cond ?_ ?_|with_reducible refine Le.ite ?_ ?_|with_reducible refine Le.thenS ?_ (fun _=> ?_) (fun _=> ?_)|with_reducible refine Le.loop (fun _=> ?_) _|with_reducible refine Le.loopL (fun _ _=> ?_) _ _|exact Le.refl _
def O6 (p1:(List Stay))(p2:State):Option Bool:=
  (Q2 p1 p2).bind fun v1=>some (decide (v1≥0))
theorem A1m (p1:(List Stay))(p2:State):Le (O6 p1 p2) (G5 p1 p2):=by
  unfold O6 G5
  repeat' first|with_reducible exact Le.refl _|with_reducible exact A2i _ _|with_reducible refine Le.bind ?_ fun _=> ?_|with_reducible refine Le.cond ?_ ?_|with_reducible refine Le.ite ?_ ?_|with_reducible refine Le.thenS ?_ (fun _=> ?_) (fun _=> ?_)|with_reducible refine Le.loop (fun _=> ?_) _|with_reducible refine Le.loopL (fun _ _=> ?_) _ _|exact Le.refl _
def B02 (p1:Map)(p2:State)(x2:Int):Option (Stp Int (Sum Unit Int)):=
  cond (decide (x2< (p2.In.length:Int))) ((G8 p2.In x2).bind fun v3=>((cond ((!((((decide (v3.Agent_<0))||(decide (v3.Agent_≥(p2.Agents.length:Int))))||(decide (v3.Zone_<0)))||(decide (v3.Zone_≥(p1.Zones.length:Int)))))&& (decide (x2>0))) (G8 p2.In (w64 (x2 - 1))) (some default))).bind fun v4=>((cond ((!((((decide (v3.Agent_<0))||(decide (v3.Agent_≥(p2.Agents.length:Int))))||(decide (v3.Zone_<0)))||(decide (v3.Zone_≥(p1.Zones.length:Int)))))&& (decide (x2>0))) (A81 v4 v3) (some default))).bind fun v5=>cond (((((decide (v3.Agent_<0))||(decide (v3.Agent_≥(p2.Agents.length:Int))))||(decide (v3.Zone_<0)))||(decide (v3.Zone_≥(p1.Zones.length:Int))))||((decide (x2>0))&& (decide (v5≥0)))) (some (.out (.inr 11))) (some (.go (w64 (x2+1))))) (some (.out (.inl ())))
theorem B7r (p1:Map)(p2:State)(x2:Int):Le (B02 p1 p2 x2) (A4z p1 p2 x2):=by
  unfold B02 A4z
  repeat' first|with_reducible exact Le.refl _|with_reducible exact B1a _ _|with_reducible refine Le.bind ?_ fun _=> ?_|with_reducible refine Le.cond ?_ ?_|with_reducible refine Le.ite ?_ ?_|with_reducible refine Le.thenS ?_ (fun _=> ?_) (fun _=> ?_)|with_reducible refine Le.loop (fun _=> ?_) _|with_reducible refine Le.loopL (fun _ _=> ?_) _ _|exact Le.refl _
def B03 (p1:Map)(p2:State)(x1:Int):Option (Stp Int (Sum Unit Int)):=
  cond (decide (x1< (p2.Agents.length:Int))) ((A7e p1 p2 x1).bind fun v2=>cond (v2 !=0) (some (.out (.inr v2))) (some (.go (w64 (x1+1))))) (some (.out (.inl ())))
theorem B7s (p1:Map)(p2:State)(x1:Int):Le (B03 p1 p2 x1) (A50 p1 p2 x1):=by
  unfold B03 A50
  repeat' first|with_reducible exact Le.refl _|with_reducible exact B5r _ _ _|with_reducible refine Le.bind ?_ fun _=> ?_|with_reducible refine Le.cond ?_ ?_|with_reducible refine Le.ite ?_ ?_|with_reducible refine Le.thenS ?_ (fun _=> ?_) (fun _=> ?_)|with_reducible refine Le.loop (fun _=> ?_) _|with_reducible refine Le.loopL (fun _ _=> ?_) _ _|exact Le.refl _
def A82 (p1:Map)(p2:State):Option Int:=
  (A80 p1).bind fun v1=>cond (v1 !=0) (some v1) (cond ((decide (p2.Tick<0))||(decide (p2.Tick>1099511627776))) (some 2) (cond ((p2.Agents.length:Int)==0) (some 6) (cond (decide ((p2.Agents.length:Int)>8)) (some 8) (thenS (R4 (B03 p1 p2) 0) (fun _=>thenS (R4 (B02 p1 p2) 0) (fun _=>(O6 p2.In p2).bind fun v6=>cond v6 (some 2) (some 0)) (fun r=>some r)) (fun r=>some r)))))
theorem B1b (p1:Map)(p2:State):Le (A82 p1 p2) (A5j p1 p2):=by
  unfold A82 A5j
  repeat' first|with_reducible exact Le.refl _|with_reducible exact B17 _|with_reducible exact B7s _ _ _|with_reducible exact B7r _ _ _|with_reducible exact A1m _ _|with_reducible refine Le.bind ?_ fun _=> ?_|with_reducible refine Le.cond ?_ ?_|with_reducible refine Le.ite ?_ ?_|with_reducible refine Le.thenS ?_ (fun _=> ?_) (fun _=> ?_)|with_reducible refine Le.loop (fun _=> ?_) _|with_reducible refine Le.loopL (fun _ _=> ?_) _ _|exact Le.refl _
def B48 (p1:Agent):Option Bool:=
  some p1.Gone
theorem C1c (p1:Agent):Le (B48 p1) (A9o p1):=by
  unfold B48 A9o
  repeat' first|with_reducible exact Le.refl _|with_reducible refine Le.bind ?_ fun _=> ?_|with_reducible refine Le.cond ?_ ?_|with_reducible refine Le.ite ?_ ?_|with_reducible refine Le.thenS ?_ (fun _=> ?_) (fun _=> ?_)|with_reducible refine Le.loop (fun _=> ?_) _|with_reducible refine Le.loopL (fun _ _=> ?_) _ _|exact Le.refl _
def O9 (p1:(List Agent))(x1:Int):Option (Stp Int (Sum Unit Int)):=
  cond (decide (x1< (p1.length:Int))) ((G8 p1 x1).bind fun v1=>(B48 v1).bind fun v2=>cond v2 (some (.out (.inr x1))) (some (.go (w64 (x1+1))))) (some (.out (.inl ())))
theorem A1r (p1:(List Agent))(x1:Int):Le (O9 p1 x1) (G9 p1 x1):=by
  unfold O9 G9
  repeat' first|with_reducible exact Le.refl _|with_reducible exact C1c _|with_reducible refine Le.bind ?_ fun _=> ?_|with_reducible refine Le.cond ?_ ?_|with_reducible refine Le.ite ?_ ?_|with_reducible refine Le.thenS ?_ (fun _=> ?_) (fun _=> ?_)|with_reducible refine Le.loop (fun _=> ?_) _|with_reducible refine Le.loopL (fun _ _=> ?_) _ _|exact Le.refl _
def Q4 (p1:(List Agent)):Option Int:=
  thenS (R4 (O9 p1) 0) (fun _=>some (-1)) (fun r=>some r)
theorem A2s (p1:(List Agent)):Le (Q4 p1) (J0 p1):=by
  unfold Q4 J0
  repeat' first|with_reducible exact Le.refl _|with_reducible exact A1r _ _|with_reducible refine Le.bind ?_ fun _=> ?_|with_reducible refine Le.cond ?_ ?_|with_reducible refine Le.ite ?_ ?_|with_reducible refine Le.thenS ?_ (fun _=> ?_) (fun _=> ?_)|with_reducible refine Le.loop (fun _=> ?_) _|with_reducible refine Le.loopL (fun _ _=> ?_) _ _|exact Le.refl _
def P0 (p1:(List Agent)):Option Bool:=
  (Q4 p1).bind fun v1=>some (decide (v1≥0))
theorem A1s (p1:(List Agent)):Le (P0 p1) (H4 p1):=by
  unfold P0 H4
  repeat' first|with_reducible exact Le.refl _|with_reducible exact A2s _|with_reducible refine Le.bind ?_ fun _=> ?_|with_reducible refine Le.cond ?_ ?_|with_reducible refine Le.ite ?_ ?_|with_reducible refine Le.thenS ?_ (fun _=> ?_) (fun _=> ?_)|with_reducible refine Le.loop (fun _=> ?_) _|with_reducible refine Le.loopL (fun _ _=> ?_) _ _|exact Le.refl _
def A5t (p1:State)(p2:Int):Option Bool:=
  ((cond ((decide (p2≥0))&& (decide (p2< (p1.Agents.length:Int)))) (G8 p1.Agents p2) (some default))).bind fun v1=>((cond (((decide (p2≥0))&& (decide (p2< (p1.Agents.length:Int))))&& (!v1.Gone)) (G8 p1.Agents p2) (some default))).bind fun v2=>some ((((decide (p2≥0))&& (decide (p2< (p1.Agents.length:Int))))&& (!v1.Gone))&& (decide (v2.Begin≤p1.Tick)))
theorem A7l (p1:State)(p2:Int):Le (A5t p1 p2) (A3v p1 p2):=by
  unfold A5t A3v
  repeat' first|with_reducible exact Le.refl _|with_reducible refine Le.bind ?_ fun _=> ?_|with_reducible refine Le.cond ?_ ?_|with_reducible refine Le.ite ?_ ?_|with_reducible refine Le.thenS ?_ (fun _=> ?_) (fun _=> ?_)|with_reducible refine Le.loop (fun _=> ?_) _|with_reducible refine Le.loopL (fun _ _=> ?_) _ _|exact Le.refl _
def B04 (p1:Agent):Option Bool:=
  some ((((decide (p1.S≥0))&& (decide (p1.S≤1099511627776)))&& (decide (p1.Len≥0)))&& (decide (p1.Len≤1099511627776)))
theorem B72 (p1:Agent):Le (B04 p1) (A79 p1):=by
  unfold B04 A79
  repeat' first|with_reducible exact Le.refl _|with_reducible refine Le.bind ?_ fun _=> ?_|with_reducible refine Le.cond ?_ ?_|with_reducible refine Le.ite ?_ ?_|with_reducible refine Le.thenS ?_ (fun _=> ?_) (fun _=> ?_)|with_reducible refine Le.loop (fun _=> ?_) _|with_reducible refine Le.loopL (fun _ _=> ?_) _ _|exact Le.refl _
def A11 (p1:Int):Option Bool:=
  some (p1 !=p1)
theorem B0t (p1:Int):Le (A11 p1) (W2 p1):=by
  unfold A11 W2
  repeat' first|with_reducible exact Le.refl _|with_reducible refine Le.bind ?_ fun _=> ?_|with_reducible refine Le.cond ?_ ?_|with_reducible refine Le.ite ?_ ?_|with_reducible refine Le.thenS ?_ (fun _=> ?_) (fun _=> ?_)|with_reducible refine Le.loop (fun _=> ?_) _|with_reducible refine Le.loopL (fun _ _=> ?_) _ _|exact Le.refl _
def A3j (p1:Int)(p2:Int):Option Int:=
  (A11 p1).bind fun v1=>(A11 p2).bind fun v2=>cond v1 (cond v2 (some 0) (some (-1))) (cond v2 (some 1) (cond (decide (p1<p2)) (some (-1)) (cond (decide (p1>p2)) (some 1) (some 0))))
theorem A8m (p1:Int)(p2:Int):Le (A3j p1 p2) (Z7 p1 p2):=by
  unfold A3j Z7
  repeat' first|with_reducible exact Le.refl _|with_reducible exact B0t _|with_reducible refine Le.bind ?_ fun _=> ?_|with_reducible refine Le.cond ?_ ?_|with_reducible refine Le.ite ?_ ?_|with_reducible refine Le.thenS ?_ (fun _=> ?_) (fun _=> ?_)|with_reducible refine Le.loop (fun _=> ?_) _|with_reducible refine Le.loopL (fun _ _=> ?_) _ _|exact Le.refl _
def B05 (p1:Pass)(p2:Pass):Option Int:=
  (A3j p1.From p2.From).bind fun v1=>(A10 p1.Zone_ p2.Zone_).bind fun v2=>(B01 [v1,v2]).bind fun v3=>some v3
theorem B7t (p1:Pass)(p2:Pass):Le (B05 p1 p2) (A51 p1 p2):=by
  unfold B05 A51
  repeat' first|with_reducible exact Le.refl _|with_reducible exact A8m _ _|with_reducible exact A6r _ _|with_reducible exact B33 _|with_reducible refine Le.bind ?_ fun _=> ?_|with_reducible refine Le.cond ?_ ?_|with_reducible refine Le.ite ?_ ?_|with_reducible refine Le.thenS ?_ (fun _=> ?_) (fun _=> ?_)|with_reducible refine Le.loop (fun _=> ?_) _|with_reducible refine Le.loopL (fun _ _=> ?_) _ _|exact Le.refl _
def K6 (p2:Int)(x2:(Int× (List Pass))):Option (Stp (Int× (List Pass)) (List Pass)):=
  ((cond (decide (x2.1>p2)) (G8 x2.2 x2.1) (some default))).bind fun v1=>((cond (decide (x2.1>p2)) (G8 x2.2 (w64 (x2.1 - 1))) (some default))).bind fun v2=>((cond (decide (x2.1>p2)) (B05 v1 v2) (some default))).bind fun v3=>cond ((decide (x2.1>p2))&& (decide (v3<0))) ((G8 x2.2 (w64 (x2.1 - 1))).bind fun v4=>(G8 x2.2 x2.1).bind fun v5=>(G8 x2.2 x2.1).bind fun v6=>(G8 (C1q x2.2 x2.1 v4) (w64 (x2.1 - 1))).bind fun v7=>some (.go ((w64 (x2.1 - 1)),(C1q (C1q x2.2 x2.1 v4) (w64 (x2.1 - 1)) v5)))) (some (.out x2.2))
theorem X7 (p2:Int)(x2:(Int× (List Pass))):Le (K6 p2 x2) (D4 p2 x2):=by
  unfold K6 D4
  repeat' first|with_reducible exact Le.refl _|with_reducible exact B7t _ _|with_reducible refine Le.bind ?_ fun _=> ?_|with_reducible refine Le.cond ?_ ?_|with_reducible refine Le.ite ?_ ?_|with_reducible refine Le.thenS ?_ (fun _=> ?_) (fun _=> ?_)|with_reducible refine Le.loop (fun _=> ?_) _|with_reducible refine Le.loopL (fun _ _=> ?_) _ _|exact Le.refl _
def K7 (p2:Int)(p3:Int)(x1:(Int× (List Pass))):Option (Stp (Int× (List Pass)) (List Pass)):=
  cond (decide (x1.1<p3)) ((R4 (K6 p2) (x1.1,x1.2)).bind fun y1=>some (.go ((w64 (x1.1+1)),y1))) (some (.out (x1.2)))
theorem X8 (p2:Int)(p3:Int)(x1:(Int× (List Pass))):Le (K7 p2 p3 x1) (D5 p2 p3 x1):=by
  unfold K7 D5
  repeat' first|with_reducible exact Le.refl _|with_reducible exact X7 _ _|with_reducible refine Le.bind ?_ fun _=> ?_|with_reducible refine Le.cond ?_ ?_|with_reducible refine Le.ite ?_ ?_|with_reducible refine Le.thenS ?_ (fun _=> ?_) (fun _=> ?_)|with_reducible refine Le.loop (fun _=> ?_) _|with_reducible refine Le.loopL (fun _ _=> ?_) _ _|exact Le.refl _
def H8 (p1:(List Pass))(p2:Int)(p3:Int):Option (List Pass):=
  R4 (K7 p2 p3) ((w64 (p2+1)),p1)
theorem R1 (p1:(List Pass))(p2:Int)(p3:Int):Le (H8 p1 p2 p3) (C3 p1 p2 p3):=by
  unfold H8 C3
  repeat' first|with_reducible exact Le.refl _|with_reducible exact X8 _ _ _|with_reducible refine Le.bind ?_ fun _=> ?_|with_reducible refine Le.cond ?_ ?_|with_reducible refine Le.ite ?_ ?_|with_reducible refine Le.thenS ?_ (fun _=> ?_) (fun _=> ?_)|with_reducible refine Le.loop (fun _=> ?_) _|with_reducible refine Le.loopL (fun _ _=> ?_) _ _|exact Le.refl _
def N8 (p2:Int)(x3:(Int×Int)):Option (Stp (Int×Int) Int):=
  cond (decide (x3.2≤p2)) (none) (some (.out x3.1))
theorem A19 (p2:Int)(x3:(Int×Int)):Le (N8 p2 x3) (F8 p2 x3):=by
  unfold N8 F8
  repeat' first|with_reducible exact Le.refl _|with_reducible refine Le.bind ?_ fun _=> ?_|with_reducible refine Le.cond ?_ ?_|with_reducible refine Le.ite ?_ ?_|with_reducible refine Le.thenS ?_ (fun _=> ?_) (fun _=> ?_)|with_reducible refine Le.loop (fun _=> ?_) _|with_reducible refine Le.loopL (fun _ _=> ?_) _ _|exact Le.refl _
def N9 (p2:Int)(v2:(List Pass))(x2:Int):Option (Stp Int (List Pass)):=
  cond (decide (x2<p2)) ((R4 (N8 p2) (0,(w64 (2*x2)))).bind fun y2=>cond (decide ((w64 (y2+x2))<p2)) (none) (some (.go (w64 (x2*2))))) (some (.out (v2)))
theorem A1a (p2:Int)(v2:(List Pass))(x2:Int):Le (N9 p2 v2 x2) (F9 p2 v2 x2):=by
  unfold N9 F9
  repeat' first|with_reducible exact Le.refl _|with_reducible exact A19 _ _|with_reducible refine Le.bind ?_ fun _=> ?_|with_reducible refine Le.cond ?_ ?_|with_reducible refine Le.ite ?_ ?_|with_reducible refine Le.thenS ?_ (fun _=> ?_) (fun _=> ?_)|with_reducible refine Le.loop (fun _=> ?_) _|with_reducible refine Le.loopL (fun _ _=> ?_) _ _|exact Le.refl _
def O0 (p2:Int)(x1:(Int×Int× (List Pass))):Option (Stp (Int×Int× (List Pass)) (Int× (List Pass))):=
  cond (decide (x1.2.1≤p2)) ((H8 x1.2.2 x1.1 x1.2.1).bind fun v1=>some (.go (x1.2.1,(w64 (x1.2.1+20)),v1))) (some (.out (x1.1,x1.2.2)))
theorem A1b (p2:Int)(x1:(Int×Int× (List Pass))):Le (O0 p2 x1) (G0 p2 x1):=by
  unfold O0 G0
  repeat' first|with_reducible exact Le.refl _|with_reducible exact R1 _ _ _|with_reducible refine Le.bind ?_ fun _=> ?_|with_reducible refine Le.cond ?_ ?_|with_reducible refine Le.ite ?_ ?_|with_reducible refine Le.thenS ?_ (fun _=> ?_) (fun _=> ?_)|with_reducible refine Le.loop (fun _=> ?_) _|with_reducible refine Le.loopL (fun _ _=> ?_) _ _|exact Le.refl _
def P7 (p1:(List Pass))(p2:Int):Option (List Pass):=
  (R4 (O0 p2) (0,20,p1)).bind fun y1=>(H8 y1.2 y1.1 p2).bind fun v2=>R4 (N9 p2 v2) 20
theorem A2d (p1:(List Pass))(p2:Int):Le (P7 p1 p2) (I0 p1 p2):=by
  unfold P7 I0
  repeat' first|with_reducible exact Le.refl _|with_reducible exact A1b _ _|with_reducible exact R1 _ _ _|with_reducible exact A1a _ _ _|with_reducible refine Le.bind ?_ fun _=> ?_|with_reducible refine Le.cond ?_ ?_|with_reducible refine Le.ite ?_ ?_|with_reducible refine Le.thenS ?_ (fun _=> ?_) (fun _=> ?_)|with_reducible refine Le.loop (fun _=> ?_) _|with_reducible refine Le.loopL (fun _ _=> ?_) _ _|exact Le.refl _
def M5 (p1:(List Pass)):Option (List Pass):=
  (P7 p1 (p1.length:Int)).bind fun v1=>some v1
theorem A0f (p1:(List Pass)):Le (M5 p1) (E8 p1):=by
  unfold M5 E8
  repeat' first|with_reducible exact Le.refl _|with_reducible exact A2d _ _|with_reducible refine Le.bind ?_ fun _=> ?_|with_reducible refine Le.cond ?_ ?_|with_reducible refine Le.ite ?_ ?_|with_reducible refine Le.thenS ?_ (fun _=> ?_) (fun _=> ?_)|with_reducible refine Le.loop (fun _=> ?_) _|with_reducible refine Le.loopL (fun _ _=> ?_) _ _|exact Le.refl _
def K8 (p1:Int)(x2:Int):Option (Stp Int Unit):=
  ((cond (decide (x2>p1)) ((none:Option Unit)) (some default))).bind fun v1=>cond ((decide (x2>p1))&&false) (none) (some (.out ()))
theorem X9 (p1:Int)(x2:Int):Le (K8 p1 x2) (D6 p1 x2):=by
  unfold K8 D6
  repeat' first|with_reducible exact Le.refl _|with_reducible refine Le.bind ?_ fun _=> ?_|with_reducible refine Le.cond ?_ ?_|with_reducible refine Le.ite ?_ ?_|with_reducible refine Le.thenS ?_ (fun _=> ?_) (fun _=> ?_)|with_reducible refine Le.loop (fun _=> ?_) _|with_reducible refine Le.loopL (fun _ _=> ?_) _ _|exact Le.refl _
def K9 (p1:Int)(p2:Int)(x1:Int):Option (Stp Int Unit):=
  cond (decide (x1<p2)) ((R4 (K8 p1) x1).bind fun _=>some (.go (w64 (x1+1)))) (some (.out (())))
theorem Y0 (p1:Int)(p2:Int)(x1:Int):Le (K9 p1 p2 x1) (D7 p1 p2 x1):=by
  unfold K9 D7
  repeat' first|with_reducible exact Le.refl _|with_reducible exact X9 _ _|with_reducible refine Le.bind ?_ fun _=> ?_|with_reducible refine Le.cond ?_ ?_|with_reducible refine Le.ite ?_ ?_|with_reducible refine Le.thenS ?_ (fun _=> ?_) (fun _=> ?_)|with_reducible refine Le.loop (fun _=> ?_) _|with_reducible refine Le.loopL (fun _ _=> ?_) _ _|exact Le.refl _
def H9 (p1:Int)(p2:Int):Option Unit:=
  R4 (K9 p1 p2) (w64 (p1+1))
theorem R2 (p1:Int)(p2:Int):Le (H9 p1 p2) (C4 p1 p2):=by
  unfold H9 C4
  repeat' first|with_reducible exact Le.refl _|with_reducible exact Y0 _ _ _|with_reducible refine Le.bind ?_ fun _=> ?_|with_reducible refine Le.cond ?_ ?_|with_reducible refine Le.ite ?_ ?_|with_reducible refine Le.thenS ?_ (fun _=> ?_) (fun _=> ?_)|with_reducible refine Le.loop (fun _=> ?_) _|with_reducible refine Le.loopL (fun _ _=> ?_) _ _|exact Le.refl _
def O1 (p1:Int)(x3:(Int×Int)):Option (Stp (Int×Int) Int):=
  cond (decide (x3.2≤p1)) (none) (some (.out x3.1))
theorem A1c (p1:Int)(x3:(Int×Int)):Le (O1 p1 x3) (G1 p1 x3):=by
  unfold O1 G1
  repeat' first|with_reducible exact Le.refl _|with_reducible refine Le.bind ?_ fun _=> ?_|with_reducible refine Le.cond ?_ ?_|with_reducible refine Le.ite ?_ ?_|with_reducible refine Le.thenS ?_ (fun _=> ?_) (fun _=> ?_)|with_reducible refine Le.loop (fun _=> ?_) _|with_reducible refine Le.loopL (fun _ _=> ?_) _ _|exact Le.refl _
def O2 (p1:Int)(x2:Int):Option (Stp Int Unit):=
  cond (decide (x2<p1)) ((R4 (O1 p1) (0,(w64 (2*x2)))).bind fun y2=>cond (decide ((w64 (y2+x2))<p1)) (none) (some (.go (w64 (x2*2))))) (some (.out (())))
theorem A1d (p1:Int)(x2:Int):Le (O2 p1 x2) (G2 p1 x2):=by
  unfold O2 G2
  repeat' first|with_reducible exact Le.refl _|with_reducible exact A1c _ _|with_reducible refine Le.bind ?_ fun _=> ?_|with_reducible refine Le.cond ?_ ?_|with_reducible refine Le.ite ?_ ?_|with_reducible refine Le.thenS ?_ (fun _=> ?_) (fun _=> ?_)|with_reducible refine Le.loop (fun _=> ?_) _|with_reducible refine Le.loopL (fun _ _=> ?_) _ _|exact Le.refl _
def O3 (p1:Int)(x1:(Int×Int)):Option (Stp (Int×Int) Int):=
  cond (decide (x1.2≤p1)) ((H9 x1.1 x1.2).bind fun v1=>some (.go (x1.2,(w64 (x1.2+20))))) (some (.out x1.1))
theorem A1e (p1:Int)(x1:(Int×Int)):Le (O3 p1 x1) (G3 p1 x1):=by
  unfold O3 G3
  repeat' first|with_reducible exact Le.refl _|with_reducible exact R2 _ _|with_reducible refine Le.bind ?_ fun _=> ?_|with_reducible refine Le.cond ?_ ?_|with_reducible refine Le.ite ?_ ?_|with_reducible refine Le.thenS ?_ (fun _=> ?_) (fun _=> ?_)|with_reducible refine Le.loop (fun _=> ?_) _|with_reducible refine Le.loopL (fun _ _=> ?_) _ _|exact Le.refl _
def P8 (p1:Int):Option Unit:=
  (R4 (O3 p1) (0,20)).bind fun y1=>(H9 y1 p1).bind fun v2=>R4 (O2 p1) 20
theorem A2e (p1:Int):Le (P8 p1) (I3 p1):=by
  unfold P8 I3
  repeat' first|with_reducible exact Le.refl _|with_reducible exact A1e _ _|with_reducible exact R2 _ _|with_reducible exact A1d _ _|with_reducible refine Le.bind ?_ fun _=> ?_|with_reducible refine Le.cond ?_ ?_|with_reducible refine Le.ite ?_ ?_|with_reducible refine Le.thenS ?_ (fun _=> ?_) (fun _=> ?_)|with_reducible refine Le.loop (fun _=> ?_) _|with_reducible refine Le.loopL (fun _ _=> ?_) _ _|exact Le.refl _
def M6:Option Unit:=
  (P8 0).bind fun v1=>some ()
theorem A0g:Le (M6) (E9):=by
  unfold M6 E9
  repeat' first|with_reducible exact Le.refl _|with_reducible exact A2e _|with_reducible refine Le.bind ?_ fun _=> ?_|with_reducible refine Le.cond ?_ ?_|with_reducible refine Le.ite ?_ ?_|with_reducible refine Le.thenS ?_ (fun _=> ?_) (fun _=> ?_)|with_reducible refine Le.loop (fun _=> ?_) _|with_reducible refine Le.loopL (fun _ _=> ?_) _ _|exact Le.refl _
def A8e (v1:RoadsWay)(x1:((List Pass)×Int))(v2:Int)(x2:((List Pass)×Int))(v3:Zone)(x3:((List Pass)×Int)):Option (Stp ((List Pass)×Int) (List Pass)):=
  cond (decide (x3.2< (v3.Parts.length:Int))) ((G8 v3.Parts x3.2).bind fun v4=>cond (v4.Lane_==v2) ((G8 v1.starts x1.2).bind fun v5=>(G8 v1.starts x1.2).bind fun v6=>(B2d x3.1 [(Pass.mk x2.2 x3.2 (w64 (v5+v4.From)) (w64 (v6+v4.To)))]).bind fun v7=>some (.go (v7,(w64 (x3.2+1))))) (some (.go (x3.1,(w64 (x3.2+1)))))) (some (.out x3.1))
theorem B73 (v1:RoadsWay)(x1:((List Pass)×Int))(v2:Int)(x2:((List Pass)×Int))(v3:Zone)(x3:((List Pass)×Int)):Le (A8e v1 x1 v2 x2 v3 x3) (A3w v1 x1 v2 x2 v3 x3):=by
  unfold A8e A3w
  repeat' first|with_reducible exact Le.refl _|with_reducible refine Le.bind ?_ fun _=> ?_|with_reducible refine Le.cond ?_ ?_|with_reducible refine Le.ite ?_ ?_|with_reducible refine Le.thenS ?_ (fun _=> ?_) (fun _=> ?_)|with_reducible refine Le.loop (fun _=> ?_) _|with_reducible refine Le.loopL (fun _ _=> ?_) _ _|exact Le.refl _
def A8f (p1:Map)(v1:RoadsWay)(x1:((List Pass)×Int))(v2:Int)(x2:((List Pass)×Int)):Option (Stp ((List Pass)×Int) (List Pass)):=
  cond (decide (x2.2< (p1.Zones.length:Int))) ((G8 p1.Zones x2.2).bind fun v3=>(R4 (A8e v1 x1 v2 x2 v3) (x2.1,0)).bind fun y3=>some (.go (y3,(w64 (x2.2+1))))) (some (.out x2.1))
theorem B74 (p1:Map)(v1:RoadsWay)(x1:((List Pass)×Int))(v2:Int)(x2:((List Pass)×Int)):Le (A8f p1 v1 x1 v2 x2) (A3x p1 v1 x1 v2 x2):=by
  unfold A8f A3x
  repeat' first|with_reducible exact Le.refl _|with_reducible exact B73 _ _ _ _ _ _|with_reducible refine Le.bind ?_ fun _=> ?_|with_reducible refine Le.cond ?_ ?_|with_reducible refine Le.ite ?_ ?_|with_reducible refine Le.thenS ?_ (fun _=> ?_) (fun _=> ?_)|with_reducible refine Le.loop (fun _=> ?_) _|with_reducible refine Le.loopL (fun _ _=> ?_) _ _|exact Le.refl _
def A8g (p1:Map)(v1:RoadsWay)(x1:((List Pass)×Int)):Option (Stp ((List Pass)×Int) (List Pass)):=
  cond (decide (x1.2< (v1.lanes.length:Int))) ((G8 v1.lanes x1.2).bind fun v2=>(R4 (A8f p1 v1 x1 v2) (x1.1,0)).bind fun y2=>some (.go (y2,(w64 (x1.2+1))))) (some (.out x1.1))
theorem B75 (p1:Map)(v1:RoadsWay)(x1:((List Pass)×Int)):Le (A8g p1 v1 x1) (A3y p1 v1 x1):=by
  unfold A8g A3y
  repeat' first|with_reducible exact Le.refl _|with_reducible exact B74 _ _ _ _ _|with_reducible refine Le.bind ?_ fun _=> ?_|with_reducible refine Le.cond ?_ ?_|with_reducible refine Le.ite ?_ ?_|with_reducible refine Le.thenS ?_ (fun _=> ?_) (fun _=> ?_)|with_reducible refine Le.loop (fun _=> ?_) _|with_reducible refine Le.loopL (fun _ _=> ?_) _ _|exact Le.refl _
def B34 (p1:Map)(p2:(List Int)):Option (List Pass):=
  (A4j p1 p2).bind fun v1=>(R4 (A8g p1 v1) ([],0)).bind fun y1=>cond (List.isEmpty y1) ((M6).bind fun v9=>some []) ((M5 y1).bind fun v8=>some v8)
theorem C0s (p1:Map)(p2:(List Int)):Le (B34 p1 p2) (A7u p1 p2):=by
  unfold B34 A7u
  repeat' first|with_reducible exact Le.refl _|with_reducible exact A6p _ _|with_reducible exact B75 _ _ _|with_reducible exact A0g|with_reducible exact A0f _|with_reducible refine Le.bind ?_ fun _=> ?_|with_reducible refine Le.cond ?_ ?_|with_reducible refine Le.ite ?_ ?_|with_reducible refine Le.thenS ?_ (fun _=> ?_) (fun _=> ?_)|with_reducible refine Le.loop (fun _=> ?_) _|with_reducible refine Le.loopL (fun _ _=> ?_) _ _|exact Le.refl _
def A4t (p1:Pass)(p2:Int)(p3:WorldSpan):Option Bool:=
  some (((p1.Zone_==p2)&& (decide (p1.From≤p3.to)))&& (decide (p3.from_≤p1.To)))
theorem B3o (p1:Pass)(p2:Int)(p3:WorldSpan):Le (A4t p1 p2 p3) (A0c p1 p2 p3):=by
  unfold A4t A0c
  repeat' first|with_reducible exact Le.refl _|with_reducible refine Le.bind ?_ fun _=> ?_|with_reducible refine Le.cond ?_ ?_|with_reducible refine Le.ite ?_ ?_|with_reducible refine Le.thenS ?_ (fun _=> ?_) (fun _=> ?_)|with_reducible refine Le.loop (fun _=> ?_) _|with_reducible refine Le.loopL (fun _ _=> ?_) _ _|exact Le.refl _
def M7 (p1:(List Pass))(p2:Int)(p3:WorldSpan)(x1:Int):Option (Stp Int (Sum Unit Int)):=
  cond (decide (x1< (p1.length:Int))) ((G8 p1 x1).bind fun v1=>(A4t v1 p2 p3).bind fun v2=>cond v2 (some (.out (.inr x1))) (some (.go (w64 (x1+1))))) (some (.out (.inl ())))
theorem A0j (p1:(List Pass))(p2:Int)(p3:WorldSpan)(x1:Int):Le (M7 p1 p2 p3 x1) (F1 p1 p2 p3 x1):=by
  unfold M7 F1
  repeat' first|with_reducible exact Le.refl _|with_reducible exact B3o _ _ _|with_reducible refine Le.bind ?_ fun _=> ?_|with_reducible refine Le.cond ?_ ?_|with_reducible refine Le.ite ?_ ?_|with_reducible refine Le.thenS ?_ (fun _=> ?_) (fun _=> ?_)|with_reducible refine Le.loop (fun _=> ?_) _|with_reducible refine Le.loopL (fun _ _=> ?_) _ _|exact Le.refl _
def O7 (p1:(List Pass))(p2:Int)(p3:WorldSpan):Option Int:=
  thenS (R4 (M7 p1 p2 p3) 0) (fun _=>some (-1)) (fun r=>some r)
theorem A1n (p1:(List Pass))(p2:Int)(p3:WorldSpan):Le (O7 p1 p2 p3) (G6 p1 p2 p3):=by
  unfold O7 G6
  repeat' first|with_reducible exact Le.refl _|with_reducible exact A0j _ _ _ _|with_reducible refine Le.bind ?_ fun _=> ?_|with_reducible refine Le.cond ?_ ?_|with_reducible refine Le.ite ?_ ?_|with_reducible refine Le.thenS ?_ (fun _=> ?_) (fun _=> ?_)|with_reducible refine Le.loop (fun _=> ?_) _|with_reducible refine Le.loopL (fun _ _=> ?_) _ _|exact Le.refl _
def M8 (p1:(List Pass))(p2:Int)(p3:WorldSpan):Option Bool:=
  (O7 p1 p2 p3).bind fun v1=>some (decide (v1≥0))
theorem A0k (p1:(List Pass))(p2:Int)(p3:WorldSpan):Le (M8 p1 p2 p3) (F2 p1 p2 p3):=by
  unfold M8 F2
  repeat' first|with_reducible exact Le.refl _|with_reducible exact A1n _ _ _|with_reducible refine Le.bind ?_ fun _=> ?_|with_reducible refine Le.cond ?_ ?_|with_reducible refine Le.ite ?_ ?_|with_reducible refine Le.thenS ?_ (fun _=> ?_) (fun _=> ?_)|with_reducible refine Le.loop (fun _=> ?_) _|with_reducible refine Le.loopL (fun _ _=> ?_) _ _|exact Le.refl _
def B1c (p1:Map)(p2:Agent)(p3:Agent)(p4:Int):Option Bool:=
  (B04 p2).bind fun v1=>((cond (!(!v1)) (B04 p3) (some default))).bind fun v2=>cond ((!v1)||(!v2)) (some false) ((A49 p2).bind fun v3=>(B34 p1 p2.Route).bind fun v4=>(M8 v4 p4 (WorldSpan.mk v3.from_ p3.S)).bind fun v5=>some v5)
theorem B8s (p1:Map)(p2:Agent)(p3:Agent)(p4:Int):Le (B1c p1 p2 p3 p4) (A6b p1 p2 p3 p4):=by
  unfold B1c A6b
  repeat' first|with_reducible exact Le.refl _|with_reducible exact B72 _|with_reducible exact A8y _|with_reducible exact C0s _ _|with_reducible exact A0k _ _ _|with_reducible refine Le.bind ?_ fun _=> ?_|with_reducible refine Le.cond ?_ ?_|with_reducible refine Le.ite ?_ ?_|with_reducible refine Le.thenS ?_ (fun _=> ?_) (fun _=> ?_)|with_reducible refine Le.loop (fun _=> ?_) _|with_reducible refine Le.loopL (fun _ _=> ?_) _ _|exact Le.refl _
def S8 (p1:WorldScene)(p2:Int)(p3:Int):Option Bool:=
  (A5t p1.before p2).bind fun v1=>((cond v1 (G8 p1.before.Agents p2) (some default))).bind fun v2=>((cond v1 (G8 p1.after.Agents p2) (some default))).bind fun v3=>((cond v1 (B1c p1.m v2 v3 p3) (some default))).bind fun v4=>some (v1&&v4)
theorem A2f (p1:WorldScene)(p2:Int)(p3:Int):Le (S8 p1 p2 p3) (P5 p1 p2 p3):=by
  unfold S8 P5
  repeat' first|with_reducible exact Le.refl _|with_reducible exact A7l _ _|with_reducible exact B8s _ _ _ _|with_reducible refine Le.bind ?_ fun _=> ?_|with_reducible refine Le.cond ?_ ?_|with_reducible refine Le.ite ?_ ?_|with_reducible refine Le.thenS ?_ (fun _=> ?_) (fun _=> ?_)|with_reducible refine Le.loop (fun _=> ?_) _|with_reducible refine Le.loopL (fun _ _=> ?_) _ _|exact Le.refl _
def K3 (p1:(List Stay))(p2:Stay)(x1:(Int×Int)):Option (Stp (Int×Int) Int):=
  cond (decide (x1.1<x1.2)) ((G8 p1 (w64 ((IntKind.wrap .u64 (w64 (x1.1+x1.2))).fdiv (2^ (min (1:Int).toNat (IntKind.bits .u64)))))).bind fun v1=>(A81 v1 p2).bind fun v2=>cond (decide (v2<0)) (some (.go ((w64 ((w64 ((IntKind.wrap .u64 (w64 (x1.1+x1.2))).fdiv (2^ (min (1:Int).toNat (IntKind.bits .u64)))))+1)),x1.2))) (some (.go (x1.1,(w64 ((IntKind.wrap .u64 (w64 (x1.1+x1.2))).fdiv (2^ (min (1:Int).toNat (IntKind.bits .u64))))))))) (some (.out x1.1))
theorem X2 (p1:(List Stay))(p2:Stay)(x1:(Int×Int)):Le (K3 p1 p2 x1) (D2 p1 p2 x1):=by
  unfold K3 D2
  repeat' first|with_reducible exact Le.refl _|with_reducible exact B1a _ _|with_reducible refine Le.bind ?_ fun _=> ?_|with_reducible refine Le.cond ?_ ?_|with_reducible refine Le.ite ?_ ?_|with_reducible refine Le.thenS ?_ (fun _=> ?_) (fun _=> ?_)|with_reducible refine Le.loop (fun _=> ?_) _|with_reducible refine Le.loopL (fun _ _=> ?_) _ _|exact Le.refl _
def E0 (p1:(List Stay))(p2:Stay):Option (Int×Bool):=
  (R4 (K3 p1 p2) (0,(p1.length:Int))).bind fun y1=>((cond (decide (y1< (p1.length:Int))) (G8 p1 y1) (some default))).bind fun v3=>((cond (decide (y1< (p1.length:Int))) (A81 v3 p2) (some default))).bind fun v4=>some (y1,((decide (y1< (p1.length:Int)))&& (v4==0)))
theorem L0 (p1:(List Stay))(p2:Stay):Le (E0 p1 p2) (B9 p1 p2):=by
  unfold E0 B9
  repeat' first|with_reducible exact Le.refl _|with_reducible exact X2 _ _ _|with_reducible exact B1a _ _|with_reducible refine Le.bind ?_ fun _=> ?_|with_reducible refine Le.cond ?_ ?_|with_reducible refine Le.ite ?_ ?_|with_reducible refine Le.thenS ?_ (fun _=> ?_) (fun _=> ?_)|with_reducible refine Le.loop (fun _=> ?_) _|with_reducible refine Le.loopL (fun _ _=> ?_) _ _|exact Le.refl _
def B06 (p1:Part)(p2:Int):Option Bool:=
  some (p1.Lane_==p2)
theorem B7u (p1:Part)(p2:Int):Le (B06 p1 p2) (A52 p1 p2):=by
  unfold B06 A52
  repeat' first|with_reducible exact Le.refl _|with_reducible refine Le.bind ?_ fun _=> ?_|with_reducible refine Le.cond ?_ ?_|with_reducible refine Le.ite ?_ ?_|with_reducible refine Le.thenS ?_ (fun _=> ?_) (fun _=> ?_)|with_reducible refine Le.loop (fun _=> ?_) _|with_reducible refine Le.loopL (fun _ _=> ?_) _ _|exact Le.refl _
def P1 (p1:(List Part))(p2:Int)(x1:Int):Option (Stp Int (Sum Unit Int)):=
  cond (decide (x1< (p1.length:Int))) ((G8 p1 x1).bind fun v1=>(B06 v1 p2).bind fun v2=>cond v2 (some (.out (.inr x1))) (some (.go (w64 (x1+1))))) (some (.out (.inl ())))
theorem A1t (p1:(List Part))(p2:Int)(x1:Int):Le (P1 p1 p2 x1) (H5 p1 p2 x1):=by
  unfold P1 H5
  repeat' first|with_reducible exact Le.refl _|with_reducible exact B7u _ _|with_reducible refine Le.bind ?_ fun _=> ?_|with_reducible refine Le.cond ?_ ?_|with_reducible refine Le.ite ?_ ?_|with_reducible refine Le.thenS ?_ (fun _=> ?_) (fun _=> ?_)|with_reducible refine Le.loop (fun _=> ?_) _|with_reducible refine Le.loopL (fun _ _=> ?_) _ _|exact Le.refl _
def Q5 (p1:(List Part))(p2:Int):Option Int:=
  thenS (R4 (P1 p1 p2) 0) (fun _=>some (-1)) (fun r=>some r)
theorem A2t (p1:(List Part))(p2:Int):Le (Q5 p1 p2) (J1 p1 p2):=by
  unfold Q5 J1
  repeat' first|with_reducible exact Le.refl _|with_reducible exact A1t _ _ _|with_reducible refine Le.bind ?_ fun _=> ?_|with_reducible refine Le.cond ?_ ?_|with_reducible refine Le.ite ?_ ?_|with_reducible refine Le.thenS ?_ (fun _=> ?_) (fun _=> ?_)|with_reducible refine Le.loop (fun _=> ?_) _|with_reducible refine Le.loopL (fun _ _=> ?_) _ _|exact Le.refl _
def B5s (p1:Zone)(p2:Int):Option (Part×Bool):=
  (Q5 p1.Parts p2).bind fun v1=>cond (decide (v1<0)) (some ((Part.mk 0 0 0 0),false)) ((G8 p1.Parts v1).bind fun v2=>some (v2,true))
theorem C2v (p1:Zone)(p2:Int):Le (B5s p1 p2) (B21 p1 p2):=by
  unfold B5s B21
  repeat' first|with_reducible exact Le.refl _|with_reducible exact A2t _ _|with_reducible refine Le.bind ?_ fun _=> ?_|with_reducible refine Le.cond ?_ ?_|with_reducible refine Le.ite ?_ ?_|with_reducible refine Le.thenS ?_ (fun _=> ?_) (fun _=> ?_)|with_reducible refine Le.loop (fun _=> ?_) _|with_reducible refine Le.loopL (fun _ _=> ?_) _ _|exact Le.refl _
def A6s (p1:Int)(p2:Map)(p3:Int):Option Bool:=
  (G8 p2.Zones p3).bind fun v1=>(B5s v1 p1).bind fun v2=>some v2.2
theorem B4x (p1:Int)(p2:Map)(p3:Int):Le (A6s p1 p2 p3) (A29 p1 p2 p3):=by
  unfold A6s A29
  repeat' first|with_reducible exact Le.refl _|with_reducible exact C2v _ _|with_reducible refine Le.bind ?_ fun _=> ?_|with_reducible refine Le.cond ?_ ?_|with_reducible refine Le.ite ?_ ?_|with_reducible refine Le.thenS ?_ (fun _=> ?_) (fun _=> ?_)|with_reducible refine Le.loop (fun _=> ?_) _|with_reducible refine Le.loopL (fun _ _=> ?_) _ _|exact Le.refl _
def P2 (p1:(List Int))(p2:Map)(p3:Int)(x1:Int):Option (Stp Int (Sum Unit Int)):=
  cond (decide (x1< (p1.length:Int))) ((G8 p1 x1).bind fun v1=>(A6s v1 p2 p3).bind fun v2=>cond v2 (some (.out (.inr x1))) (some (.go (w64 (x1+1))))) (some (.out (.inl ())))
theorem A1u (p1:(List Int))(p2:Map)(p3:Int)(x1:Int):Le (P2 p1 p2 p3 x1) (H6 p1 p2 p3 x1):=by
  unfold P2 H6
  repeat' first|with_reducible exact Le.refl _|with_reducible exact B4x _ _ _|with_reducible refine Le.bind ?_ fun _=> ?_|with_reducible refine Le.cond ?_ ?_|with_reducible refine Le.ite ?_ ?_|with_reducible refine Le.thenS ?_ (fun _=> ?_) (fun _=> ?_)|with_reducible refine Le.loop (fun _=> ?_) _|with_reducible refine Le.loopL (fun _ _=> ?_) _ _|exact Le.refl _
def Q6 (p1:(List Int))(p2:Map)(p3:Int):Option Int:=
  thenS (R4 (P2 p1 p2 p3) 0) (fun _=>some (-1)) (fun r=>some r)
theorem A2u (p1:(List Int))(p2:Map)(p3:Int):Le (Q6 p1 p2 p3) (J2 p1 p2 p3):=by
  unfold Q6 J2
  repeat' first|with_reducible exact Le.refl _|with_reducible exact A1u _ _ _ _|with_reducible refine Le.bind ?_ fun _=> ?_|with_reducible refine Le.cond ?_ ?_|with_reducible refine Le.ite ?_ ?_|with_reducible refine Le.thenS ?_ (fun _=> ?_) (fun _=> ?_)|with_reducible refine Le.loop (fun _=> ?_) _|with_reducible refine Le.loopL (fun _ _=> ?_) _ _|exact Le.refl _
def B49 (p1:Map)(p2:(List Int))(p3:Int):Option Int:=
  (A4j p1 p2).bind fun v1=>cond ((decide (p3<0))||(decide (p3≥(p1.Zones.length:Int)))) (some (-1)) ((Q6 v1.lanes p1 p3).bind fun v2=>some v2)
theorem C1d (p1:Map)(p2:(List Int))(p3:Int):Le (B49 p1 p2 p3) (A9p p1 p2 p3):=by
  unfold B49 A9p
  repeat' first|with_reducible exact Le.refl _|with_reducible exact A6p _ _|with_reducible exact A2u _ _ _|with_reducible refine Le.bind ?_ fun _=> ?_|with_reducible refine Le.cond ?_ ?_|with_reducible refine Le.ite ?_ ?_|with_reducible refine Le.thenS ?_ (fun _=> ?_) (fun _=> ?_)|with_reducible refine Le.loop (fun _=> ?_) _|with_reducible refine Le.loopL (fun _ _=> ?_) _ _|exact Le.refl _
def A83 (p1:Map)(p2:(List Int))(p3:Int):Option Int:=
  (B49 p1 p2 p3).bind fun v1=>cond (decide (v1≥0)) ((G8 p2 v1).bind fun v2=>some v2) (some (-1))
theorem B59 (p1:Map)(p2:(List Int))(p3:Int):Le (A83 p1 p2 p3) (A5k p1 p2 p3):=by
  unfold A83 A5k
  repeat' first|with_reducible exact Le.refl _|with_reducible exact C1d _ _ _|with_reducible refine Le.bind ?_ fun _=> ?_|with_reducible refine Le.cond ?_ ?_|with_reducible refine Le.ite ?_ ?_|with_reducible refine Le.thenS ?_ (fun _=> ?_) (fun _=> ?_)|with_reducible refine Le.loop (fun _=> ?_) _|with_reducible refine Le.loopL (fun _ _=> ?_) _ _|exact Le.refl _
def B4a (p1:Map)(p2:Int):Option Bool:=
  ((cond ((decide (p2≥0))&& (decide (p2< (p1.Lanes.length:Int)))) (A80 p1) (some default))).bind fun v1=>some (((decide (p2≥0))&& (decide (p2< (p1.Lanes.length:Int))))&& (v1==0))
theorem B5t (p1:Map)(p2:Int):Le (B4a p1 p2) (B2n p1 p2):=by
  unfold B4a B2n
  repeat' first|with_reducible exact Le.refl _|with_reducible exact B17 _|with_reducible refine Le.bind ?_ fun _=> ?_|with_reducible refine Le.cond ?_ ?_|with_reducible refine Le.ite ?_ ?_|with_reducible refine Le.thenS ?_ (fun _=> ?_) (fun _=> ?_)|with_reducible refine Le.loop (fun _=> ?_) _|with_reducible refine Le.loopL (fun _ _=> ?_) _ _|exact Le.refl _
def B07 (p1:Signal)(p2:Int)(x2:(Int×Int)):Option (Stp (Int×Int) (Sum Unit Bool)):=
  cond (decide (x2.2< (p1.Phases.length:Int))) ((G8 p1.Phases x2.2).bind fun v5=>cond (decide (x2.1≥v5.Ticks)) (some (.go ((w64 (x2.1 - v5.Ticks)),(w64 (x2.2+1))))) ((T8 v5.Green p2).bind fun v6=>some (.out (.inr v6)))) (some (.out (.inl ())))
theorem B7v (p1:Signal)(p2:Int)(x2:(Int×Int)):Le (B07 p1 p2 x2) (A53 p1 p2 x2):=by
  unfold B07 A53
  repeat' first|with_reducible exact Le.refl _|with_reducible exact A0s _ _|with_reducible refine Le.bind ?_ fun _=> ?_|with_reducible refine Le.cond ?_ ?_|with_reducible refine Le.ite ?_ ?_|with_reducible refine Le.thenS ?_ (fun _=> ?_) (fun _=> ?_)|with_reducible refine Le.loop (fun _=> ?_) _|with_reducible refine Le.loopL (fun _ _=> ?_) _ _|exact Le.refl _
def B08 (p1:Signal)(x1:(Int×Int)):Option (Stp (Int×Int) Int):=
  cond (decide (x1.2< (p1.Phases.length:Int))) ((G8 p1.Phases x1.2).bind fun v1=>some (.go ((w64 (x1.1+v1.Ticks)),(w64 (x1.2+1))))) (some (.out x1.1))
theorem B7w (p1:Signal)(x1:(Int×Int)):Le (B08 p1 x1) (A54 p1 x1):=by
  unfold B08 A54
  repeat' first|with_reducible exact Le.refl _|with_reducible refine Le.bind ?_ fun _=> ?_|with_reducible refine Le.cond ?_ ?_|with_reducible refine Le.ite ?_ ?_|with_reducible refine Le.thenS ?_ (fun _=> ?_) (fun _=> ?_)|with_reducible refine Le.loop (fun _=> ?_) _|with_reducible refine Le.loopL (fun _ _=> ?_) _ _|exact Le.refl _
def B0u (p1:Signal)(p2:Int)(p3:Int):Option Bool:=
  (R4 (B08 p1) (0,0)).bind fun y1=>(C8m p1.Offset y1).bind fun v2=>(C8m p3 y1).bind fun v3=>(C8m (w64 (v2+v3)) y1).bind fun v4=>thenS (R4 (B07 p1 p2) (v4,0)) (fun _=>some false) (fun r=>some r)
theorem B5a (p1:Signal)(p2:Int)(p3:Int):Le (B0u p1 p2 p3) (A7a p1 p2 p3):=by
  unfold B0u A7a
  repeat' first|with_reducible exact Le.refl _|with_reducible exact B7w _ _|with_reducible exact B7v _ _ _|with_reducible refine Le.bind ?_ fun _=> ?_|with_reducible refine Le.cond ?_ ?_|with_reducible refine Le.ite ?_ ?_|with_reducible refine Le.thenS ?_ (fun _=> ?_) (fun _=> ?_)|with_reducible refine Le.loop (fun _=> ?_) _|with_reducible refine Le.loopL (fun _ _=> ?_) _ _|exact Le.refl _
def B4b (p1:Map)(p2:Int)(p3:Int)(p4:Int):Option Bool:=
  ((cond (((decide (p4≥0))&& (decide (p2≥0)))&& (decide (p2< (p1.Signals.length:Int)))) (B4a p1 p3) (some default))).bind fun v1=>((cond ((((decide (p4≥0))&& (decide (p2≥0)))&& (decide (p2< (p1.Signals.length:Int))))&&v1) (G8 p1.Signals p2) (some default))).bind fun v2=>((cond ((((decide (p4≥0))&& (decide (p2≥0)))&& (decide (p2< (p1.Signals.length:Int))))&&v1) (B0u v2 p3 p4) (some default))).bind fun v3=>some (((((decide (p4≥0))&& (decide (p2≥0)))&& (decide (p2< (p1.Signals.length:Int))))&&v1)&&v3)
theorem C1e (p1:Map)(p2:Int)(p3:Int)(p4:Int):Le (B4b p1 p2 p3 p4) (A9q p1 p2 p3 p4):=by
  unfold B4b A9q
  repeat' first|with_reducible exact Le.refl _|with_reducible exact B5t _ _|with_reducible exact B5a _ _ _|with_reducible refine Le.bind ?_ fun _=> ?_|with_reducible refine Le.cond ?_ ?_|with_reducible refine Le.ite ?_ ?_|with_reducible refine Le.thenS ?_ (fun _=> ?_) (fun _=> ?_)|with_reducible refine Le.loop (fun _=> ?_) _|with_reducible refine Le.loopL (fun _ _=> ?_) _ _|exact Le.refl _
def B09 (p1:Part)(p2:Int):Option Bool:=
  some (p1.Lane_==p2)
theorem B7x (p1:Part)(p2:Int):Le (B09 p1 p2) (A55 p1 p2):=by
  unfold B09 A55
  repeat' first|with_reducible exact Le.refl _|with_reducible refine Le.bind ?_ fun _=> ?_|with_reducible refine Le.cond ?_ ?_|with_reducible refine Le.ite ?_ ?_|with_reducible refine Le.thenS ?_ (fun _=> ?_) (fun _=> ?_)|with_reducible refine Le.loop (fun _=> ?_) _|with_reducible refine Le.loopL (fun _ _=> ?_) _ _|exact Le.refl _
def P3 (p1:(List Part))(p2:Int)(x1:Int):Option (Stp Int (Sum Unit Int)):=
  cond (decide (x1< (p1.length:Int))) ((G8 p1 x1).bind fun v1=>(B09 v1 p2).bind fun v2=>cond v2 (some (.out (.inr x1))) (some (.go (w64 (x1+1))))) (some (.out (.inl ())))
theorem A1v (p1:(List Part))(p2:Int)(x1:Int):Le (P3 p1 p2 x1) (H7 p1 p2 x1):=by
  unfold P3 H7
  repeat' first|with_reducible exact Le.refl _|with_reducible exact B7x _ _|with_reducible refine Le.bind ?_ fun _=> ?_|with_reducible refine Le.cond ?_ ?_|with_reducible refine Le.ite ?_ ?_|with_reducible refine Le.thenS ?_ (fun _=> ?_) (fun _=> ?_)|with_reducible refine Le.loop (fun _=> ?_) _|with_reducible refine Le.loopL (fun _ _=> ?_) _ _|exact Le.refl _
def Q7 (p1:(List Part))(p2:Int):Option Int:=
  thenS (R4 (P3 p1 p2) 0) (fun _=>some (-1)) (fun r=>some r)
theorem A2v (p1:(List Part))(p2:Int):Le (Q7 p1 p2) (J3 p1 p2):=by
  unfold Q7 J3
  repeat' first|with_reducible exact Le.refl _|with_reducible exact A1v _ _ _|with_reducible refine Le.bind ?_ fun _=> ?_|with_reducible refine Le.cond ?_ ?_|with_reducible refine Le.ite ?_ ?_|with_reducible refine Le.thenS ?_ (fun _=> ?_) (fun _=> ?_)|with_reducible refine Le.loop (fun _=> ?_) _|with_reducible refine Le.loopL (fun _ _=> ?_) _ _|exact Le.refl _
def B35 (p1:Map)(p2:Agent)(p3:Int)(p4:Int):Option Int:=
  (A83 p1 p2.Route p3).bind fun v1=>cond (decide (v1<0)) (some 0) ((G8 p1.Zones p3).bind fun v2=>((cond (decide (v2.Signal_>0)) (B4b p1 (w64 (v2.Signal_ - 1)) v1 p4) (some default))).bind fun v3=>cond ((decide (v2.Signal_>0))&&v3) (some 2) (cond (decide (v2.Signal_>0)) (some 0) ((Q7 v2.Parts v1).bind fun v4=>(G8 v2.Parts v4).bind fun v5=>some v5.Rank)))
theorem B76 (p1:Map)(p2:Agent)(p3:Int)(p4:Int):Le (B35 p1 p2 p3 p4) (A96 p1 p2 p3 p4):=by
  unfold B35 A96
  repeat' first|with_reducible exact Le.refl _|with_reducible exact B59 _ _ _|with_reducible exact C1e _ _ _ _|with_reducible exact A2v _ _|with_reducible refine Le.bind ?_ fun _=> ?_|with_reducible refine Le.cond ?_ ?_|with_reducible refine Le.ite ?_ ?_|with_reducible refine Le.thenS ?_ (fun _=> ?_) (fun _=> ?_)|with_reducible refine Le.loop (fun _=> ?_) _|with_reducible refine Le.loopL (fun _ _=> ?_) _ _|exact Le.refl _
def A2w (p1:WorldScene)(x1:(Int× (List Stay)))(v1:Agent)(x2:(Int× (List Stay))):Option (Stp (Int× (List Stay)) (List Stay)):=
  cond (decide (x2.1< (p1.m.Zones.length:Int))) ((S8 (WorldScene.mk p1.m p1.before (State.mk p1.after.Tick p1.after.Agents x2.2) p1.acts p1.crashes) x1.1 x2.1).bind fun v2=>cond (!v2) (some (.go ((w64 (x2.1+1)),x2.2))) ((E0 p1.before.In (Stay.mk x1.1 x2.1 p1.before.Tick 0)).bind fun v3=>(cond v3.2 ((G8 p1.before.In v3.1).bind fun v4=>some v4) ((B35 p1.m v1 x2.1 p1.before.Tick).bind fun v5=>some (Stay.mk x1.1 x2.1 p1.before.Tick v5))).bind fun y2=>(B2d x2.2 [y2]).bind fun v6=>some (.go ((w64 (x2.1+1)),v6)))) (some (.out x2.2))
theorem B1d (p1:WorldScene)(x1:(Int× (List Stay)))(v1:Agent)(x2:(Int× (List Stay))):Le (A2w p1 x1 v1 x2) (V1 p1 x1 v1 x2):=by
  unfold A2w V1
  repeat' first|with_reducible exact Le.refl _|with_reducible exact A2f _ _ _|with_reducible exact L0 _ _|with_reducible exact B76 _ _ _ _|with_reducible refine Le.bind ?_ fun _=> ?_|with_reducible refine Le.cond ?_ ?_|with_reducible refine Le.ite ?_ ?_|with_reducible refine Le.thenS ?_ (fun _=> ?_) (fun _=> ?_)|with_reducible refine Le.loop (fun _=> ?_) _|with_reducible refine Le.loopL (fun _ _=> ?_) _ _|exact Le.refl _
def A2x (p1:WorldScene)(x1:(Int× (List Stay))):Option (Stp (Int× (List Stay)) WorldScene):=
  cond (decide (x1.1< (p1.before.Agents.length:Int))) ((G8 p1.before.Agents x1.1).bind fun v1=>(R4 (A2w p1 x1 v1) (0,x1.2)).bind fun y1=>some (.go ((w64 (x1.1+1)),y1))) (some (.out ((WorldScene.mk p1.m p1.before (State.mk p1.after.Tick p1.after.Agents x1.2) p1.acts p1.crashes))))
theorem B1e (p1:WorldScene)(x1:(Int× (List Stay))):Le (A2x p1 x1) (V2 p1 x1):=by
  unfold A2x V2
  repeat' first|with_reducible exact Le.refl _|with_reducible exact B1d _ _ _ _|with_reducible refine Le.bind ?_ fun _=> ?_|with_reducible refine Le.cond ?_ ?_|with_reducible refine Le.ite ?_ ?_|with_reducible refine Le.thenS ?_ (fun _=> ?_) (fun _=> ?_)|with_reducible refine Le.loop (fun _=> ?_) _|with_reducible refine Le.loopL (fun _ _=> ?_) _ _|exact Le.refl _
def A4u (p1:WorldScene):Option WorldScene:=
  R4 (A2x p1) (0,[])
theorem B3p (p1:WorldScene):Le (A4u p1) (A0d p1):=by
  unfold A4u A0d
  repeat' first|with_reducible exact Le.refl _|with_reducible exact B1e _ _|with_reducible refine Le.bind ?_ fun _=> ?_|with_reducible refine Le.cond ?_ ?_|with_reducible refine Le.ite ?_ ?_|with_reducible refine Le.thenS ?_ (fun _=> ?_) (fun _=> ?_)|with_reducible refine Le.loop (fun _=> ?_) _|with_reducible refine Le.loopL (fun _ _=> ?_) _ _|exact Le.refl _
def C2w (s:State)(i:Nat):Nat→Nat→Option (List (Int×Int))
  |0,_=>some []
  |k+1,j=>(A5t s i).bind fun a=>(A5t s j).bind fun b=>(C2w s i k (j+1)).bind fun l=>some (cond (a&&b) (((i:Int),(j:Int))::l) l)
theorem C4f (s:State)(i:Nat): ∀(k j:Nat),Le (C2w s i k j) (B8b s i k j)
  |0,j=>Le.refl _
  |k+1,j=>by
   rw [B8b,C2w]
   exact Le.bind (A7l _ _) fun _=>Le.bind (A7l _ _) fun _=>Le.bind (C4f s i k _) fun _=>Le.refl _
def C2x (s:State)(n:Nat):Nat→Nat→Option (List (Int×Int))
  |0,_=>some []
  |k+1,i=>(C2w s i (n - (i+1)) (i+1)).bind fun a=>(C2x s n k (i+1)).bind fun b=>some (a++b)
theorem C4g (s:State)(n:Nat): ∀(k i:Nat),Le (C2x s n k i) (C0n s n k i)
  |0,i=>Le.refl _
  |k+1,i=>by
   rw [C0n,C2x]
   exact Le.bind (C4f _ _ _ _) fun _=>Le.bind (C4g s n k _) fun _=>Le.refl _
def C2y (s:State):Option (List (Int×Int)):=if s.Agents.length≤1000000 then C2x s s.Agents.length s.Agents.length 0 else none
theorem C4h (s:State):Le (C2y s) (C1v s):=by
  unfold C2y C1v
  repeat' first|with_reducible exact Le.refl _|with_reducible exact C4g _ _ _ _|with_reducible refine Le.bind ?_ fun _=> ?_|with_reducible refine Le.cond ?_ ?_|with_reducible refine Le.ite ?_ ?_|with_reducible refine Le.thenS ?_ (fun _=> ?_) (fun _=> ?_)|with_reducible refine Le.loop (fun _=> ?_) _|with_reducible refine Le.loopL (fun _ _=> ?_) _ _|exact Le.refl _
def A12 (p1:WorldSpan)(p2:Int):Option WorldSpan:=
  some (WorldSpan.mk (w64 (p1.from_ - p2)) (w64 (p1.to - p2)))
theorem B0v (p1:WorldSpan)(p2:Int):Le (A12 p1 p2) (W3 p1 p2):=by
  unfold A12 W3
  repeat' first|with_reducible exact Le.refl _|with_reducible refine Le.bind ?_ fun _=> ?_|with_reducible refine Le.cond ?_ ?_|with_reducible refine Le.ite ?_ ?_|with_reducible refine Le.thenS ?_ (fun _=> ?_) (fun _=> ?_)|with_reducible refine Le.loop (fun _=> ?_) _|with_reducible refine Le.loopL (fun _ _=> ?_) _ _|exact Le.refl _
def A6t (p1:Map)(p2:Int):Option Int:=
  (B4a p1 p2).bind fun v1=>cond (!v1) (some 0) ((A7d p1 p2).bind fun v2=>some v2)
theorem B0a (p1:Map)(p2:Int):Le (A6t p1 p2) (A3z p1 p2):=by
  unfold A6t A3z
  repeat' first|with_reducible exact Le.refl _|with_reducible exact B5t _ _|with_reducible exact A8x _ _|with_reducible refine Le.bind ?_ fun _=> ?_|with_reducible refine Le.cond ?_ ?_|with_reducible refine Le.ite ?_ ?_|with_reducible refine Le.thenS ?_ (fun _=> ?_) (fun _=> ?_)|with_reducible refine Le.loop (fun _=> ?_) _|with_reducible refine Le.loopL (fun _ _=> ?_) _ _|exact Le.refl _
def A6u (p1:WorldSpan)(p2:WorldSpan):Option WorldSpan:=
  some (WorldSpan.mk (mm2 true p1.from_ p2.from_) (mm2 false p1.to p2.to))
theorem B2a (p1:WorldSpan)(p2:WorldSpan):Le (A6u p1 p2) (A34 p1 p2):=by
  unfold A6u A34
  repeat' first|with_reducible exact Le.refl _|with_reducible refine Le.bind ?_ fun _=> ?_|with_reducible refine Le.cond ?_ ?_|with_reducible refine Le.ite ?_ ?_|with_reducible refine Le.thenS ?_ (fun _=> ?_) (fun _=> ?_)|with_reducible refine Le.loop (fun _=> ?_) _|with_reducible refine Le.loopL (fun _ _=> ?_) _ _|exact Le.refl _
def A4k (p1:WorldSpan):Option Bool:=
  some (decide (p1.from_>p1.to))
theorem B0b (p1:WorldSpan):Le (A4k p1) (A0y p1):=by
  unfold A4k A0y
  repeat' first|with_reducible exact Le.refl _|with_reducible refine Le.bind ?_ fun _=> ?_|with_reducible refine Le.cond ?_ ?_|with_reducible refine Le.ite ?_ ?_|with_reducible refine Le.thenS ?_ (fun _=> ?_) (fun _=> ?_)|with_reducible refine Le.loop (fun _=> ?_) _|with_reducible refine Le.loopL (fun _ _=> ?_) _ _|exact Le.refl _
def B1f (p1:Map)(p2:Agent)(v2:(List Int))(x1:((List Span)×Int)):Option (Stp ((List Span)×Int) (List Span)):=
  cond (decide (x1.2< (v2.length:Int))) ((G8 v2 x1.2).bind fun v3=>(G8 p2.Route x1.2).bind fun v4=>(A49 p2).bind fun v5=>(A12 v5 v3).bind fun v6=>(A6t p1 v4).bind fun v7=>(A6u v6 (WorldSpan.mk 0 v7)).bind fun v8=>(A4k v8).bind fun v9=>cond (!v9) ((B2d x1.1 [(Span.mk v4 v8.from_ v8.to)]).bind fun v10=>some (.go (v10,(w64 (x1.2+1))))) (some (.go (x1.1,(w64 (x1.2+1)))))) (some (.out x1.1))
theorem B8t (p1:Map)(p2:Agent)(v2:(List Int))(x1:((List Span)×Int)):Le (B1f p1 p2 v2 x1) (A6c p1 p2 v2 x1):=by
  unfold B1f A6c
  repeat' first|with_reducible exact Le.refl _|with_reducible exact A8y _|with_reducible exact B0v _ _|with_reducible exact B0a _ _|with_reducible exact B2a _ _|with_reducible exact B0b _|with_reducible refine Le.bind ?_ fun _=> ?_|with_reducible refine Le.cond ?_ ?_|with_reducible refine Le.ite ?_ ?_|with_reducible refine Le.thenS ?_ (fun _=> ?_) (fun _=> ?_)|with_reducible refine Le.loop (fun _=> ?_) _|with_reducible refine Le.loopL (fun _ _=> ?_) _ _|exact Le.refl _
def B36 (p1:Map)(p2:Agent):Option (List Span):=
  (B04 p2).bind fun v1=>cond (!v1) (some []) ((A6q p1 p2.Route).bind fun v2=>(R4 (B1f p1 p2 v2) ([],0)).bind fun y1=>some y1)
theorem C2z (p1:Map)(p2:Agent):Le (B36 p1 p2) (A97 p1 p2):=by
  unfold B36 A97
  repeat' first|with_reducible exact Le.refl _|with_reducible exact B72 _|with_reducible exact B00 _ _|with_reducible exact B8t _ _ _ _|with_reducible refine Le.bind ?_ fun _=> ?_|with_reducible refine Le.cond ?_ ?_|with_reducible refine Le.ite ?_ ?_|with_reducible refine Le.thenS ?_ (fun _=> ?_) (fun _=> ?_)|with_reducible refine Le.loop (fun _=> ?_) _|with_reducible refine Le.loopL (fun _ _=> ?_) _ _|exact Le.refl _
def A4a (p1:Span)(p2:Span):Option Bool:=
  ((cond (p2.Lane_==p1.Lane_) (A6u (WorldSpan.mk p2.From p2.To) (WorldSpan.mk p1.From p1.To)) (some default))).bind fun v1=>((cond (p2.Lane_==p1.Lane_) (A4k v1) (some default))).bind fun v2=>some ((p2.Lane_==p1.Lane_)&& (!v2))
theorem B37 (p1:Span)(p2:Span):Le (A4a p1 p2) (Y9 p1 p2):=by
  unfold A4a Y9
  repeat' first|with_reducible exact Le.refl _|with_reducible exact B2a _ _|with_reducible exact B0b _|with_reducible refine Le.bind ?_ fun _=> ?_|with_reducible refine Le.cond ?_ ?_|with_reducible refine Le.ite ?_ ?_|with_reducible refine Le.thenS ?_ (fun _=> ?_) (fun _=> ?_)|with_reducible refine Le.loop (fun _=> ?_) _|with_reducible refine Le.loopL (fun _ _=> ?_) _ _|exact Le.refl _
def M1 (p1:(List Span))(p2:Span)(x1:Int):Option (Stp Int (Sum Unit Int)):=
  cond (decide (x1< (p1.length:Int))) ((G8 p1 x1).bind fun v1=>(A4a v1 p2).bind fun v2=>cond v2 (some (.out (.inr x1))) (some (.go (w64 (x1+1))))) (some (.out (.inl ())))
theorem A00 (p1:(List Span))(p2:Span)(x1:Int):Le (M1 p1 p2 x1) (E4 p1 p2 x1):=by
  unfold M1 E4
  repeat' first|with_reducible exact Le.refl _|with_reducible exact B37 _ _|with_reducible refine Le.bind ?_ fun _=> ?_|with_reducible refine Le.cond ?_ ?_|with_reducible refine Le.ite ?_ ?_|with_reducible refine Le.thenS ?_ (fun _=> ?_) (fun _=> ?_)|with_reducible refine Le.loop (fun _=> ?_) _|with_reducible refine Le.loopL (fun _ _=> ?_) _ _|exact Le.refl _
def N3 (p1:(List Span))(p2:Span):Option Int:=
  thenS (R4 (M1 p1 p2) 0) (fun _=>some (-1)) (fun r=>some r)
theorem A0t (p1:(List Span))(p2:Span):Le (N3 p1 p2) (F5 p1 p2):=by
  unfold N3 F5
  repeat' first|with_reducible exact Le.refl _|with_reducible exact A00 _ _ _|with_reducible refine Le.bind ?_ fun _=> ?_|with_reducible refine Le.cond ?_ ?_|with_reducible refine Le.ite ?_ ?_|with_reducible refine Le.thenS ?_ (fun _=> ?_) (fun _=> ?_)|with_reducible refine Le.loop (fun _=> ?_) _|with_reducible refine Le.loopL (fun _ _=> ?_) _ _|exact Le.refl _
def M2 (p1:(List Span))(p2:Span):Option Bool:=
  (N3 p1 p2).bind fun v1=>some (decide (v1≥0))
theorem A01 (p1:(List Span))(p2:Span):Le (M2 p1 p2) (E5 p1 p2):=by
  unfold M2 E5
  repeat' first|with_reducible exact Le.refl _|with_reducible exact A0t _ _|with_reducible refine Le.bind ?_ fun _=> ?_|with_reducible refine Le.cond ?_ ?_|with_reducible refine Le.ite ?_ ?_|with_reducible refine Le.thenS ?_ (fun _=> ?_) (fun _=> ?_)|with_reducible refine Le.loop (fun _=> ?_) _|with_reducible refine Le.loopL (fun _ _=> ?_) _ _|exact Le.refl _
def A5m (p1:Span)(p2:(List Span)):Option Bool:=
  (M2 p2 p1).bind fun v1=>some v1
theorem B4c (p1:Span)(p2:(List Span)):Le (A5m p1 p2) (A16 p1 p2):=by
  unfold A5m A16
  repeat' first|with_reducible exact Le.refl _|with_reducible exact A01 _ _|with_reducible refine Le.bind ?_ fun _=> ?_|with_reducible refine Le.cond ?_ ?_|with_reducible refine Le.ite ?_ ?_|with_reducible refine Le.thenS ?_ (fun _=> ?_) (fun _=> ?_)|with_reducible refine Le.loop (fun _=> ?_) _|with_reducible refine Le.loopL (fun _ _=> ?_) _ _|exact Le.refl _
def M9 (p1:(List Span))(p2:(List Span))(x1:Int):Option (Stp Int (Sum Unit Int)):=
  cond (decide (x1< (p1.length:Int))) ((G8 p1 x1).bind fun v1=>(A5m v1 p2).bind fun v2=>cond v2 (some (.out (.inr x1))) (some (.go (w64 (x1+1))))) (some (.out (.inl ())))
theorem A0l (p1:(List Span))(p2:(List Span))(x1:Int):Le (M9 p1 p2 x1) (F3 p1 p2 x1):=by
  unfold M9 F3
  repeat' first|with_reducible exact Le.refl _|with_reducible exact B4c _ _|with_reducible refine Le.bind ?_ fun _=> ?_|with_reducible refine Le.cond ?_ ?_|with_reducible refine Le.ite ?_ ?_|with_reducible refine Le.thenS ?_ (fun _=> ?_) (fun _=> ?_)|with_reducible refine Le.loop (fun _=> ?_) _|with_reducible refine Le.loopL (fun _ _=> ?_) _ _|exact Le.refl _
def O8 (p1:(List Span))(p2:(List Span)):Option Int:=
  thenS (R4 (M9 p1 p2) 0) (fun _=>some (-1)) (fun r=>some r)
theorem A1o (p1:(List Span))(p2:(List Span)):Le (O8 p1 p2) (G7 p1 p2):=by
  unfold O8 G7
  repeat' first|with_reducible exact Le.refl _|with_reducible exact A0l _ _ _|with_reducible refine Le.bind ?_ fun _=> ?_|with_reducible refine Le.cond ?_ ?_|with_reducible refine Le.ite ?_ ?_|with_reducible refine Le.thenS ?_ (fun _=> ?_) (fun _=> ?_)|with_reducible refine Le.loop (fun _=> ?_) _|with_reducible refine Le.loopL (fun _ _=> ?_) _ _|exact Le.refl _
def N0 (p1:(List Span))(p2:(List Span)):Option Bool:=
  (O8 p1 p2).bind fun v1=>some (decide (v1≥0))
theorem A0m (p1:(List Span))(p2:(List Span)):Le (N0 p1 p2) (F4 p1 p2):=by
  unfold N0 F4
  repeat' first|with_reducible exact Le.refl _|with_reducible exact A1o _ _|with_reducible refine Le.bind ?_ fun _=> ?_|with_reducible refine Le.cond ?_ ?_|with_reducible refine Le.ite ?_ ?_|with_reducible refine Le.thenS ?_ (fun _=> ?_) (fun _=> ?_)|with_reducible refine Le.loop (fun _=> ?_) _|with_reducible refine Le.loopL (fun _ _=> ?_) _ _|exact Le.refl _
def B0c (p1:Map)(p2:Agent)(p3:Agent):Option Bool:=
  (B36 p1 p3).bind fun v1=>(B36 p1 p2).bind fun v2=>(N0 v2 v1).bind fun v3=>some v3
theorem B7y (p1:Map)(p2:Agent)(p3:Agent):Le (B0c p1 p2 p3) (A56 p1 p2 p3):=by
  unfold B0c A56
  repeat' first|with_reducible exact Le.refl _|with_reducible exact C2z _ _|with_reducible exact A0m _ _|with_reducible refine Le.bind ?_ fun _=> ?_|with_reducible refine Le.cond ?_ ?_|with_reducible refine Le.ite ?_ ?_|with_reducible refine Le.thenS ?_ (fun _=> ?_) (fun _=> ?_)|with_reducible refine Le.loop (fun _=> ?_) _|with_reducible refine Le.loopL (fun _ _=> ?_) _ _|exact Le.refl _
def A1x (p1:WorldScene)(p2:Int)(p3:Int)(p4:Int):Option Bool:=
  (S8 p1 p2 p4).bind fun v1=>((cond v1 (S8 p1 p3 p4) (some default))).bind fun v2=>((cond (v1&&v2) (G8 p1.before.Agents p2) (some default))).bind fun v3=>((cond (v1&&v2) (A83 p1.m v3.Route p4) (some default))).bind fun v4=>((cond (v1&&v2) (G8 p1.before.Agents p3) (some default))).bind fun v5=>((cond (v1&&v2) (A83 p1.m v5.Route p4) (some default))).bind fun v6=>some ((v1&&v2)&& (v4 !=v6))
theorem A72 (p1:WorldScene)(p2:Int)(p3:Int)(p4:Int):Le (A1x p1 p2 p3 p4) (V4 p1 p2 p3 p4):=by
  unfold A1x V4
  repeat' first|with_reducible exact Le.refl _|with_reducible exact A2f _ _ _|with_reducible exact B59 _ _ _|with_reducible refine Le.bind ?_ fun _=> ?_|with_reducible refine Le.cond ?_ ?_|with_reducible refine Le.ite ?_ ?_|with_reducible refine Le.thenS ?_ (fun _=> ?_) (fun _=> ?_)|with_reducible refine Le.loop (fun _=> ?_) _|with_reducible refine Le.loopL (fun _ _=> ?_) _ _|exact Le.refl _
def B38 (p1:Map)(v5:WorldScene)(a1:(Int×Int))(x2:Int):Option (Stp Int (Sum Unit (State×Int))):=
  cond (decide (x2< (p1.Zones.length:Int))) ((A1x v5 a1.1 a1.2 x2).bind fun v10=>cond v10 (some (.out (.inr ((State.mk 0 [] []),12)))) (some (.go (w64 (x2+1))))) (some (.out (.inl ())))
theorem C0t (p1:Map)(v5:WorldScene)(a1:(Int×Int))(x2:Int):Le (B38 p1 v5 a1 x2) (A7v p1 v5 a1 x2):=by
  unfold B38 A7v
  repeat' first|with_reducible exact Le.refl _|with_reducible exact A72 _ _ _ _|with_reducible refine Le.bind ?_ fun _=> ?_|with_reducible refine Le.cond ?_ ?_|with_reducible refine Le.ite ?_ ?_|with_reducible refine Le.thenS ?_ (fun _=> ?_) (fun _=> ?_)|with_reducible refine Le.loop (fun _=> ?_) _|with_reducible refine Le.loopL (fun _ _=> ?_) _ _|exact Le.refl _
def B39 (p1:Map)(p2:(List Agent))(v5:WorldScene)(x1:Unit)(a1:(Int×Int)):Option (Stp Unit (Sum Unit (State×Int))):=
  (G8 p2 a1.1).bind fun v7=>(G8 p2 a1.2).bind fun v8=>(B0c p1 v7 v8).bind fun v9=>cond v9 (some (.out (.inr ((State.mk 0 [] []),12)))) (thenS (R4 (B38 p1 v5 a1) 0) (fun _=>some (.go ())) (fun r=>some (.out (.inr r))))
theorem C0u (p1:Map)(p2:(List Agent))(v5:WorldScene)(x1:Unit)(a1:(Int×Int)):Le (B39 p1 p2 v5 x1 a1) (A7w p1 p2 v5 x1 a1):=by
  unfold B39 A7w
  repeat' first|with_reducible exact Le.refl _|with_reducible exact B7y _ _ _|with_reducible exact C0t _ _ _ _|with_reducible refine Le.bind ?_ fun _=> ?_|with_reducible refine Le.cond ?_ ?_|with_reducible refine Le.ite ?_ ?_|with_reducible refine Le.thenS ?_ (fun _=> ?_) (fun _=> ?_)|with_reducible refine Le.loop (fun _=> ?_) _|with_reducible refine Le.loopL (fun _ _=> ?_) _ _|exact Le.refl _
def B3a:Option Unit:=
  some ()
theorem C0v:Le (B3a) (B0q):=by
  unfold B3a B0q
  repeat' first|with_reducible exact Le.refl _|with_reducible refine Le.bind ?_ fun _=> ?_|with_reducible refine Le.cond ?_ ?_|with_reducible refine Le.ite ?_ ?_|with_reducible refine Le.thenS ?_ (fun _=> ?_) (fun _=> ?_)|with_reducible refine Le.loop (fun _=> ?_) _|with_reducible refine Le.loopL (fun _ _=> ?_) _ _|exact Le.refl _
def B7z (p1:Map)(p2:(List Agent)):Option (State×Int):=
  (B2q (State.mk 0 p2 [])).bind fun v1=>(A82 p1 v1).bind fun v2=>cond (v2 !=0) (some ((State.mk 0 [] []),v2)) ((P0 p2).bind fun v3=>cond v3 (some ((State.mk 0 [] []),10)) ((B2q v1).bind fun v4=>(A4u (WorldScene.mk p1 v1 v4 [] [])).bind fun v5=>(B3a).bind fun y1=>thenS ((C2y v5.before).bind fun v6=>loopL (B39 p1 p2 v5) (fun (x1:Unit)=> .inl ()) v6 ()) (fun _=>some (v5.after,0)) (fun r=>some r)))
theorem C4i (p1:Map)(p2:(List Agent)):Le (B7z p1 p2) (B43 p1 p2):=by
  unfold B7z B43
  repeat' first|with_reducible exact Le.refl _|with_reducible exact C2s _|with_reducible exact B1b _ _|with_reducible exact A1s _|with_reducible exact B3p _|with_reducible exact C0v|with_reducible exact C4h _|with_reducible exact C0u _ _ _ _ _|with_reducible refine Le.bind ?_ fun _=> ?_|with_reducible refine Le.cond ?_ ?_|with_reducible refine Le.ite ?_ ?_|with_reducible refine Le.thenS ?_ (fun _=> ?_) (fun _=> ?_)|with_reducible refine Le.loop (fun _=> ?_) _|with_reducible refine Le.loopL (fun _ _=> ?_) _ _|exact Le.refl _
def A8h (p1:Int):Option Int:=
  (cond (decide (p1≥4294967296)) (some ((p1.fdiv (2^ (min (32:Int).toNat (IntKind.bits .u64)))),32)) (some (p1,0))).bind fun y1=>(cond (decide (y1.1≥65536)) (some ((y1.1.fdiv (2^ (min (16:Int).toNat (IntKind.bits .u64)))),(w64 (y1.2+16)))) (some (y1.1,y1.2))).bind fun y2=>cond (decide (y2.1≥256)) ((D33 (ByteArray.mk #[0,1,2,2,3,3,3,3,4,4,4,4,4,4,4,4,5,5,5,5,5,5,5,5,5,5,5,5,5,5,5,5,6,6,6,6,6,6,6,6,6,6,6,6,6,6,6,6,6,6,6,6,6,6,6,6,6,6,6,6,6,6,6,6,7,7,7,7,7,7,7,7,7,7,7,7,7,7,7,7,7,7,7,7,7,7,7,7,7,7,7,7,7,7,7,7,7,7,7,7,7,7,7,7,7,7,7,7,7,7,7,7,7,7,7,7,7,7,7,7,7,7,7,7,7,7,7,7,8,8,8,8,8,8,8,8,8,8,8,8,8,8,8,8,8,8,8,8,8,8,8,8,8,8,8,8,8,8,8,8,8,8,8,8,8,8,8,8,8,8,8,8,8,8,8,8,8,8,8,8,8,8,8,8,8,8,8,8,8,8,8,8,8,8,8,8,8,8,8,8,8,8,8,8,8,8,8,8,8,8,8,8,8,8,8,8,8,8,8,8,8,8,8,8,8,8,8,8,8,8,8,8,8,8,8,8,8,8,8,8,8,8,8,8,8,8,8,8,8,8,8,8,8,8,8,8]) (IntKind.wrap .u8 (y2.1.fdiv (2^ (min (8:Int).toNat (IntKind.bits .u64)))))).bind fun v1=>some (w64 ((w64 (y2.2+8))+ (w64 v1)))) ((D33 (ByteArray.mk #[0,1,2,2,3,3,3,3,4,4,4,4,4,4,4,4,5,5,5,5,5,5,5,5,5,5,5,5,5,5,5,5,6,6,6,6,6,6,6,6,6,6,6,6,6,6,6,6,6,6,6,6,6,6,6,6,6,6,6,6,6,6,6,6,7,7,7,7,7,7,7,7,7,7,7,7,7,7,7,7,7,7,7,7,7,7,7,7,7,7,7,7,7,7,7,7,7,7,7,7,7,7,7,7,7,7,7,7,7,7,7,7,7,7,7,7,7,7,7,7,7,7,7,7,7,7,7,7,8,8,8,8,8,8,8,8,8,8,8,8,8,8,8,8,8,8,8,8,8,8,8,8,8,8,8,8,8,8,8,8,8,8,8,8,8,8,8,8,8,8,8,8,8,8,8,8,8,8,8,8,8,8,8,8,8,8,8,8,8,8,8,8,8,8,8,8,8,8,8,8,8,8,8,8,8,8,8,8,8,8,8,8,8,8,8,8,8,8,8,8,8,8,8,8,8,8,8,8,8,8,8,8,8,8,8,8,8,8,8,8,8,8,8,8,8,8,8,8,8,8,8,8,8,8,8,8]) (IntKind.wrap .u8 y2.1)).bind fun v2=>some (w64 (y2.2+ (w64 v2))))
theorem B77 (p1:Int):Le (A8h p1) (A40 p1):=by
  unfold A8h A40
  repeat' first|with_reducible exact Le.refl _|with_reducible refine Le.bind ?_ fun _=> ?_|with_reducible refine Le.cond ?_ ?_|with_reducible refine Le.ite ?_ ?_|with_reducible refine Le.thenS ?_ (fun _=> ?_) (fun _=> ?_)|with_reducible refine Le.loop (fun _=> ?_) _|with_reducible refine Le.loopL (fun _ _=> ?_) _ _|exact Le.refl _
def A7m (p1:Int):Option Int:=
  (A8h p1).bind fun v1=>some v1
theorem B3g (p1:Int):Le (A7m p1) (A4e p1):=by
  unfold A7m A4e
  repeat' first|with_reducible exact Le.refl _|with_reducible exact B77 _|with_reducible refine Le.bind ?_ fun _=> ?_|with_reducible refine Le.cond ?_ ?_|with_reducible refine Le.ite ?_ ?_|with_reducible refine Le.thenS ?_ (fun _=> ?_) (fun _=> ?_)|with_reducible refine Le.loop (fun _=> ?_) _|with_reducible refine Le.loopL (fun _ _=> ?_) _ _|exact Le.refl _
def B0d (p1:Int)(p2:Int):Option Bool:=
  (A11 p1).bind fun v1=>((cond v1 (A11 p2) (some default))).bind fun v2=>some ((v1&& (!v2))||(decide (p1<p2)))
theorem B80 (p1:Int)(p2:Int):Le (B0d p1 p2) (A57 p1 p2):=by
  unfold B0d A57
  repeat' first|with_reducible exact Le.refl _|with_reducible exact B0t _|with_reducible refine Le.bind ?_ fun _=> ?_|with_reducible refine Le.cond ?_ ?_|with_reducible refine Le.ite ?_ ?_|with_reducible refine Le.thenS ?_ (fun _=> ?_) (fun _=> ?_)|with_reducible refine Le.loop (fun _=> ?_) _|with_reducible refine Le.loopL (fun _ _=> ?_) _ _|exact Le.refl _
def R6 (p2:Int)(x2:(Int× (List Int))):Option (Stp (Int× (List Int)) (List Int)):=
  ((cond (decide (x2.1>p2)) (G8 x2.2 x2.1) (some default))).bind fun v1=>((cond (decide (x2.1>p2)) (G8 x2.2 (w64 (x2.1 - 1))) (some default))).bind fun v2=>((cond (decide (x2.1>p2)) (B0d v1 v2) (some default))).bind fun v3=>cond ((decide (x2.1>p2))&&v3) ((G8 x2.2 (w64 (x2.1 - 1))).bind fun v4=>(G8 x2.2 x2.1).bind fun v5=>(G8 x2.2 x2.1).bind fun v6=>(G8 (C1q x2.2 x2.1 v4) (w64 (x2.1 - 1))).bind fun v7=>some (.go ((w64 (x2.1 - 1)),(C1q (C1q x2.2 x2.1 v4) (w64 (x2.1 - 1)) v5)))) (some (.out x2.2))
theorem A38 (p2:Int)(x2:(Int× (List Int))):Le (R6 p2 x2) (J5 p2 x2):=by
  unfold R6 J5
  repeat' first|with_reducible exact Le.refl _|with_reducible exact B80 _ _|with_reducible refine Le.bind ?_ fun _=> ?_|with_reducible refine Le.cond ?_ ?_|with_reducible refine Le.ite ?_ ?_|with_reducible refine Le.thenS ?_ (fun _=> ?_) (fun _=> ?_)|with_reducible refine Le.loop (fun _=> ?_) _|with_reducible refine Le.loopL (fun _ _=> ?_) _ _|exact Le.refl _
def R7 (p2:Int)(p3:Int)(x1:(Int× (List Int))):Option (Stp (Int× (List Int)) (List Int)):=
  cond (decide (x1.1<p3)) ((R4 (R6 p2) (x1.1,x1.2)).bind fun y1=>some (.go ((w64 (x1.1+1)),y1))) (some (.out (x1.2)))
theorem A39 (p2:Int)(p3:Int)(x1:(Int× (List Int))):Le (R7 p2 p3 x1) (J6 p2 p3 x1):=by
  unfold R7 J6
  repeat' first|with_reducible exact Le.refl _|with_reducible exact A38 _ _|with_reducible refine Le.bind ?_ fun _=> ?_|with_reducible refine Le.cond ?_ ?_|with_reducible refine Le.ite ?_ ?_|with_reducible refine Le.thenS ?_ (fun _=> ?_) (fun _=> ?_)|with_reducible refine Le.loop (fun _=> ?_) _|with_reducible refine Le.loopL (fun _ _=> ?_) _ _|exact Le.refl _
def T3 (p1:(List Int))(p2:Int)(p3:Int):Option (List Int):=
  R4 (R7 p2 p3) ((w64 (p2+1)),p1)
theorem A4l (p1:(List Int))(p2:Int)(p3:Int):Le (T3 p1 p2 p3) (L5 p1 p2 p3):=by
  unfold T3 L5
  repeat' first|with_reducible exact Le.refl _|with_reducible exact A39 _ _ _|with_reducible refine Le.bind ?_ fun _=> ?_|with_reducible refine Le.cond ?_ ?_|with_reducible refine Le.ite ?_ ?_|with_reducible refine Le.thenS ?_ (fun _=> ?_) (fun _=> ?_)|with_reducible refine Le.loop (fun _=> ?_) _|with_reducible refine Le.loopL (fun _ _=> ?_) _ _|exact Le.refl _
def U6 (p1:(List Int))(x1:(Int×Int×Int×Bool×Bool)):Option (Stp (Int×Int×Int×Bool×Bool) (List Int)):=
  cond (decide ((w64 (x1.2.1 - x1.1))≤12)) ((T3 p1 x1.1 x1.2.1).bind fun v1=>some (.out (v1))) (cond (x1.2.2.1==0) (none) ((cond (!x1.2.2.2.1) (none) (some ())).bind fun _=>none))
theorem A5n (p1:(List Int))(x1:(Int×Int×Int×Bool×Bool)):Le (U6 p1 x1) (N6 p1 x1):=by
  unfold U6 N6
  repeat' first|with_reducible exact Le.refl _|with_reducible exact A4l _ _ _|with_reducible refine Le.bind ?_ fun _=> ?_|with_reducible refine Le.cond ?_ ?_|with_reducible refine Le.ite ?_ ?_|with_reducible refine Le.thenS ?_ (fun _=> ?_) (fun _=> ?_)|with_reducible refine Le.loop (fun _=> ?_) _|with_reducible refine Le.loopL (fun _ _=> ?_) _ _|exact Le.refl _
def W7 (p1:(List Int))(p2:Int)(p3:Int)(p4:Int):Option (List Int):=
  R4 (U6 p1) (p2,p3,p4,true,true)
theorem A6y (p1:(List Int))(p2:Int)(p3:Int)(p4:Int):Le (W7 p1 p2 p3 p4) (Q0 p1 p2 p3 p4):=by
  unfold W7 Q0
  repeat' first|with_reducible exact Le.refl _|with_reducible exact A5n _ _|with_reducible refine Le.bind ?_ fun _=> ?_|with_reducible refine Le.cond ?_ ?_|with_reducible refine Le.ite ?_ ?_|with_reducible refine Le.thenS ?_ (fun _=> ?_) (fun _=> ?_)|with_reducible refine Le.loop (fun _=> ?_) _|with_reducible refine Le.loopL (fun _ _=> ?_) _ _|exact Le.refl _
def A0u (p1:(List Int)):Option (List Int):=
  (A7m (IntKind.wrap .u64 (p1.length:Int))).bind fun v1=>(W7 p1 0 (p1.length:Int) v1).bind fun v2=>some v2
theorem A8z (p1:(List Int)):Le (A0u p1) (T0 p1):=by
  unfold A0u T0
  repeat' first|with_reducible exact Le.refl _|with_reducible exact B3g _|with_reducible exact A6y _ _ _ _|with_reducible refine Le.bind ?_ fun _=> ?_|with_reducible refine Le.cond ?_ ?_|with_reducible refine Le.ite ?_ ?_|with_reducible refine Le.thenS ?_ (fun _=> ?_) (fun _=> ?_)|with_reducible refine Le.loop (fun _=> ?_) _|with_reducible refine Le.loopL (fun _ _=> ?_) _ _|exact Le.refl _
def R8 (p1:Int)(x2:Int):Option (Stp Int Unit):=
  ((cond (decide (x2>p1)) ((none:Option Unit)) (some default))).bind fun v1=>cond ((decide (x2>p1))&&false) (none) (some (.out ()))
theorem A3a (p1:Int)(x2:Int):Le (R8 p1 x2) (J7 p1 x2):=by
  unfold R8 J7
  repeat' first|with_reducible exact Le.refl _|with_reducible refine Le.bind ?_ fun _=> ?_|with_reducible refine Le.cond ?_ ?_|with_reducible refine Le.ite ?_ ?_|with_reducible refine Le.thenS ?_ (fun _=> ?_) (fun _=> ?_)|with_reducible refine Le.loop (fun _=> ?_) _|with_reducible refine Le.loopL (fun _ _=> ?_) _ _|exact Le.refl _
def R9 (p1:Int)(p2:Int)(x1:Int):Option (Stp Int Unit):=
  cond (decide (x1<p2)) ((R4 (R8 p1) x1).bind fun _=>some (.go (w64 (x1+1)))) (some (.out (())))
theorem A3b (p1:Int)(p2:Int)(x1:Int):Le (R9 p1 p2 x1) (J8 p1 p2 x1):=by
  unfold R9 J8
  repeat' first|with_reducible exact Le.refl _|with_reducible exact A3a _ _|with_reducible refine Le.bind ?_ fun _=> ?_|with_reducible refine Le.cond ?_ ?_|with_reducible refine Le.ite ?_ ?_|with_reducible refine Le.thenS ?_ (fun _=> ?_) (fun _=> ?_)|with_reducible refine Le.loop (fun _=> ?_) _|with_reducible refine Le.loopL (fun _ _=> ?_) _ _|exact Le.refl _
def T4 (p1:Int)(p2:Int):Option Unit:=
  R4 (R9 p1 p2) (w64 (p1+1))
theorem A4m (p1:Int)(p2:Int):Le (T4 p1 p2) (L6 p1 p2):=by
  unfold T4 L6
  repeat' first|with_reducible exact Le.refl _|with_reducible exact A3b _ _ _|with_reducible refine Le.bind ?_ fun _=> ?_|with_reducible refine Le.cond ?_ ?_|with_reducible refine Le.ite ?_ ?_|with_reducible refine Le.thenS ?_ (fun _=> ?_) (fun _=> ?_)|with_reducible refine Le.loop (fun _=> ?_) _|with_reducible refine Le.loopL (fun _ _=> ?_) _ _|exact Le.refl _
def U7 (x1:(Int×Int×Int×Bool×Bool)):Option (Stp (Int×Int×Int×Bool×Bool) Unit):=
  cond (decide ((w64 (x1.2.1 - x1.1))≤12)) ((T4 x1.1 x1.2.1).bind fun v1=>some (.out (()))) (cond (x1.2.2.1==0) (none) ((cond (!x1.2.2.2.1) (none) (some ())).bind fun _=>none))
theorem A5o (x1:(Int×Int×Int×Bool×Bool)):Le (U7 x1) (N7 x1):=by
  unfold U7 N7
  repeat' first|with_reducible exact Le.refl _|with_reducible exact A4m _ _|with_reducible refine Le.bind ?_ fun _=> ?_|with_reducible refine Le.cond ?_ ?_|with_reducible refine Le.ite ?_ ?_|with_reducible refine Le.thenS ?_ (fun _=> ?_) (fun _=> ?_)|with_reducible refine Le.loop (fun _=> ?_) _|with_reducible refine Le.loopL (fun _ _=> ?_) _ _|exact Le.refl _
def W8 (p1:Int)(p2:Int)(p3:Int):Option Unit:=
  R4 (U7) (p1,p2,p3,true,true)
theorem A6z (p1:Int)(p2:Int)(p3:Int):Le (W8 p1 p2 p3) (Q1 p1 p2 p3):=by
  unfold W8 Q1
  repeat' first|with_reducible exact Le.refl _|with_reducible exact A5o _|with_reducible refine Le.bind ?_ fun _=> ?_|with_reducible refine Le.cond ?_ ?_|with_reducible refine Le.ite ?_ ?_|with_reducible refine Le.thenS ?_ (fun _=> ?_) (fun _=> ?_)|with_reducible refine Le.loop (fun _=> ?_) _|with_reducible refine Le.loopL (fun _ _=> ?_) _ _|exact Le.refl _
def A0v:Option Unit:=
  (A7m (IntKind.wrap .u64 0)).bind fun v1=>(W8 0 0 v1).bind fun v2=>some ()
theorem A90:Le (A0v) (T1):=by
  unfold A0v T1
  repeat' first|with_reducible exact Le.refl _|with_reducible exact B3g _|with_reducible exact A6z _ _ _|with_reducible refine Le.bind ?_ fun _=> ?_|with_reducible refine Le.cond ?_ ?_|with_reducible refine Le.ite ?_ ?_|with_reducible refine Le.thenS ?_ (fun _=> ?_) (fun _=> ?_)|with_reducible refine Le.loop (fun _=> ?_) _|with_reducible refine Le.loopL (fun _ _=> ?_) _ _|exact Le.refl _
def B3b (p1:Map)(p2:Int)(p3:Int)(v1:Zone)(x2:((List Int)×Int)):Option (Stp ((List Int)×Int) (List Int)):=
  cond (decide (x2.2< (v1.Parts.length:Int))) ((G8 v1.Parts x2.2).bind fun v2=>((cond (v2.Lane_==p2) (G8 p1.Signals (w64 (v1.Signal_ - 1))) (some default))).bind fun v3=>((cond (v2.Lane_==p2) (B0u v3 p2 p3) (some default))).bind fun v4=>cond ((v2.Lane_==p2)&& (!v4)) ((B2d x2.1 [v2.From]).bind fun v5=>some (.go (v5,(w64 (x2.2+1))))) (some (.go (x2.1,(w64 (x2.2+1)))))) (some (.out x2.1))
theorem C0w (p1:Map)(p2:Int)(p3:Int)(v1:Zone)(x2:((List Int)×Int)):Le (B3b p1 p2 p3 v1 x2) (A7x p1 p2 p3 v1 x2):=by
  unfold B3b A7x
  repeat' first|with_reducible exact Le.refl _|with_reducible exact B5a _ _ _|with_reducible refine Le.bind ?_ fun _=> ?_|with_reducible refine Le.cond ?_ ?_|with_reducible refine Le.ite ?_ ?_|with_reducible refine Le.thenS ?_ (fun _=> ?_) (fun _=> ?_)|with_reducible refine Le.loop (fun _=> ?_) _|with_reducible refine Le.loopL (fun _ _=> ?_) _ _|exact Le.refl _
def B3c (p1:Map)(p2:Int)(p3:Int)(x1:((List Int)×Int)):Option (Stp ((List Int)×Int) (List Int)):=
  cond (decide (x1.2< (p1.Zones.length:Int))) ((G8 p1.Zones x1.2).bind fun v1=>cond (v1.Signal_==0) (some (.go (x1.1,(w64 (x1.2+1))))) ((R4 (B3b p1 p2 p3 v1) (x1.1,0)).bind fun y2=>some (.go (y2,(w64 (x1.2+1)))))) (some (.out x1.1))
theorem C0x (p1:Map)(p2:Int)(p3:Int)(x1:((List Int)×Int)):Le (B3c p1 p2 p3 x1) (A7y p1 p2 p3 x1):=by
  unfold B3c A7y
  repeat' first|with_reducible exact Le.refl _|with_reducible exact C0w _ _ _ _ _|with_reducible refine Le.bind ?_ fun _=> ?_|with_reducible refine Le.cond ?_ ?_|with_reducible refine Le.ite ?_ ?_|with_reducible refine Le.thenS ?_ (fun _=> ?_) (fun _=> ?_)|with_reducible refine Le.loop (fun _=> ?_) _|with_reducible refine Le.loopL (fun _ _=> ?_) _ _|exact Le.refl _
def B81 (p1:Map)(p2:Int)(p3:Int):Option (List Int):=
  (R4 (B3c p1 p2 p3) ([],0)).bind fun y1=>cond (List.isEmpty y1) ((A0v).bind fun v8=>some []) ((A0u y1).bind fun v6=>(B9m v6).bind fun v7=>some v7)
theorem C4j (p1:Map)(p2:Int)(p3:Int):Le (B81 p1 p2 p3) (B44 p1 p2 p3):=by
  unfold B81 B44
  repeat' first|with_reducible exact Le.refl _|with_reducible exact C0x _ _ _ _|with_reducible exact A90|with_reducible exact A8z _|with_reducible refine Le.bind ?_ fun _=> ?_|with_reducible refine Le.cond ?_ ?_|with_reducible refine Le.ite ?_ ?_|with_reducible refine Le.thenS ?_ (fun _=> ?_) (fun _=> ?_)|with_reducible refine Le.loop (fun _=> ?_) _|with_reducible refine Le.loopL (fun _ _=> ?_) _ _|exact Le.refl _
def B82 (p1:Map)(p2:Int)(p3:Int):Option (List Int):=
  ((cond (!(decide (p3<0))) (B4a p1 p2) (some default))).bind fun v1=>cond ((decide (p3<0))||(!v1)) (some []) ((B81 p1 p2 p3).bind fun v2=>some v2)
theorem C4k (p1:Map)(p2:Int)(p3:Int):Le (B82 p1 p2 p3) (B45 p1 p2 p3):=by
  unfold B82 B45
  repeat' first|with_reducible exact Le.refl _|with_reducible exact B5t _ _|with_reducible exact C4j _ _ _|with_reducible refine Le.bind ?_ fun _=> ?_|with_reducible refine Le.cond ?_ ?_|with_reducible refine Le.ite ?_ ?_|with_reducible refine Le.thenS ?_ (fun _=> ?_) (fun _=> ?_)|with_reducible refine Le.loop (fun _=> ?_) _|with_reducible refine Le.loopL (fun _ _=> ?_) _ _|exact Le.refl _
def A4n (p1:Int)(p2:Agent)(p3:Int):Option Int:=
  some (mm2 true 0 (mm2 false (w64 (p2.V+p1)) p3))
theorem B0e (p1:Int)(p2:Agent)(p3:Int):Le (A4n p1 p2 p3) (A0z p1 p2 p3):=by
  unfold A4n A0z
  repeat' first|with_reducible exact Le.refl _|with_reducible refine Le.bind ?_ fun _=> ?_|with_reducible refine Le.cond ?_ ?_|with_reducible refine Le.ite ?_ ?_|with_reducible refine Le.thenS ?_ (fun _=> ?_) (fun _=> ?_)|with_reducible refine Le.loop (fun _=> ?_) _|with_reducible refine Le.loopL (fun _ _=> ?_) _ _|exact Le.refl _
def B0f (p1:Int)(p2:Int):Option Int:=
  cond ((decide (p1<1))||(decide (p2<1))) (some 0) ((D31 .i64 (w64 ((mm2 false p1 1000000) - 1)) (mm2 false p2 1000000)).bind fun v1=>some (w64 ((w64 (v1* (mm2 false p1 1000000))) - (w64 ((mm2 false p2 1000000)* (w64 ((w64 (v1* (w64 (v1+1)))).tdiv 2)))))))
theorem B78 (p1:Int)(p2:Int):Le (B0f p1 p2) (V3 p1 p2):=by
  unfold B0f V3
  repeat' first|with_reducible exact Le.refl _|with_reducible refine Le.bind ?_ fun _=> ?_|with_reducible refine Le.cond ?_ ?_|with_reducible refine Le.ite ?_ ?_|with_reducible refine Le.thenS ?_ (fun _=> ?_) (fun _=> ?_)|with_reducible refine Le.loop (fun _=> ?_) _|with_reducible refine Le.loopL (fun _ _=> ?_) _ _|exact Le.refl _
def A3c (p1:Int)(p2:Int)(p3:Int)(p4:Int)(p5:Int):Option Bool:=
  ((cond (decide (p1>p2)) (B0f p3 p4) (some default))).bind fun v1=>((cond ((decide (p1>p2))&& (decide ((w64 (p2+v1))<p1))) (B0f p5 p4) (some default))).bind fun v2=>some (((decide (p1>p2))&& (decide ((w64 (p2+v1))<p1)))&& (decide ((w64 ((w64 (p2+p5))+v2))≥p1)))
theorem B2b (p1:Int)(p2:Int)(p3:Int)(p4:Int)(p5:Int):Le (A3c p1 p2 p3 p4 p5) (W4 p1 p2 p3 p4 p5):=by
  unfold A3c W4
  repeat' first|with_reducible exact Le.refl _|with_reducible exact B78 _ _|with_reducible refine Le.bind ?_ fun _=> ?_|with_reducible refine Le.cond ?_ ?_|with_reducible refine Le.ite ?_ ?_|with_reducible refine Le.thenS ?_ (fun _=> ?_) (fun _=> ?_)|with_reducible refine Le.loop (fun _=> ?_) _|with_reducible refine Le.loopL (fun _ _=> ?_) _ _|exact Le.refl _
def M3 (p1:(List Int))(p2:Int)(p3:Int)(p4:Int)(p5:Int)(x1:Int):Option (Stp Int (Sum Unit Int)):=
  cond (decide (x1< (p1.length:Int))) ((G8 p1 x1).bind fun v1=>(A3c v1 p2 p3 p4 p5).bind fun v2=>cond v2 (some (.out (.inr x1))) (some (.go (w64 (x1+1))))) (some (.out (.inl ())))
theorem A02 (p1:(List Int))(p2:Int)(p3:Int)(p4:Int)(p5:Int)(x1:Int):Le (M3 p1 p2 p3 p4 p5 x1) (E6 p1 p2 p3 p4 p5 x1):=by
  unfold M3 E6
  repeat' first|with_reducible exact Le.refl _|with_reducible exact B2b _ _ _ _ _|with_reducible refine Le.bind ?_ fun _=> ?_|with_reducible refine Le.cond ?_ ?_|with_reducible refine Le.ite ?_ ?_|with_reducible refine Le.thenS ?_ (fun _=> ?_) (fun _=> ?_)|with_reducible refine Le.loop (fun _=> ?_) _|with_reducible refine Le.loopL (fun _ _=> ?_) _ _|exact Le.refl _
def N4 (p1:(List Int))(p2:Int)(p3:Int)(p4:Int)(p5:Int):Option Int:=
  thenS (R4 (M3 p1 p2 p3 p4 p5) 0) (fun _=>some (-1)) (fun r=>some r)
theorem A0w (p1:(List Int))(p2:Int)(p3:Int)(p4:Int)(p5:Int):Le (N4 p1 p2 p3 p4 p5) (F6 p1 p2 p3 p4 p5):=by
  unfold N4 F6
  repeat' first|with_reducible exact Le.refl _|with_reducible exact A02 _ _ _ _ _ _|with_reducible refine Le.bind ?_ fun _=> ?_|with_reducible refine Le.cond ?_ ?_|with_reducible refine Le.ite ?_ ?_|with_reducible refine Le.thenS ?_ (fun _=> ?_) (fun _=> ?_)|with_reducible refine Le.loop (fun _=> ?_) _|with_reducible refine Le.loopL (fun _ _=> ?_) _ _|exact Le.refl _
def M4 (p1:(List Int))(p2:Int)(p3:Int)(p4:Int)(p5:Int):Option Bool:=
  (N4 p1 p2 p3 p4 p5).bind fun v1=>some (decide (v1≥0))
theorem A03 (p1:(List Int))(p2:Int)(p3:Int)(p4:Int)(p5:Int):Le (M4 p1 p2 p3 p4 p5) (E7 p1 p2 p3 p4 p5):=by
  unfold M4 E7
  repeat' first|with_reducible exact Le.refl _|with_reducible exact A0w _ _ _ _ _|with_reducible refine Le.bind ?_ fun _=> ?_|with_reducible refine Le.cond ?_ ?_|with_reducible refine Le.ite ?_ ?_|with_reducible refine Le.thenS ?_ (fun _=> ?_) (fun _=> ?_)|with_reducible refine Le.loop (fun _=> ?_) _|with_reducible refine Le.loopL (fun _ _=> ?_) _ _|exact Le.refl _
def B4d (p1:(List Int))(p2:Int)(p3:Int)(p4:Int)(p5:Int):Option Bool:=
  (M4 p1 p2 p3 p5 p4).bind fun v1=>some (!v1)
theorem C1f (p1:(List Int))(p2:Int)(p3:Int)(p4:Int)(p5:Int):Le (B4d p1 p2 p3 p4 p5) (A9u p1 p2 p3 p4 p5):=by
  unfold B4d A9u
  repeat' first|with_reducible exact Le.refl _|with_reducible exact A03 _ _ _ _ _|with_reducible refine Le.bind ?_ fun _=> ?_|with_reducible refine Le.cond ?_ ?_|with_reducible refine Le.ite ?_ ?_|with_reducible refine Le.thenS ?_ (fun _=> ?_) (fun _=> ?_)|with_reducible refine Le.loop (fun _=> ?_) _|with_reducible refine Le.loopL (fun _ _=> ?_) _ _|exact Le.refl _
def B1g (p2:Agent)(v1:(Int×Int))(v3:(Int×Int×Int))(v5:(List Int))(x1:Int):Option (Stp Int Int):=
  ((cond (decide (x1>(w64 (0 - v3.2.2)))) (A4n x1 p2 v3.1) (some default))).bind fun v6=>((cond (decide (x1>(w64 (0 - v3.2.2)))) (B4d v5 v1.2 p2.V v6 v3.2.2) (some default))).bind fun v7=>cond ((decide (x1>(w64 (0 - v3.2.2))))&& (!v7)) (some (.go (w64 (x1 - 1)))) (some (.out x1))
theorem B8u (p2:Agent)(v1:(Int×Int))(v3:(Int×Int×Int))(v5:(List Int))(x1:Int):Le (B1g p2 v1 v3 v5 x1) (A6d p2 v1 v3 v5 x1):=by
  unfold B1g A6d
  repeat' first|with_reducible exact Le.refl _|with_reducible exact B0e _ _ _|with_reducible exact C1f _ _ _ _ _|with_reducible refine Le.bind ?_ fun _=> ?_|with_reducible refine Le.cond ?_ ?_|with_reducible refine Le.ite ?_ ?_|with_reducible refine Le.thenS ?_ (fun _=> ?_) (fun _=> ?_)|with_reducible refine Le.loop (fun _=> ?_) _|with_reducible refine Le.loopL (fun _ _=> ?_) _ _|exact Le.refl _
def B5u (p1:Map)(p2:Agent)(p3:Int)(p4:Int):Option Agent:=
  (B31 p1 p2).bind fun v1=>(G8 p1.Lanes v1.1).bind fun v2=>(A4h v2.Kind).bind fun v3=>((cond p2.Obey (A6t p1 v1.1) (some default))).bind fun v4=>(cond (p2.Obey&& (decide (v1.2≤v4))) ((B82 p1 v1.1 p3).bind fun v5=>(R4 (B1g p2 v1 v3 v5) (mm2 true (w64 (0 - v3.2.2)) (mm2 false p4 v3.2.1))).bind fun y2=>some y2) (some (mm2 true (w64 (0 - v3.2.2)) (mm2 false p4 v3.2.1)))).bind fun y1=>(A4n y1 p2 v3.1).bind fun v8=>(B32 p1 (Agent.mk p2.Route (w64 (p2.S+v8)) v8 p2.Len p2.Begin p2.Obey p2.Gone)).bind fun v9=>some (Agent.mk p2.Route (w64 (p2.S+v8)) v8 p2.Len p2.Begin p2.Obey v9)
theorem C30 (p1:Map)(p2:Agent)(p3:Int)(p4:Int):Le (B5u p1 p2 p3 p4) (B24 p1 p2 p3 p4):=by
  unfold B5u B24
  repeat' first|with_reducible exact Le.refl _|with_reducible exact B6z _ _|with_reducible exact A6j _|with_reducible exact B0a _ _|with_reducible exact C4k _ _ _|with_reducible exact B8u _ _ _ _ _|with_reducible exact B0e _ _ _|with_reducible exact B70 _ _|with_reducible refine Le.bind ?_ fun _=> ?_|with_reducible refine Le.cond ?_ ?_|with_reducible refine Le.ite ?_ ?_|with_reducible refine Le.thenS ?_ (fun _=> ?_) (fun _=> ?_)|with_reducible refine Le.loop (fun _=> ?_) _|with_reducible refine Le.loopL (fun _ _=> ?_) _ _|exact Le.refl _
def B5v (p1:Map)(p2:State)(p3:Int)(p4:Int):Option Agent:=
  cond ((decide (p3<0))||(decide (p3≥(p2.Agents.length:Int)))) (some (Agent.mk [] 0 0 0 0 false false)) ((G8 p2.Agents p3).bind fun v1=>(A42 v1).bind fun v2=>(A5t p2 p3).bind fun v3=>((cond (!(!v3)) (A82 p1 p2) (some default))).bind fun v4=>cond ((!v3)||(v4 !=0)) (some v2) ((B5u p1 v2 p2.Tick p4).bind fun v5=>some v5))
theorem C31 (p1:Map)(p2:State)(p3:Int)(p4:Int):Le (B5v p1 p2 p3 p4) (B25 p1 p2 p3 p4):=by
  unfold B5v B25
  repeat' first|with_reducible exact Le.refl _|with_reducible exact A7c _|with_reducible exact A7l _ _|with_reducible exact B1b _ _|with_reducible exact C30 _ _ _ _|with_reducible refine Le.bind ?_ fun _=> ?_|with_reducible refine Le.cond ?_ ?_|with_reducible refine Le.ite ?_ ?_|with_reducible refine Le.thenS ?_ (fun _=> ?_) (fun _=> ?_)|with_reducible refine Le.loop (fun _=> ?_) _|with_reducible refine Le.loopL (fun _ _=> ?_) _ _|exact Le.refl _
def A7f (p1:State)(x1:(Int×State)):Option (Stp (Int×State) State):=
  cond (decide (x1.1< (p1.Agents.length:Int))) ((G8 p1.Agents x1.1).bind fun v2=>(A42 v2).bind fun v3=>(B2d x1.2.Agents [v3]).bind fun v4=>some (.go ((w64 (x1.1+1)),(State.mk x1.2.Tick v4 x1.2.In)))) (some (.out x1.2))
theorem B5w (p1:State)(x1:(Int×State)):Le (A7f p1 x1) (A31 p1 x1):=by
  unfold A7f A31
  repeat' first|with_reducible exact Le.refl _|with_reducible exact A7c _|with_reducible refine Le.bind ?_ fun _=> ?_|with_reducible refine Le.cond ?_ ?_|with_reducible refine Le.ite ?_ ?_|with_reducible refine Le.thenS ?_ (fun _=> ?_) (fun _=> ?_)|with_reducible refine Le.loop (fun _=> ?_) _|with_reducible refine Le.loopL (fun _ _=> ?_) _ _|exact Le.refl _
def B1h (p1:State):Option State:=
  (Z3 p1.In).bind fun v1=>(R4 (A7f p1) (0,(State.mk p1.Tick [] v1))).bind fun y1=>some y1
theorem B8v (p1:State):Le (B1h p1) (A6e p1):=by
  unfold B1h A6e
  repeat' first|with_reducible exact Le.refl _|with_reducible exact A5a _|with_reducible exact B5w _ _|with_reducible refine Le.bind ?_ fun _=> ?_|with_reducible refine Le.cond ?_ ?_|with_reducible refine Le.ite ?_ ?_|with_reducible refine Le.thenS ?_ (fun _=> ?_) (fun _=> ?_)|with_reducible refine Le.loop (fun _=> ?_) _|with_reducible refine Le.loopL (fun _ _=> ?_) _ _|exact Le.refl _
def A1y (p1:WorldScene)(p2:Int)(p3:Int):Option (Int×Bool):=
  (G8 p1.before.Agents p2).bind fun v1=>(A18 v1.Route p3).bind fun v2=>cond (decide (v2<0)) (some (0,false)) ((A6q p1.m v1.Route).bind fun v3=>(G8 v3 v2).bind fun v4=>some (v4,true))
theorem B3q (p1:WorldScene)(p2:Int)(p3:Int):Le (A1y p1 p2 p3) (V5 p1 p2 p3):=by
  unfold A1y V5
  repeat' first|with_reducible exact Le.refl _|with_reducible exact A6o _ _|with_reducible exact B00 _ _|with_reducible refine Le.bind ?_ fun _=> ?_|with_reducible refine Le.cond ?_ ?_|with_reducible refine Le.ite ?_ ?_|with_reducible refine Le.thenS ?_ (fun _=> ?_) (fun _=> ?_)|with_reducible refine Le.loop (fun _=> ?_) _|with_reducible refine Le.loopL (fun _ _=> ?_) _ _|exact Le.refl _
def A2y (p1:WorldScene)(p2:Int)(p3:Int):Option Stay:=
  (E0 p1.after.In (Stay.mk p2 p3 0 0)).bind fun v1=>(G8 p1.after.In v1.1).bind fun v2=>some v2
theorem B4e (p1:WorldScene)(p2:Int)(p3:Int):Le (A2y p1 p2 p3) (X5 p1 p2 p3):=by
  unfold A2y X5
  repeat' first|with_reducible exact Le.refl _|with_reducible exact L0 _ _|with_reducible refine Le.bind ?_ fun _=> ?_|with_reducible refine Le.cond ?_ ?_|with_reducible refine Le.ite ?_ ?_|with_reducible refine Le.thenS ?_ (fun _=> ?_) (fun _=> ?_)|with_reducible refine Le.loop (fun _=> ?_) _|with_reducible refine Le.loopL (fun _ _=> ?_) _ _|exact Le.refl _
def B0g (p1:Map)(p2:State)(p3:(List Int))(v2:State)(y2:(List Agent))(y5:(List Stay))(a1:(Int×Int))(x6:(Int× (List Crash))):Option (Stp (Int× (List Crash)) (List Crash)):=
  cond (decide (x6.1< (p1.Zones.length:Int))) ((A1x (WorldScene.mk p1 p2 (State.mk v2.Tick y2 y5) p3 x6.2) a1.1 a1.2 x6.1).bind fun v28=>cond (!v28) (some (.go ((w64 (x6.1+1)),x6.2))) ((A2y (WorldScene.mk p1 p2 (State.mk v2.Tick y2 y5) p3 x6.2) a1.1 x6.1).bind fun v29=>(A2y (WorldScene.mk p1 p2 (State.mk v2.Tick y2 y5) p3 x6.2) a1.2 x6.1).bind fun v30=>(A10 v29.Rank v30.Rank).bind fun v31=>(A3j v30.Since v29.Since).bind fun v32=>(B01 [v31,v32]).bind fun v33=>(cond (v33==(-1)) (some [a1.1]) (cond (v33==1) (some [a1.2]) (some [a1.1,a1.2]))).bind fun y17=>(B2d x6.2 [(Crash.mk p2.Tick a1.1 a1.2 (-1) x6.1 y17)]).bind fun v34=>some (.go ((w64 (x6.1+1)),v34)))) (some (.out x6.2))
theorem B83 (p1:Map)(p2:State)(p3:(List Int))(v2:State)(y2:(List Agent))(y5:(List Stay))(a1:(Int×Int))(x6:(Int× (List Crash))):Le (B0g p1 p2 p3 v2 y2 y5 a1 x6) (A58 p1 p2 p3 v2 y2 y5 a1 x6):=by
  unfold B0g A58
  repeat' first|with_reducible exact Le.refl _|with_reducible exact A72 _ _ _ _|with_reducible exact B4e _ _ _|with_reducible exact A6r _ _|with_reducible exact A8m _ _|with_reducible exact B33 _|with_reducible refine Le.bind ?_ fun _=> ?_|with_reducible refine Le.cond ?_ ?_|with_reducible refine Le.ite ?_ ?_|with_reducible refine Le.thenS ?_ (fun _=> ?_) (fun _=> ?_)|with_reducible refine Le.loop (fun _=> ?_) _|with_reducible refine Le.loopL (fun _ _=> ?_) _ _|exact Le.refl _
def B0h (p1:Map)(p2:State)(p3:(List Int))(v2:State)(y2:(List Agent))(y5:(List Stay))(a1:(Int×Int))(y12:(List Crash)):Option (List Crash):=
  (R4 (B0g p1 p2 p3 v2 y2 y5 a1) (0,y12)).bind fun y16=>some y16
theorem B84 (p1:Map)(p2:State)(p3:(List Int))(v2:State)(y2:(List Agent))(y5:(List Stay))(a1:(Int×Int))(y12:(List Crash)):Le (B0h p1 p2 p3 v2 y2 y5 a1 y12) (A7j p1 p2 p3 v2 y2 y5 a1 y12):=by
  unfold B0h A7j
  repeat' first|with_reducible exact Le.refl _|with_reducible exact B83 _ _ _ _ _ _ _ _|with_reducible refine Le.bind ?_ fun _=> ?_|with_reducible refine Le.cond ?_ ?_|with_reducible refine Le.ite ?_ ?_|with_reducible refine Le.thenS ?_ (fun _=> ?_) (fun _=> ?_)|with_reducible refine Le.loop (fun _=> ?_) _|with_reducible refine Le.loopL (fun _ _=> ?_) _ _|exact Le.refl _
def B0i (p1:Map)(p2:State)(p3:(List Int))(v2:State)(y2:(List Agent))(y5:(List Stay))(x4:(List Crash))(a1:(Int×Int))(x5:Int):Option (Stp Int (Sum Unit (List Crash))):=
  cond (decide (x5< (p1.Lanes.length:Int))) ((A1y (WorldScene.mk p1 p2 (State.mk v2.Tick y2 y5) p3 x4) a1.1 x5).bind fun v13=>(A1y (WorldScene.mk p1 p2 (State.mk v2.Tick y2 y5) p3 x4) a1.2 x5).bind fun v14=>cond ((!v13.2)||(!v14.2)) (some (.go (w64 (x5+1)))) ((G8 p2.Agents a1.1).bind fun v15=>(G8 p2.Agents a1.2).bind fun v16=>(cond (decide ((w64 (v15.S - v13.1))< (w64 (v16.S - v14.1)))) (some (v14.1,v13.1,a1.2,a1.1)) (some (v13.1,v14.1,a1.1,a1.2))).bind fun y14=>(G8 y2 y14.2.2.1).bind fun v17=>(A49 v17).bind fun v18=>(A12 v18 y14.1).bind fun v19=>(G8 y2 y14.2.2.2).bind fun v20=>(A49 v20).bind fun v21=>(A12 v21 y14.2.1).bind fun v22=>(G8 p2.Agents y14.2.2.2).bind fun v23=>(A49 v23).bind fun v24=>(A12 v24 y14.2.1).bind fun v25=>(A6t p1 x5).bind fun v26=>cond (((((decide (v19.to≥0))&& (decide (v22.to≥0)))&& (decide (v25.from_≤v26)))&& (decide (v19.from_≤v26)))&& (decide (v22.to≥v19.from_))) ((B2d x4 [(Crash.mk p2.Tick a1.1 a1.2 x5 (-1) [y14.2.2.2])]).bind fun v27=>some (.out (.inr v27))) (some (.go (w64 (x5+1)))))) (some (.out (.inl ())))
theorem B85 (p1:Map)(p2:State)(p3:(List Int))(v2:State)(y2:(List Agent))(y5:(List Stay))(x4:(List Crash))(a1:(Int×Int))(x5:Int):Le (B0i p1 p2 p3 v2 y2 y5 x4 a1 x5) (A59 p1 p2 p3 v2 y2 y5 x4 a1 x5):=by
  unfold B0i A59
  repeat' first|with_reducible exact Le.refl _|with_reducible exact B3q _ _ _|with_reducible exact A8y _|with_reducible exact B0v _ _|with_reducible exact B0a _ _|with_reducible refine Le.bind ?_ fun _=> ?_|with_reducible refine Le.cond ?_ ?_|with_reducible refine Le.ite ?_ ?_|with_reducible refine Le.thenS ?_ (fun _=> ?_) (fun _=> ?_)|with_reducible refine Le.loop (fun _=> ?_) _|with_reducible refine Le.loopL (fun _ _=> ?_) _ _|exact Le.refl _
def B1i (p1:Map)(p2:State)(p3:(List Int))(v2:State)(y2:(List Agent))(y5:(List Stay))(x4:(List Crash))(a1:(Int×Int)):Option (List Crash):=
  thenS (R4 (B0i p1 p2 p3 v2 y2 y5 x4 a1) 0) (fun _=>some x4) (fun r=>some r)
theorem B8w (p1:Map)(p2:State)(p3:(List Int))(v2:State)(y2:(List Agent))(y5:(List Stay))(x4:(List Crash))(a1:(Int×Int)):Le (B1i p1 p2 p3 v2 y2 y5 x4 a1) (A8s p1 p2 p3 v2 y2 y5 x4 a1):=by
  unfold B1i A8s
  repeat' first|with_reducible exact Le.refl _|with_reducible exact B85 _ _ _ _ _ _ _ _ _|with_reducible refine Le.bind ?_ fun _=> ?_|with_reducible refine Le.cond ?_ ?_|with_reducible refine Le.ite ?_ ?_|with_reducible refine Le.thenS ?_ (fun _=> ?_) (fun _=> ?_)|with_reducible refine Le.loop (fun _=> ?_) _|with_reducible refine Le.loopL (fun _ _=> ?_) _ _|exact Le.refl _
def B1j (p1:Map)(p2:State)(p3:(List Int))(v2:State)(y2:(List Agent))(y5:(List Stay))(x4:(List Crash))(a1:(Int×Int)):Option (Stp (List Crash) (List Crash)):=
  (B1i p1 p2 p3 v2 y2 y5 x4 a1).bind fun y12=>(B0h p1 p2 p3 v2 y2 y5 a1 y12).bind fun y15=>some (.go y15)
theorem B8x (p1:Map)(p2:State)(p3:(List Int))(v2:State)(y2:(List Agent))(y5:(List Stay))(x4:(List Crash))(a1:(Int×Int)):Le (B1j p1 p2 p3 v2 y2 y5 x4 a1) (A6f p1 p2 p3 v2 y2 y5 x4 a1):=by
  unfold B1j A6f
  repeat' first|with_reducible exact Le.refl _|with_reducible exact B8w _ _ _ _ _ _ _ _|with_reducible exact B84 _ _ _ _ _ _ _ _|with_reducible refine Le.bind ?_ fun _=> ?_|with_reducible refine Le.cond ?_ ?_|with_reducible refine Le.ite ?_ ?_|with_reducible refine Le.thenS ?_ (fun _=> ?_) (fun _=> ?_)|with_reducible refine Le.loop (fun _=> ?_) _|with_reducible refine Le.loopL (fun _ _=> ?_) _ _|exact Le.refl _
def B1k:Option Unit:=
  some ()
theorem B8y:Le (B1k) (A8t):=by
  unfold B1k A8t
  repeat' first|with_reducible exact Le.refl _|with_reducible refine Le.bind ?_ fun _=> ?_|with_reducible refine Le.cond ?_ ?_|with_reducible refine Le.ite ?_ ?_|with_reducible refine Le.thenS ?_ (fun _=> ?_) (fun _=> ?_)|with_reducible refine Le.loop (fun _=> ?_) _|with_reducible refine Le.loopL (fun _ _=> ?_) _ _|exact Le.refl _
def B1l (p1:Map)(p2:State)(p3:(List Int))(v2:State)(y2:(List Agent))(y5:(List Stay)):Option (List Crash):=
  (B1k).bind fun y10=>((C2y p2).bind fun v12=>loopL (B1j p1 p2 p3 v2 y2 y5) (fun (x4:(List Crash))=>x4) v12 []).bind fun y11=>some y11
theorem B8z (p1:Map)(p2:State)(p3:(List Int))(v2:State)(y2:(List Agent))(y5:(List Stay)):Le (B1l p1 p2 p3 v2 y2 y5) (A8u p1 p2 p3 v2 y2 y5):=by
  unfold B1l A8u
  repeat' first|with_reducible exact Le.refl _|with_reducible exact B8y|with_reducible exact C4h _|with_reducible exact B8x _ _ _ _ _ _ _ _|with_reducible refine Le.bind ?_ fun _=> ?_|with_reducible refine Le.cond ?_ ?_|with_reducible refine Le.ite ?_ ?_|with_reducible refine Le.thenS ?_ (fun _=> ?_) (fun _=> ?_)|with_reducible refine Le.loop (fun _=> ?_) _|with_reducible refine Le.loopL (fun _ _=> ?_) _ _|exact Le.refl _
def B1m (p1:Map)(p2:State)(p3:(List Int))(v2:State)(y2:(List Agent))(x2:(Int× (List Stay)))(v6:Agent)(x3:(Int× (List Stay))):Option (Stp (Int× (List Stay)) (List Stay)):=
  cond (decide (x3.1< (p1.Zones.length:Int))) ((S8 (WorldScene.mk p1 p2 (State.mk v2.Tick y2 x3.2) p3 []) x2.1 x3.1).bind fun v7=>cond (!v7) (some (.go ((w64 (x3.1+1)),x3.2))) ((E0 p2.In (Stay.mk x2.1 x3.1 p2.Tick 0)).bind fun v8=>(cond v8.2 ((G8 p2.In v8.1).bind fun v9=>some v9) ((B35 p1 v6 x3.1 p2.Tick).bind fun v10=>some (Stay.mk x2.1 x3.1 p2.Tick v10))).bind fun y8=>(B2d x3.2 [y8]).bind fun v11=>some (.go ((w64 (x3.1+1)),v11)))) (some (.out x3.2))
theorem B90 (p1:Map)(p2:State)(p3:(List Int))(v2:State)(y2:(List Agent))(x2:(Int× (List Stay)))(v6:Agent)(x3:(Int× (List Stay))):Le (B1m p1 p2 p3 v2 y2 x2 v6 x3) (A6g p1 p2 p3 v2 y2 x2 v6 x3):=by
  unfold B1m A6g
  repeat' first|with_reducible exact Le.refl _|with_reducible exact A2f _ _ _|with_reducible exact L0 _ _|with_reducible exact B76 _ _ _ _|with_reducible refine Le.bind ?_ fun _=> ?_|with_reducible refine Le.cond ?_ ?_|with_reducible refine Le.ite ?_ ?_|with_reducible refine Le.thenS ?_ (fun _=> ?_) (fun _=> ?_)|with_reducible refine Le.loop (fun _=> ?_) _|with_reducible refine Le.loopL (fun _ _=> ?_) _ _|exact Le.refl _
def B1n (p1:Map)(p2:State)(p3:(List Int))(v2:State)(y2:(List Agent))(x2:(Int× (List Stay))):Option (Stp (Int× (List Stay)) (List Stay)):=
  cond (decide (x2.1< (p2.Agents.length:Int))) ((G8 p2.Agents x2.1).bind fun v6=>(R4 (B1m p1 p2 p3 v2 y2 x2 v6) (0,x2.2)).bind fun y7=>some (.go ((w64 (x2.1+1)),y7))) (some (.out x2.2))
theorem B91 (p1:Map)(p2:State)(p3:(List Int))(v2:State)(y2:(List Agent))(x2:(Int× (List Stay))):Le (B1n p1 p2 p3 v2 y2 x2) (A6h p1 p2 p3 v2 y2 x2):=by
  unfold B1n A6h
  repeat' first|with_reducible exact Le.refl _|with_reducible exact B90 _ _ _ _ _ _ _ _|with_reducible refine Le.bind ?_ fun _=> ?_|with_reducible refine Le.cond ?_ ?_|with_reducible refine Le.ite ?_ ?_|with_reducible refine Le.thenS ?_ (fun _=> ?_) (fun _=> ?_)|with_reducible refine Le.loop (fun _=> ?_) _|with_reducible refine Le.loopL (fun _ _=> ?_) _ _|exact Le.refl _
def B1o (p1:Map)(p2:State)(p3:(List Int))(v2:State)(y2:(List Agent)):Option (List Stay):=
  (R4 (B1n p1 p2 p3 v2 y2) (0,[])).bind fun y6=>some y6
theorem B92 (p1:Map)(p2:State)(p3:(List Int))(v2:State)(y2:(List Agent)):Le (B1o p1 p2 p3 v2 y2) (A8v p1 p2 p3 v2 y2):=by
  unfold B1o A8v
  repeat' first|with_reducible exact Le.refl _|with_reducible exact B91 _ _ _ _ _ _|with_reducible refine Le.bind ?_ fun _=> ?_|with_reducible refine Le.cond ?_ ?_|with_reducible refine Le.ite ?_ ?_|with_reducible refine Le.thenS ?_ (fun _=> ?_) (fun _=> ?_)|with_reducible refine Le.loop (fun _=> ?_) _|with_reducible refine Le.loopL (fun _ _=> ?_) _ _|exact Le.refl _
def B1p (p1:Map)(p2:State)(p3:(List Int))(x1:(Int× (List Agent))):Option (Stp (Int× (List Agent)) (List Agent)):=
  cond (decide (x1.1< (p2.Agents.length:Int))) ((cond (decide (x1.1< (p3.length:Int))) ((G8 p3 x1.1).bind fun v3=>some v3) (some 0)).bind fun y4=>(B5v p1 p2 x1.1 y4).bind fun v4=>(G8 x1.2 x1.1).bind fun v5=>some (.go ((w64 (x1.1+1)),(C1q x1.2 x1.1 v4)))) (some (.out x1.2))
theorem B93 (p1:Map)(p2:State)(p3:(List Int))(x1:(Int× (List Agent))):Le (B1p p1 p2 p3 x1) (A6i p1 p2 p3 x1):=by
  unfold B1p A6i
  repeat' first|with_reducible exact Le.refl _|with_reducible exact C31 _ _ _ _|with_reducible refine Le.bind ?_ fun _=> ?_|with_reducible refine Le.cond ?_ ?_|with_reducible refine Le.ite ?_ ?_|with_reducible refine Le.thenS ?_ (fun _=> ?_) (fun _=> ?_)|with_reducible refine Le.loop (fun _=> ?_) _|with_reducible refine Le.loopL (fun _ _=> ?_) _ _|exact Le.refl _
def B1q (p1:Map)(p2:State)(p3:(List Int))(v2:State):Option (List Agent):=
  (R4 (B1p p1 p2 p3) (0,v2.Agents)).bind fun y3=>some y3
theorem B94 (p1:Map)(p2:State)(p3:(List Int))(v2:State):Le (B1q p1 p2 p3 v2) (A8w p1 p2 p3 v2):=by
  unfold B1q A8w
  repeat' first|with_reducible exact Le.refl _|with_reducible exact B93 _ _ _ _|with_reducible refine Le.bind ?_ fun _=> ?_|with_reducible refine Le.cond ?_ ?_|with_reducible refine Le.ite ?_ ?_|with_reducible refine Le.thenS ?_ (fun _=> ?_) (fun _=> ?_)|with_reducible refine Le.loop (fun _=> ?_) _|with_reducible refine Le.loopL (fun _ _=> ?_) _ _|exact Le.refl _
def B5x (p1:Map)(p2:State)(p3:(List Int)):Option (State× (List Crash)×Int):=
  (A82 p1 p2).bind fun v1=>cond (v1 !=0) (some ((State.mk 0 [] []),[],v1)) (cond (decide (p2.Tick≥1099511627776)) (some ((State.mk 0 [] []),[],2)) ((B1h p2).bind fun v2=>((B1q p1 p2 p3 v2).bind fun y2=>(B1o p1 p2 p3 v2 y2).bind fun y5=>(B1l p1 p2 p3 v2 y2 y5).bind fun y9=>some (y2,y5,y9)).bind fun y1=>some ((State.mk (w64 (v2.Tick+1)) y1.1 y1.2.1),y1.2.2,0)))
theorem C32 (p1:Map)(p2:State)(p3:(List Int)):Le (B5x p1 p2 p3) (B26 p1 p2 p3):=by
  unfold B5x B26
  repeat' first|with_reducible exact Le.refl _|with_reducible exact B1b _ _|with_reducible exact B8v _|with_reducible exact B94 _ _ _ _|with_reducible exact B92 _ _ _ _ _|with_reducible exact B8z _ _ _ _ _ _|with_reducible refine Le.bind ?_ fun _=> ?_|with_reducible refine Le.cond ?_ ?_|with_reducible refine Le.ite ?_ ?_|with_reducible refine Le.thenS ?_ (fun _=> ?_) (fun _=> ?_)|with_reducible refine Le.loop (fun _=> ?_) _|with_reducible refine Le.loopL (fun _ _=> ?_) _ _|exact Le.refl _
def B8c:Option Bool:=
  (B7o).bind fun v1=>(B0r 0 10000 1000).bind fun v2=>(B0r 1 46000 1000).bind fun v3=>(B7z v1 [v2,v3]).bind fun v4=>cond (((v4.2 !=0)||((v4.1.In.length:Int) !=0))||((v4.1.Agents.length:Int) !=2)) (some false) ((B5x v1 v4.1 [50,(-90)]).bind fun v5=>((cond (((v5.2.2==0)&& ((v5.2.1.length:Int)==0))&& ((v5.1.Agents.length:Int)==2)) (G8 v5.1.Agents 0) (some default))).bind fun v6=>((cond ((((v5.2.2==0)&& ((v5.2.1.length:Int)==0))&& ((v5.1.Agents.length:Int)==2))&& (v6.S==11030)) (G8 v5.1.Agents 1) (some default))).bind fun v7=>((cond (((((v5.2.2==0)&& ((v5.2.1.length:Int)==0))&& ((v5.1.Agents.length:Int)==2))&& (v6.S==11030))&& (v7.V==910)) (B0f 100 30) (some default))).bind fun v8=>some ((((((v5.2.2==0)&& ((v5.2.1.length:Int)==0))&& ((v5.1.Agents.length:Int)==2))&& (v6.S==11030))&& (v7.V==910))&& (v8==120)))
theorem C1g:Le (B8c) (A7b):=by
  unfold B8c A7b
  repeat' first|with_reducible exact Le.refl _|with_reducible exact C4e|with_reducible exact C1b _ _ _|with_reducible exact C4i _ _|with_reducible exact C32 _ _ _|with_reducible exact B78 _ _|with_reducible refine Le.bind ?_ fun _=> ?_|with_reducible refine Le.cond ?_ ?_|with_reducible refine Le.ite ?_ ?_|with_reducible refine Le.thenS ?_ (fun _=> ?_) (fun _=> ?_)|with_reducible refine Le.loop (fun _=> ?_) _|with_reducible refine Le.loopL (fun _ _=> ?_) _ _|exact Le.refl _
end Go.Abs.World
namespace Go.Abs.World
open Go Go.Abs
end Go.Abs.World
namespace Go.Abs.World
open Go Go.Abs
end Go.Abs.World
namespace Go.Abs.World
open Go Go.Abs
end Go.Abs.World
namespace Go.Abs.World
open Go Go.Abs
end Go.Abs.World
namespace Go.Abs.World
open Go Go.Abs
end Go.Abs.World
namespace Go.Abs.World
open Go Go.Abs
/-! ### Loops that look for the first error -/
end Go.Abs.World
namespace Go.Abs.World
open Go Go.Abs
end Go.Abs.World
namespace Go.Abs.World
open Go Go.Abs
/-- The lists of a map are of bearable lengths. -/
structure Bear (m:Map):Prop where
  lanes:m.Lanes.length≤1000000
  pts: ∀l∈m.Lanes,l.Curve_.Pts.length≤1000000∧l.Next.length≤1000000
end Go.Abs.World
namespace Go.Abs.World
open Go Go.Abs
end Go.Abs.World
namespace Go.Abs.World
open Go Go.Abs
end Go.Abs.World
namespace Go.Abs.World
open Go Go.Abs
end Go.Abs.World
namespace Go.Abs.World
open Go Go.Abs
end Go.Abs.World
namespace Go.Abs.World
open Go Go.Abs
end Go.Abs.World
namespace Go.Abs.World
open Go Go.Abs
end Go.Abs.World
namespace Go.Abs.World
open Go Go.Abs
end Go.Abs.World
namespace Go.Abs.World
open Go Go.Abs
structure BearS (m:Map):Prop where
  many:m.Signals.length≤1000000
  phases: ∀s∈m.Signals,s.Phases.length≤1000000∧∀p∈s.Phases,p.Green.length≤1000000
end Go.Abs.World
namespace Go.Abs.World
open Go Go.Abs
end Go.Abs.World
namespace Go.Abs.World
open Go Go.Abs
end Go.Abs.World
/-! Loops over lists, as functions on lists. -/
namespace Go.Abs
open Go
section
variable {α β σ S τ:Type}
end
end Go.Abs
namespace Go.Abs.World
open Go Go.Abs
structure BearZ (m:Map):Prop where
  many:m.Zones.length≤1000000
  parts: ∀z∈m.Zones,z.Parts.length≤1000000
end Go.Abs.World
namespace Go.Abs.World
open Go Go.Abs
structure BearW (m:Map):Prop where
  many:m.Works.length≤1000000
end Go.Abs.World
namespace Go.Abs.World
open Go Go.Abs
/-- All lists of a map are of bearable lengths. -/
structure BearM (m:Map):Prop where
  toBear:Bear m
  toBearS:BearS m
  toBearZ:BearZ m
  toBearW:BearW m
theorem BearM.lanes {m:Map}(B:BearM m):m.Lanes.length≤1000000:=B.toBear.lanes
end Go.Abs.World
namespace Go.Abs.World
open Go Go.Abs
section
variable {m:Map}
end
end Go.Abs.World
namespace Go.Abs.World
open Go Go.Abs
end Go.Abs.World
namespace Go.Abs.World
open Go Go.Abs
end Go.Abs.World
namespace Go.Abs.World
open Go Go.Abs
end Go.Abs.World
namespace Go.Abs.World
open Go Go.Abs
end Go.Abs.World
namespace Go.Abs.World
open Go Go.Abs
theorem D12:A7b=some true:=C1g _ (by decide+kernel)
end Go.Abs.World
namespace Go.Abs.World
open Go Go.Abs
end Go.Abs.World
namespace Go.Abs.World
open Go Go.Abs
theorem C33 (n:Int){m:Int}(hm:0<m):0≤n % m∧n % m<m:=⟨Int.emod_nonneg n (by omega),Int.emod_lt_of_pos n hm⟩
theorem C9b {n m:Int}(hm:0<m):n % m=if n.tmod m<0 then n.tmod m+m else n.tmod m:=by
  have a:=Int.emod_nonneg n (show m≠0 by omega)
  have b:=Int.emod_lt_of_pos n hm
  rw [Int.tmod_eq_emod]
  by_cases q:0≤n∨m ∣ n
  ·rw [if_pos q,if_neg (by omega)];omega
  ·rw [if_neg q]
   have:n % m≠0:=fun e=>q (.inr (Int.dvd_of_emod_eq_zero e))
   rw [if_pos (by omega)];omega
theorem B4f {n m:Int}(hm:0<m)(hm2:m≤9223372036854775807):A9j n m=some (n % m):=by
  have h1:=C9b (n:=n) hm
  have a:=C33 n hm
  unfold A9j C8m
  rw [if_neg (by omega),Option.bind_some]
  by_cases q:n.tmod m<0
  ·rw [if_pos q]at h1
   rw [decide_eq_true q,cond_true,B0p (by omega),← h1]
  ·rw [if_neg q]at h1
   rw [decide_eq_false q,cond_false,← h1]
end Go.Abs.World
/-! The way to stop. -/
namespace Go.Abs.World
open Go Go.Abs
/-- How far it is to stop, by its sum. -/
def B95 (b:Int):Nat→Int→Int
  |0,_=>0
  |n+1,v=>if v≤b then 0 else (v - b)+B95 b n (v - b)
def B0j (v b:Int):Int:=B95 b v.toNat v
theorem C1x {b:Int}(hb:0<b): ∀(n m:Nat) (v:Int),v≤n→v≤m→B95 b n v=B95 b m v
  |0,0,_,_,_=>rfl
  |0,m+1,v,h,_=>by rw [B95,B95,if_pos (by omega)]
  |n+1,0,v,_,h=>by rw [B95,B95,if_pos (by omega)]
  |n+1,m+1,v,h1,h2=>by
   rw [B95,B95]
   by_cases h:v≤b
   ·rw [if_pos h,if_pos h]
   ·rw [if_neg h,if_neg h,C1x hb n m _ (by omega) (by omega)]
theorem A2z {v b:Int}(h:v≤b):B0j v b=0:=by
  unfold B0j
  cases v.toNat with
  |zero=>rfl
  |succ n=>rw [B95,if_pos h]
theorem A84 {v b:Int}(hb:0<b)(h:b<v):B0j v b=(v - b)+B0j (v - b) b:=by
  unfold B0j
  obtain ⟨n,hn⟩: ∃n,v.toNat=n+1:=⟨v.toNat - 1,by omega⟩
  rw [hn,B95,if_neg (by omega),C1x hb n (v - b).toNat _ (by omega) (by omega)]
theorem B79 {P:Int→Prop}{b:Int}(hb:0<b)(h0: ∀v,v≤b→P v)(h1: ∀v,b<v→P (v - b)→P v)(v:Int):P v:=by
  have key: ∀(n:Nat) (v:Int),v≤n→P v:=by
    intro n
    induction n with
    |zero=>intro v hv;exact h0 v (by omega)
    |succ n ih=>
     intro v hv
     by_cases h:v≤b
     ·exact h0 v h
     ·exact h1 v (by omega) (ih _ (by omega))
  exact key v.toNat v (by omega)
theorem B0w {b:Int}(hb:0<b)(v:Int):0≤B0j v b:=by
  refine B79 (P:=fun v=>0≤B0j v b) hb (fun v h=>by rw [A2z h];exact Int.le_refl _) (fun v h ih=> ?_) v
  rw [A84 hb h];omega
theorem C1y {b:Int}(hb:0<b)(v:Int): ∀w,v≤w→B0j v b≤B0j w b:=by
  refine B79 (P:=fun v=> ∀w,v≤w→B0j v b≤B0j w b) hb (fun v h w _=>by rw [A2z h];exact B0w hb w) (fun v h ih w hw=> ?_) v
  rw [A84 hb h,A84 hb (show b<w by omega)]
  have:=ih (w - b) (by omega)
  omega
theorem C7h {b c:Int}(hb:0<b)(hbc:b≤c)(v:Int):B0j v c≤B0j v b:=by
  refine B79 (P:=fun v=>B0j v c≤B0j v b) (b:=c) (by omega) (fun v h=>by rw [A2z h];exact B0w hb v) (fun v h ih=> ?_) v
  rw [A84 (by omega) h,A84 hb (show b<v by omega)]
  have:=C1y hb (v - c) (v - b) (by omega)
  omega
/-- The closed form. -/
theorem D13 (n:Int):(n* (n+1)) % 2=0:=by
  rcases (show n % 2=0∨n % 2=1 by omega)with h|h
  ·rw [Int.mul_emod,h];simp
  ·rw [Int.mul_emod,Int.add_emod,h];simp
theorem C7i {b:Int}(hb:0<b)(v:Int)(hv:1≤v):2*B0j v b=2* ((v - 1) / b*v) - b* ((v - 1) / b* ((v - 1) / b+1)):=by
  revert hv
  refine B79 (P:=fun v=>1≤v→2*B0j v b=2* ((v - 1) / b*v) - b* ((v - 1) / b* ((v - 1) / b+1))) hb (fun v h hv=> ?_) (fun v h ih hv=> ?_) v
  ·have:(v - 1) / b=0:=Int.ediv_eq_zero_of_lt (by omega) (by omega)
   rw [A2z h,this];simp
  ·have ih:=ih (by omega)
   have e:(v - 1) / b=(v - b - 1) / b+1:=by
     rw [show v - 1=(v - b - 1)+b*1 by omega,Int.add_mul_ediv_left _ _ (by omega)]
   rw [A84 hb h,e]
   generalize (v - b - 1) / b=n at ih ⊢
   rw [Int.mul_add,ih]
   have a1:(n+1)*v=n*v+v:=by rw [Int.add_mul,Int.one_mul]
   have a2:n* (v - b)=n*v - n*b:=Int.mul_sub ..
   have a3:b* ((n+1)* (n+1+1))=b* (n* (n+1))+2* (n*b)+2*b:=by
     rw [show (n+1)* (n+1+1)=n* (n+1)+2*n+2 by
      rw [Int.add_mul,Int.mul_add n,Int.one_mul];omega,Int.mul_add,Int.mul_add,Int.mul_left_comm b 2 n,Int.mul_comm b n,Int.mul_comm b 2]
   rw [a1,a2,a3];omega
def B2c (v b:Int):Int:=if v<1∨b<1 then 0 else B0j (min v 1000000) (min b 1000000)
theorem D14 {b:Int}(hb:0<b){v:Int}(h1:v≤1000000):0≤B0j v b∧B0j v b≤1000000000000:=by
  refine ⟨B0w hb v,?_⟩
  have key: ∀v:Int,0≤v→B0j v b≤v*v:=by
    intro v
    refine B79 (P:=fun v=>0≤v→B0j v b≤v*v) hb (fun v h hv=>by rw [A2z h];exact Int.mul_nonneg hv hv) (fun v h ih hv=> ?_) v
    have ih:=ih (by omega)
    rw [A84 hb h]
    have h1:(v - b)* (v - b)≤(v - 1)* (v - b):=Int.mul_le_mul_of_nonneg_right (by omega) (by omega)
    have h2:(v - 1)* (v - b)≤(v - 1)*v:=Int.mul_le_mul_of_nonneg_left (by omega) (by omega)
    have h3:(v - 1)*v=v*v - v:=by rw [Int.sub_mul,Int.one_mul]
    omega
  by_cases h0:0≤v
  ·have:=key v h0
   have:v*v≤1000000*1000000:=Int.mul_le_mul h1 h1 h0 (by omega)
   omega
  ·rw [A2z (by omega)];omega
theorem D2y (v b:Int):V3 v b=some (B2c v b):=by
  unfold V3 B2c
  rw [C8w,C8w]
  by_cases h:v<1∨b<1
  ·rw [if_pos h,show (decide (v<1)||decide (b<1))=true by simpa using h];rfl
  ·rw [if_neg h,show (decide (v<1)||decide (b<1))=false by simpa using h,cond_false]
   have hV:1≤min v 1000000∧min v 1000000≤1000000:=by omega
   have hB:1≤min b 1000000∧min b 1000000≤1000000:=by omega
   generalize min v 1000000=V at hV ⊢
   generalize min b 1000000=B at hB ⊢
   have hq0:0≤(V - 1) / B:=Int.ediv_nonneg (by omega) (by omega)
   have hq1:(V - 1) / B≤V - 1:=Int.ediv_le_self _ (by omega)
   have hq2:B* ((V - 1) / B)≤V - 1:=Int.mul_ediv_self_le (by omega)
   have hf:=C7i (b:=B) (by omega) V hV.1
   unfold D31
   rw [B0p (by omega),if_neg (by omega),Option.bind_some,Int.tdiv_eq_ediv_of_nonneg (by omega)]
   generalize (V - 1) / B=n at hq0 hq1 hq2 hf ⊢
   have e0:IntKind.i64.wrap n=n:=B0p (by omega)
   rw [e0]
   have b1:0≤n*V∧n*V≤1000000*1000000:=⟨Int.mul_nonneg hq0 (by omega),Int.mul_le_mul (by omega) hV.2 (by omega) (by omega)⟩
   have b2:0≤n* (n+1)∧n* (n+1)≤1000000*1000000:=⟨Int.mul_nonneg hq0 (by omega),Int.mul_le_mul (by omega) (by omega) (by omega) (by omega)⟩
   have b3:0≤B* (n* (n+1))∧B* (n* (n+1))≤1000000*1000000:=by
     refine ⟨Int.mul_nonneg (by omega) b2.1,?_⟩
     rw [← Int.mul_assoc]
     exact Int.mul_le_mul (by omega) (by omega) (by omega) (by omega)
   have he:=D13 n
   have b4:B* (n* (n+1))=2* (B* (n* (n+1) / 2)):=by
     rw [Int.mul_left_comm 2 B,Int.mul_ediv_cancel' (Int.dvd_of_emod_eq_zero he)]
   rw [B0p (n:=n+1) (by omega),B0p (n:=n* (n+1)) (by omega),B0p (n:=n*V) (by omega),Int.tdiv_eq_ediv_of_nonneg b2.1,B0p (n:=n* (n+1) / 2) (by omega),B0p (n:=B* (n* (n+1) / 2)) (by omega)]
   congr 1
   rw [B0p (by omega)]
   omega
theorem C7j {v b:Int}(hv:0≤v∧v≤1000000)(hb:1≤b∧b≤1000000):B2c v b=max 0 (v - b)+B2c (max 0 (v - b)) b:=by
  have e: ∀w,0≤w→w≤1000000→B2c w b=B0j w b:=by
    intro w h0 h1
    unfold B2c
    by_cases h:w<1
    ·rw [if_pos (.inl h),A2z (by omega)]
    ·rw [if_neg (by omega),show min w 1000000=w by omega,show min b 1000000=b by omega]
  rw [e v hv.1 hv.2,e _ (by omega) (by omega)]
  by_cases h:v≤b
  ·rw [A2z h,show max 0 (v - b)=0 by omega,A2z (by omega)];rfl
  ·rw [A84 (by omega) (by omega),show max 0 (v - b)=v - b by omega]
theorem C7k {v w b:Int}(h:v≤w):B2c v b≤B2c w b:=by
  unfold B2c
  by_cases h1:v<1∨b<1
  ·rw [if_pos h1]
   split
   ·exact Int.le_refl _
   ·exact B0w (by omega) _
  ·rw [if_neg h1,if_neg (by omega)]
   exact C1y (by omega) _ _ (by omega)
theorem C7l {v b c:Int}(hb:1≤b)(h:b≤c):B2c v c≤B2c v b:=by
  unfold B2c
  by_cases h1:v<1
  ·rw [if_pos (.inl h1),if_pos (.inl h1)];exact Int.le_refl _
  ·rw [if_neg (by omega),if_neg (by omega)]
   exact C7h (by omega) (by omega) _
theorem B3r (v more b:Int)(_w0: -9223372036854775808≤v∧v≤9223372036854775807)(_w1: -9223372036854775808≤more∧more≤9223372036854775807)(_w2: -9223372036854775808≤b∧b≤9223372036854775807):A5c v more b=some true:=by
  unfold A5c
  rw [B4f (by omega) (by omega),B4f (by omega) (by omega),B4f (by omega) (by omega)]
  have h1:=C33 v (m:=20000) (by omega)
  have h2:=C33 more (m:=5000) (by omega)
  have h3:=C33 b (m:=1000) (by omega)
  generalize v % 20000=v at h1 ⊢
  generalize more % 5000=m at h2 ⊢
  generalize b % 1000=b at h3 ⊢
  simp only [Option.bind_some]
  rw [B0p (n:=1+b) (by omega),B0p (n:=v - (1+b)) (by omega),B0p (n:=v+m) (by omega),B0p (n:=1+b+m) (by omega),D2n]
  simp only [D2y,Option.bind_some]
  have hn:=C7j (v:=v) (b:=1+b) (by omega) (by omega)
  have hbd:0≤B2c (max 0 (v - (1+b))) (1+b)∧B2c (max 0 (v - (1+b))) (1+b)≤1000000000000:=by
    unfold B2c
    split
    ·omega
    ·exact D14 (by omega) (by omega)
  rw [B0p (n:=max 0 (v - (1+b))+B2c (max 0 (v - (1+b))) (1+b)) (by omega),← hn]
  have hm:B2c v (1+b)≤B2c (v+m) (1+b):=C7k (by omega)
  have ha:B2c v (1+b+m)≤B2c v (1+b):=C7l (by omega) (by omega)
  simp [hm,ha,D12]
end Go.Abs.World
