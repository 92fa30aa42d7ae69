/-
  Plain facts on the functions: what they compute, and that the law holds of it.
-/
import Derived.Test.YtimbepcdlehjjaaGreatFns3
set_option maxRecDepth 100000
set_option linter.unusedVariables false
namespace Go.Abs.Roadsz
open Go Go.Abs
def A9b (p4:(List Int))(x1:(Int×Lane)):Option (Stp (Int×Lane) Lane):=
  cond (decide ((w64 (x1.1+1))< (p4.length:Int))) ((F0 p4 x1.1).bind fun v1=>(F0 p4 (w64 (x1.1+1))).bind fun v2=>(A7b x1.2.Curve_.Pts [(Spot.mk v1 v2)]).bind fun v3=>some (.go ((w64 (x1.1+2)),(Lane.mk x1.2.Kind (Curve.mk v3) x1.2.Half x1.2.Limit x1.2.Next)))) (some (.out x1.2))
theorem B6f (p4:(List Int))(x1:(Int×Lane)):Le (A9b p4 x1) (A5s p4 x1):=by
  unfold A9b A5s
  repeat' first|with_reducible exact Le.refl _|with_reducible refine Le.bind ?_ fun _=> ?_|with_reducible refine Le.cond ?_ ?_|with_reducible refine Le.ite ?_ ?_|with_reducible refine Le.thenS ?_ (fun _=> ?_) (fun _=> ?_)|with_reducible refine Le.loop (fun _=> ?_) _|with_reducible refine Le.loopL (fun _ _=> ?_) _ _|exact Le.refl _
def B1z (p1:Int)(p2:Int)(p3:(List Int))(p4:(List Int)):Option Lane:=
  (A05 (A9b p4) (0,(Lane.mk p1 (Curve.mk []) 1500 p2 p3))).bind fun y1=>cond (p1==3) (some (Lane.mk y1.Kind y1.Curve_ 500 y1.Limit y1.Next)) (some y1)
theorem C14 (p1:Int)(p2:Int)(p3:(List Int))(p4:(List Int)):Le (B1z p1 p2 p3 p4) (A9v p1 p2 p3 p4):=by
  unfold B1z A9v
  repeat' first|with_reducible exact Le.refl _|with_reducible exact B6f _ _|with_reducible refine Le.bind ?_ fun _=> ?_|with_reducible refine Le.cond ?_ ?_|with_reducible refine Le.ite ?_ ?_|with_reducible refine Le.thenS ?_ (fun _=> ?_) (fun _=> ?_)|with_reducible refine Le.loop (fun _=> ?_) _|with_reducible refine Le.loopL (fun _ _=> ?_) _ _|exact Le.refl _
def B2t:Option Map:=
  (B1z 1 1500 [] [0,0,100000,0]).bind fun v1=>(B1z 1 1500 [] [50000,(-50000),50000,50000]).bind fun v2=>some (Map.mk 0 [v1,v2] [(Zone.mk [(Part.mk 0 48000 52000 1),(Part.mk 1 48000 52000 0)] 0)] [] [])
theorem B9u:Le (B2t) (A90):=by
  unfold B2t A90
  repeat' first|with_reducible exact Le.refl _|with_reducible exact C14 _ _ _ _|with_reducible refine Le.bind ?_ fun _=> ?_|with_reducible refine Le.cond ?_ ?_|with_reducible refine Le.ite ?_ ?_|with_reducible refine Le.thenS ?_ (fun _=> ?_) (fun _=> ?_)|with_reducible refine Le.loop (fun _=> ?_) _|with_reducible refine Le.loopL (fun _ _=> ?_) _ _|exact Le.refl _
def O9 (p1:Int)(p2:Int)(p3:Int):Option Bool:=
  some ((decide (p2≤p1))&& (decide (p1≤p3)))
theorem T0 (p1:Int)(p2:Int)(p3:Int):Le (O9 p1 p2 p3) (M2 p1 p2 p3):=by
  unfold O9 M2
  repeat' first|with_reducible exact Le.refl _|with_reducible refine Le.bind ?_ fun _=> ?_|with_reducible refine Le.cond ?_ ?_|with_reducible refine Le.ite ?_ ?_|with_reducible refine Le.thenS ?_ (fun _=> ?_) (fun _=> ?_)|with_reducible refine Le.loop (fun _=> ?_) _|with_reducible refine Le.loopL (fun _ _=> ?_) _ _|exact Le.refl _
def A2i (p1:RoadsCheck):Option Int:=
  (O9 p1.Map_.Version 0 1099511627776).bind fun v1=>cond (!v1) (some 2) (cond ((p1.Map_.Lanes.length:Int)==0) (some 6) (cond ((((decide ((p1.Map_.Lanes.length:Int)>12))||(decide ((p1.Map_.Zones.length:Int)>12)))||(decide ((p1.Map_.Signals.length:Int)>4)))||(decide ((p1.Map_.Works.length:Int)>8))) (some 8) (some 0)))
theorem A8p (p1:RoadsCheck):Le (A2i p1) (M3 p1):=by
  unfold A2i M3
  repeat' first|with_reducible exact Le.refl _|with_reducible exact T0 _ _ _|with_reducible refine Le.bind ?_ fun _=> ?_|with_reducible refine Le.cond ?_ ?_|with_reducible refine Le.ite ?_ ?_|with_reducible refine Le.thenS ?_ (fun _=> ?_) (fun _=> ?_)|with_reducible refine Le.loop (fun _=> ?_) _|with_reducible refine Le.loopL (fun _ _=> ?_) _ _|exact Le.refl _
def A5l (p1:Int):Option (Int×Int×Int):=
  cond ((decide (p1<0))||(decide (p1≥4))) (some (0,0,0)) ((F0 ([(0,0,0),(2000,30,90),(1000,20,60),(300,100,300)]:List (Int×Int×Int)) p1).bind fun v1=>some (v1.1,v1.2.1,v1.2.2))
theorem A9c (p1:Int):Le (A5l p1) (A0l p1):=by
  unfold A5l A0l
  repeat' first|with_reducible exact Le.refl _|with_reducible refine Le.bind ?_ fun _=> ?_|with_reducible refine Le.cond ?_ ?_|with_reducible refine Le.ite ?_ ?_|with_reducible refine Le.thenS ?_ (fun _=> ?_) (fun _=> ?_)|with_reducible refine Le.loop (fun _=> ?_) _|with_reducible refine Le.loopL (fun _ _=> ?_) _ _|exact Le.refl _
def A6x (p1:(List Spot))(x1:Int):Option (Stp Int (Sum Unit Bool)):=
  cond (decide (x1< (p1.length:Int))) ((F0 p1 x1).bind fun v1=>cond ((decide ((mm2 false v1.X v1.Y)< (-16777216)))||(decide ((mm2 true v1.X v1.Y)>16777216))) (some (.out (.inr false))) (some (.go (w64 (x1+1))))) (some (.out (.inl ())))
theorem B3l (p1:(List Spot))(x1:Int):Le (A6x p1 x1) (V3 p1 x1):=by
  unfold A6x V3
  repeat' first|with_reducible exact Le.refl _|with_reducible refine Le.bind ?_ fun _=> ?_|with_reducible refine Le.cond ?_ ?_|with_reducible refine Le.ite ?_ ?_|with_reducible refine Le.thenS ?_ (fun _=> ?_) (fun _=> ?_)|with_reducible refine Le.loop (fun _=> ?_) _|with_reducible refine Le.loopL (fun _ _=> ?_) _ _|exact Le.refl _
def B13 (p1:(List Spot)):Option Bool:=
  thenS (A05 (A6x p1) 0) (fun _=>some true) (fun r=>some r)
theorem B88 (p1:(List Spot)):Le (B13 p1) (A41 p1):=by
  unfold B13 A41
  repeat' first|with_reducible exact Le.refl _|with_reducible exact B3l _ _|with_reducible refine Le.bind ?_ fun _=> ?_|with_reducible refine Le.cond ?_ ?_|with_reducible refine Le.ite ?_ ?_|with_reducible refine Le.thenS ?_ (fun _=> ?_) (fun _=> ?_)|with_reducible refine Le.loop (fun _=> ?_) _|with_reducible refine Le.loopL (fun _ _=> ?_) _ _|exact Le.refl _
def A7z (p1:Spot)(p2:Spot):Option CurveVector:=
  some (CurveVector.mk (w64 (p2.X - p1.X)) (w64 (p2.Y - p1.Y)))
theorem B20 (p1:Spot)(p2:Spot):Le (A7z p1 p2) (A33 p1 p2):=by
  unfold A7z A33
  repeat' first|with_reducible exact Le.refl _|with_reducible refine Le.bind ?_ fun _=> ?_|with_reducible refine Le.cond ?_ ?_|with_reducible refine Le.ite ?_ ?_|with_reducible refine Le.thenS ?_ (fun _=> ?_) (fun _=> ?_)|with_reducible refine Le.loop (fun _=> ?_) _|with_reducible refine Le.loopL (fun _ _=> ?_) _ _|exact Le.refl _
def A0g (p1:CurveVector)(p2:CurveVector):Option Int:=
  some (w64 ((w64 (p1.x*p2.x))+ (w64 (p1.y*p2.y))))
theorem A66 (p1:CurveVector)(p2:CurveVector):Le (A0g p1 p2) (O6 p1 p2):=by
  unfold A0g O6
  repeat' first|with_reducible exact Le.refl _|with_reducible refine Le.bind ?_ fun _=> ?_|with_reducible refine Le.cond ?_ ?_|with_reducible refine Le.ite ?_ ?_|with_reducible refine Le.thenS ?_ (fun _=> ?_) (fun _=> ?_)|with_reducible refine Le.loop (fun _=> ?_) _|with_reducible refine Le.loopL (fun _ _=> ?_) _ _|exact Le.refl _
def A6y (p1:Int)(x1:(Int×Int)):Option (Stp (Int×Int) Int):=
  cond (decide (x1.1<x1.2)) (cond (decide ((w64 ((w64 ((w64 (x1.1+x1.2)).tdiv 2))* (w64 ((w64 (x1.1+x1.2)).tdiv 2))))<p1)) (some (.go ((w64 ((w64 ((w64 (x1.1+x1.2)).tdiv 2))+1)),x1.2))) (some (.go (x1.1,(w64 ((w64 (x1.1+x1.2)).tdiv 2)))))) (some (.out x1.1))
theorem B3m (p1:Int)(x1:(Int×Int)):Le (A6y p1 x1) (A0q p1 x1):=by
  unfold A6y A0q
  repeat' first|with_reducible exact Le.refl _|with_reducible refine Le.bind ?_ fun _=> ?_|with_reducible refine Le.cond ?_ ?_|with_reducible refine Le.ite ?_ ?_|with_reducible refine Le.thenS ?_ (fun _=> ?_) (fun _=> ?_)|with_reducible refine Le.loop (fun _=> ?_) _|with_reducible refine Le.loopL (fun _ _=> ?_) _ _|exact Le.refl _
def A80 (p1:Int):Option (Int×Bool):=
  (A05 (A6y p1) (0,67108864)).bind fun y1=>some (y1,((w64 (y1*y1))==p1))
theorem B21 (p1:Int):Le (A80 p1) (A29 p1):=by
  unfold A80 A29
  repeat' first|with_reducible exact Le.refl _|with_reducible exact B3m _ _|with_reducible refine Le.bind ?_ fun _=> ?_|with_reducible refine Le.cond ?_ ?_|with_reducible refine Le.ite ?_ ?_|with_reducible refine Le.thenS ?_ (fun _=> ?_) (fun _=> ?_)|with_reducible refine Le.loop (fun _=> ?_) _|with_reducible refine Le.loopL (fun _ _=> ?_) _ _|exact Le.refl _
def A67 (p1:Curve)(x1:(Int×CurveVector)):Option (Stp (Int×CurveVector) (Sum Unit Int)):=
  cond (decide (x1.1< (w64 ((p1.Pts.length:Int) - 1)))) ((F0 p1.Pts x1.1).bind fun v2=>(F0 p1.Pts (w64 (x1.1+1))).bind fun v3=>(A7z v2 v3).bind fun v4=>(A0g v4 v4).bind fun v5=>(A80 v5).bind fun v6=>cond (!v6.2) (some (.out (.inr 3))) (cond ((decide (v6.1<1000))||(decide (v6.1>1048576))) (some (.out (.inr 2))) (((cond (decide (x1.1>0)) (A0g x1.2 v4) (some default))).bind fun v7=>cond ((decide (x1.1>0))&& (decide (v7≤0))) (some (.out (.inr 12))) (some (.go ((w64 (x1.1+1)),v4)))))) (some (.out (.inl ())))
theorem B2u (p1:Curve)(x1:(Int×CurveVector)):Le (A67 p1 x1) (R7 p1 x1):=by
  unfold A67 R7
  repeat' first|with_reducible exact Le.refl _|with_reducible exact B20 _ _|with_reducible exact A66 _ _|with_reducible exact B21 _|with_reducible refine Le.bind ?_ fun _=> ?_|with_reducible refine Le.cond ?_ ?_|with_reducible refine Le.ite ?_ ?_|with_reducible refine Le.thenS ?_ (fun _=> ?_) (fun _=> ?_)|with_reducible refine Le.loop (fun _=> ?_) _|with_reducible refine Le.loopL (fun _ _=> ?_) _ _|exact Le.refl _
def A6s (p1:Curve):Option Int:=
  cond (decide ((p1.Pts.length:Int)<2)) (some 6) (cond (decide ((p1.Pts.length:Int)>16)) (some 5) ((B13 p1.Pts).bind fun v1=>cond (!v1) (some 2) (thenS (A05 (A67 p1) (0,(CurveVector.mk 0 0))) (fun _=>some 0) (fun r=>some r))))
theorem B0l (p1:Curve):Le (A6s p1) (A1g p1):=by
  unfold A6s A1g
  repeat' first|with_reducible exact Le.refl _|with_reducible exact B88 _|with_reducible exact B2u _ _|with_reducible refine Le.bind ?_ fun _=> ?_|with_reducible refine Le.cond ?_ ?_|with_reducible refine Le.ite ?_ ?_|with_reducible refine Le.thenS ?_ (fun _=> ?_) (fun _=> ?_)|with_reducible refine Le.loop (fun _=> ?_) _|with_reducible refine Le.loopL (fun _ _=> ?_) _ _|exact Le.refl _
def A55 (p1:(List Int))(p3:Int)(x1:(Int×Int)):Option (Stp (Int×Int) (Sum Unit Bool)):=
  cond (decide (x1.2< (p1.length:Int))) ((F0 p1 x1.2).bind fun v1=>cond ((decide (v1<x1.1))||(decide (v1≥p3))) (some (.out (.inr false))) (some (.go ((w64 (v1+1)),(w64 (x1.2+1)))))) (some (.out (.inl ())))
theorem B22 (p1:(List Int))(p3:Int)(x1:(Int×Int)):Le (A55 p1 p3 x1) (Q4 p1 p3 x1):=by
  unfold A55 Q4
  repeat' first|with_reducible exact Le.refl _|with_reducible refine Le.bind ?_ fun _=> ?_|with_reducible refine Le.cond ?_ ?_|with_reducible refine Le.ite ?_ ?_|with_reducible refine Le.thenS ?_ (fun _=> ?_) (fun _=> ?_)|with_reducible refine Le.loop (fun _=> ?_) _|with_reducible refine Le.loopL (fun _ _=> ?_) _ _|exact Le.refl _
def A3o (p1:(List Int))(p2:Int)(p3:Int):Option Bool:=
  thenS (A05 (A55 p1 p3) (p2,0)) (fun _=>some true) (fun r=>some r)
theorem A68 (p1:(List Int))(p2:Int)(p3:Int):Le (A3o p1 p2 p3) (Z1 p1 p2 p3):=by
  unfold A3o Z1
  repeat' first|with_reducible exact Le.refl _|with_reducible exact B22 _ _ _|with_reducible refine Le.bind ?_ fun _=> ?_|with_reducible refine Le.cond ?_ ?_|with_reducible refine Le.ite ?_ ?_|with_reducible refine Le.thenS ?_ (fun _=> ?_) (fun _=> ?_)|with_reducible refine Le.loop (fun _=> ?_) _|with_reducible refine Le.loopL (fun _ _=> ?_) _ _|exact Le.refl _
def A1x (p1:RoadsCheck)(x1:Int):Option (Stp Int (Sum Unit Int)):=
  cond (decide (x1< (p1.Map_.Lanes.length:Int))) ((F0 p1.Map_.Lanes x1).bind fun v1=>(A5l v1.Kind).bind fun v2=>cond (v2.1==0) (some (.out (.inr 4))) ((A6s v1.Curve_).bind fun v3=>cond (v3 !=0) (some (.out (.inr v3))) ((O9 v1.Half 200 4000).bind fun v4=>((cond (!(!v4)) (O9 v1.Limit 1 v2.1) (some default))).bind fun v5=>cond ((!v4)||(!v5)) (some (.out (.inr 2))) (cond (decide ((v1.Next.length:Int)>3)) (some (.out (.inr 8))) ((A3o v1.Next (w64 (x1+1)) (p1.Map_.Lanes.length:Int)).bind fun v6=>cond (!v6) (some (.out (.inr 11))) (some (.go (w64 (x1+1))))))))) (some (.out (.inl ())))
theorem A81 (p1:RoadsCheck)(x1:Int):Le (A1x p1 x1) (K4 p1 x1):=by
  unfold A1x K4
  repeat' first|with_reducible exact Le.refl _|with_reducible exact A9c _|with_reducible exact B0l _|with_reducible exact T0 _ _ _|with_reducible exact A68 _ _ _|with_reducible refine Le.bind ?_ fun _=> ?_|with_reducible refine Le.cond ?_ ?_|with_reducible refine Le.ite ?_ ?_|with_reducible refine Le.thenS ?_ (fun _=> ?_) (fun _=> ?_)|with_reducible refine Le.loop (fun _=> ?_) _|with_reducible refine Le.loopL (fun _ _=> ?_) _ _|exact Le.refl _
def A3p (p1:RoadsCheck):Option Int:=
  thenS (A05 (A1x p1) 0) (fun _=>some 0) (fun r=>some r)
theorem B04 (p1:RoadsCheck):Le (A3p p1) (P4 p1):=by
  unfold A3p P4
  repeat' first|with_reducible exact Le.refl _|with_reducible exact A81 _ _|with_reducible refine Le.bind ?_ fun _=> ?_|with_reducible refine Le.cond ?_ ?_|with_reducible refine Le.ite ?_ ?_|with_reducible refine Le.thenS ?_ (fun _=> ?_) (fun _=> ?_)|with_reducible refine Le.loop (fun _=> ?_) _|with_reducible refine Le.loopL (fun _ _=> ?_) _ _|exact Le.refl _
def A18 (p1:RoadsCheck)(v1:Lane)(v2:Spot)(x2:Int):Option (Stp Int (Sum Unit Int)):=
  cond (decide (x2< (v1.Next.length:Int))) ((F0 v1.Next x2).bind fun v3=>(F0 p1.Map_.Lanes v3).bind fun v4=>cond (v4.Kind !=v1.Kind) (some (.out (.inr 4))) ((F0 p1.Map_.Lanes v3).bind fun v5=>(F0 v5.Curve_.Pts 0).bind fun v6=>cond (!(v6.X==v2.X&& (v6.Y==v2.Y&&true))) (some (.out (.inr 3))) (some (.go (w64 (x2+1)))))) (some (.out (.inl ())))
theorem A7g (p1:RoadsCheck)(v1:Lane)(v2:Spot)(x2:Int):Le (A18 p1 v1 v2 x2) (J4 p1 v1 v2 x2):=by
  unfold A18 J4
  repeat' first|with_reducible exact Le.refl _|with_reducible refine Le.bind ?_ fun _=> ?_|with_reducible refine Le.cond ?_ ?_|with_reducible refine Le.ite ?_ ?_|with_reducible refine Le.thenS ?_ (fun _=> ?_) (fun _=> ?_)|with_reducible refine Le.loop (fun _=> ?_) _|with_reducible refine Le.loopL (fun _ _=> ?_) _ _|exact Le.refl _
def A19 (p1:RoadsCheck)(x1:Int):Option (Stp Int (Sum Unit Int)):=
  cond (decide (x1< (p1.Map_.Lanes.length:Int))) ((F0 p1.Map_.Lanes x1).bind fun v1=>(F0 v1.Curve_.Pts (w64 ((v1.Curve_.Pts.length:Int) - 1))).bind fun v2=>thenS (A05 (A18 p1 v1 v2) 0) (fun _=>some (.go (w64 (x1+1)))) (fun r=>some (.out (.inr r)))) (some (.out (.inl ())))
theorem A7h (p1:RoadsCheck)(x1:Int):Le (A19 p1 x1) (J5 p1 x1):=by
  unfold A19 J5
  repeat' first|with_reducible exact Le.refl _|with_reducible exact A7g _ _ _ _|with_reducible refine Le.bind ?_ fun _=> ?_|with_reducible refine Le.cond ?_ ?_|with_reducible refine Le.ite ?_ ?_|with_reducible refine Le.thenS ?_ (fun _=> ?_) (fun _=> ?_)|with_reducible refine Le.loop (fun _=> ?_) _|with_reducible refine Le.loopL (fun _ _=> ?_) _ _|exact Le.refl _
def A2z (p1:RoadsCheck):Option Int:=
  thenS (A05 (A19 p1) 0) (fun _=>some 0) (fun r=>some r)
theorem A9d (p1:RoadsCheck):Le (A2z p1) (N8 p1):=by
  unfold A2z N8
  repeat' first|with_reducible exact Le.refl _|with_reducible exact A7h _ _|with_reducible refine Le.bind ?_ fun _=> ?_|with_reducible refine Le.cond ?_ ?_|with_reducible refine Le.ite ?_ ?_|with_reducible refine Le.thenS ?_ (fun _=> ?_) (fun _=> ?_)|with_reducible refine Le.loop (fun _=> ?_) _|with_reducible refine Le.loopL (fun _ _=> ?_) _ _|exact Le.refl _
def A1a (p1:Phase):Option Bool:=
  (O9 p1.Ticks 1 10000).bind fun v1=>some (!v1)
theorem A7i (p1:Phase):Le (A1a p1) (P5 p1):=by
  unfold A1a P5
  repeat' first|with_reducible exact Le.refl _|with_reducible exact T0 _ _ _|with_reducible refine Le.bind ?_ fun _=> ?_|with_reducible refine Le.cond ?_ ?_|with_reducible refine Le.ite ?_ ?_|with_reducible refine Le.thenS ?_ (fun _=> ?_) (fun _=> ?_)|with_reducible refine Le.loop (fun _=> ?_) _|with_reducible refine Le.loopL (fun _ _=> ?_) _ _|exact Le.refl _
def G1 (p1:(List Phase))(x1:Int):Option (Stp Int (Sum Unit Int)):=
  cond (decide (x1< (p1.length:Int))) ((F0 p1 x1).bind fun v1=>(A1a v1).bind fun v2=>cond v2 (some (.out (.inr x1))) (some (.go (w64 (x1+1))))) (some (.out (.inl ())))
theorem T6 (p1:(List Phase))(x1:Int):Le (G1 p1 x1) (B4 p1 x1):=by
  unfold G1 B4
  repeat' first|with_reducible exact Le.refl _|with_reducible exact A7i _|with_reducible refine Le.bind ?_ fun _=> ?_|with_reducible refine Le.cond ?_ ?_|with_reducible refine Le.ite ?_ ?_|with_reducible refine Le.thenS ?_ (fun _=> ?_) (fun _=> ?_)|with_reducible refine Le.loop (fun _=> ?_) _|with_reducible refine Le.loopL (fun _ _=> ?_) _ _|exact Le.refl _
def G6 (p1:(List Phase)):Option Int:=
  thenS (A05 (G1 p1) 0) (fun _=>some (-1)) (fun r=>some r)
theorem V6 (p1:(List Phase)):Le (G6 p1) (C3 p1):=by
  unfold G6 C3
  repeat' first|with_reducible exact Le.refl _|with_reducible exact T6 _ _|with_reducible refine Le.bind ?_ fun _=> ?_|with_reducible refine Le.cond ?_ ?_|with_reducible refine Le.ite ?_ ?_|with_reducible refine Le.thenS ?_ (fun _=> ?_) (fun _=> ?_)|with_reducible refine Le.loop (fun _=> ?_) _|with_reducible refine Le.loopL (fun _ _=> ?_) _ _|exact Le.refl _
def G2 (p1:(List Phase)):Option Bool:=
  (G6 p1).bind fun v1=>some (decide (v1≥0))
theorem T7 (p1:(List Phase)):Le (G2 p1) (B5 p1):=by
  unfold G2 B5
  repeat' first|with_reducible exact Le.refl _|with_reducible exact V6 _|with_reducible refine Le.bind ?_ fun _=> ?_|with_reducible refine Le.cond ?_ ?_|with_reducible refine Le.ite ?_ ?_|with_reducible refine Le.thenS ?_ (fun _=> ?_) (fun _=> ?_)|with_reducible refine Le.loop (fun _=> ?_) _|with_reducible refine Le.loopL (fun _ _=> ?_) _ _|exact Le.refl _
def A0h (p1:Phase)(p2:RoadsCheck):Option Bool:=
  (A3o p1.Green 0 (p2.Map_.Lanes.length:Int)).bind fun v1=>some (!v1)
theorem A6i (p1:Phase)(p2:RoadsCheck):Le (A0h p1 p2) (M7 p1 p2):=by
  unfold A0h M7
  repeat' first|with_reducible exact Le.refl _|with_reducible exact A68 _ _ _|with_reducible refine Le.bind ?_ fun _=> ?_|with_reducible refine Le.cond ?_ ?_|with_reducible refine Le.ite ?_ ?_|with_reducible refine Le.thenS ?_ (fun _=> ?_) (fun _=> ?_)|with_reducible refine Le.loop (fun _=> ?_) _|with_reducible refine Le.loopL (fun _ _=> ?_) _ _|exact Le.refl _
def F9 (p1:(List Phase))(p2:RoadsCheck)(x1:Int):Option (Stp Int (Sum Unit Int)):=
  cond (decide (x1< (p1.length:Int))) ((F0 p1 x1).bind fun v1=>(A0h v1 p2).bind fun v2=>cond v2 (some (.out (.inr x1))) (some (.go (w64 (x1+1))))) (some (.out (.inl ())))
theorem T1 (p1:(List Phase))(p2:RoadsCheck)(x1:Int):Le (F9 p1 p2 x1) (B2 p1 p2 x1):=by
  unfold F9 B2
  repeat' first|with_reducible exact Le.refl _|with_reducible exact A6i _ _|with_reducible refine Le.bind ?_ fun _=> ?_|with_reducible refine Le.cond ?_ ?_|with_reducible refine Le.ite ?_ ?_|with_reducible refine Le.thenS ?_ (fun _=> ?_) (fun _=> ?_)|with_reducible refine Le.loop (fun _=> ?_) _|with_reducible refine Le.loopL (fun _ _=> ?_) _ _|exact Le.refl _
def G5 (p1:(List Phase))(p2:RoadsCheck):Option Int:=
  thenS (A05 (F9 p1 p2) 0) (fun _=>some (-1)) (fun r=>some r)
theorem V0 (p1:(List Phase))(p2:RoadsCheck):Le (G5 p1 p2) (C2 p1 p2):=by
  unfold G5 C2
  repeat' first|with_reducible exact Le.refl _|with_reducible exact T1 _ _ _|with_reducible refine Le.bind ?_ fun _=> ?_|with_reducible refine Le.cond ?_ ?_|with_reducible refine Le.ite ?_ ?_|with_reducible refine Le.thenS ?_ (fun _=> ?_) (fun _=> ?_)|with_reducible refine Le.loop (fun _=> ?_) _|with_reducible refine Le.loopL (fun _ _=> ?_) _ _|exact Le.refl _
def G0 (p1:(List Phase))(p2:RoadsCheck):Option Bool:=
  (G5 p1 p2).bind fun v1=>some (decide (v1≥0))
theorem T3 (p1:(List Phase))(p2:RoadsCheck):Le (G0 p1 p2) (B3 p1 p2):=by
  unfold G0 B3
  repeat' first|with_reducible exact Le.refl _|with_reducible exact V0 _ _|with_reducible refine Le.bind ?_ fun _=> ?_|with_reducible refine Le.cond ?_ ?_|with_reducible refine Le.ite ?_ ?_|with_reducible refine Le.thenS ?_ (fun _=> ?_) (fun _=> ?_)|with_reducible refine Le.loop (fun _=> ?_) _|with_reducible refine Le.loopL (fun _ _=> ?_) _ _|exact Le.refl _
def A0v (p1:RoadsCheck)(x1:Int):Option (Stp Int (Sum Unit Int)):=
  cond (decide (x1< (p1.Map_.Signals.length:Int))) ((F0 p1.Map_.Signals x1).bind fun v1=>cond ((v1.Phases.length:Int)==0) (some (.out (.inr 6))) (cond (decide ((v1.Phases.length:Int)>6)) (some (.out (.inr 8))) ((O9 v1.Offset 0 1099511627776).bind fun v2=>cond (!v2) (some (.out (.inr 2))) ((G2 v1.Phases).bind fun v3=>cond v3 (some (.out (.inr 2))) ((G0 v1.Phases p1).bind fun v4=>cond v4 (some (.out (.inr 11))) (some (.go (w64 (x1+1))))))))) (some (.out (.inl ())))
theorem A6z (p1:RoadsCheck)(x1:Int):Le (A0v p1 x1) (I8 p1 x1):=by
  unfold A0v I8
  repeat' first|with_reducible exact Le.refl _|with_reducible exact T0 _ _ _|with_reducible exact T7 _|with_reducible exact T3 _ _|with_reducible refine Le.bind ?_ fun _=> ?_|with_reducible refine Le.cond ?_ ?_|with_reducible refine Le.ite ?_ ?_|with_reducible refine Le.thenS ?_ (fun _=> ?_) (fun _=> ?_)|with_reducible refine Le.loop (fun _=> ?_) _|with_reducible refine Le.loopL (fun _ _=> ?_) _ _|exact Le.refl _
def A2j (p1:RoadsCheck):Option Int:=
  thenS (A05 (A0v p1) 0) (fun _=>some 0) (fun r=>some r)
theorem A8q (p1:RoadsCheck):Le (A2j p1) (M4 p1):=by
  unfold A2j M4
  repeat' first|with_reducible exact Le.refl _|with_reducible exact A6z _ _|with_reducible refine Le.bind ?_ fun _=> ?_|with_reducible refine Le.cond ?_ ?_|with_reducible refine Le.ite ?_ ?_|with_reducible refine Le.thenS ?_ (fun _=> ?_) (fun _=> ?_)|with_reducible refine Le.loop (fun _=> ?_) _|with_reducible refine Le.loopL (fun _ _=> ?_) _ _|exact Le.refl _
def B23 (pts:List Spot):Nat→Nat→Int→Option (List (Int×CurvePiece))
  |0,_,_=>some []
  |n+1,i,start=>(pts[i]?).bind fun p=>(pts[i+1]?).bind fun q=>(A7z p q).bind fun v=>(A0g v v).bind fun d=>(A80 d).bind fun r=>
   (B23 pts n (i+1) (w64 (start+r.1))).bind fun l=>some (((i:Int),CurvePiece.mk p v r.1 start)::l)
theorem B5b (pts:List Spot): ∀(n i:Nat) (s:Int),Le (B23 pts n i s) (A3j pts n i s)
  |0,i,s=>Le.refl _
  |n+1,i,s=>by
   rw [A3j,B23]
   exact Le.bind (Le.refl _) fun _=>Le.bind (Le.refl _) fun _=>Le.bind (B20 _ _) fun _=>Le.bind (A66 _ _) fun _=>Le.bind (B21 _) fun _=>Le.bind (B5b pts n _ _) fun _=>Le.refl _
def B89 (pts:List Spot):Option (List (Int×CurvePiece)):=if pts.length≤1000000 then B23 pts (pts.length - 1) 0 0 else none
theorem C3l (pts:List Spot):Le (B89 pts) (B11 pts):=by
  unfold B89 B11
  repeat' first|with_reducible exact Le.refl _|with_reducible exact B5b _ _ _ _|with_reducible refine Le.bind ?_ fun _=> ?_|with_reducible refine Le.cond ?_ ?_|with_reducible refine Le.ite ?_ ?_|with_reducible refine Le.thenS ?_ (fun _=> ?_) (fun _=> ?_)|with_reducible refine Le.loop (fun _=> ?_) _|with_reducible refine Le.loopL (fun _ _=> ?_) _ _|exact Le.refl _
def A56 (x1:(List Int))(a1:(Int×CurvePiece)):Option (Stp (List Int) (List Int)):=
  (A7b x1 [a1.2.l]).bind fun v3=>some (.go v3)
theorem B24 (x1:(List Int))(a1:(Int×CurvePiece)):Le (A56 x1 a1) (S5 x1 a1):=by
  unfold A56 S5
  repeat' first|with_reducible exact Le.refl _|with_reducible refine Le.bind ?_ fun _=> ?_|with_reducible refine Le.cond ?_ ?_|with_reducible refine Le.ite ?_ ?_|with_reducible refine Le.thenS ?_ (fun _=> ?_) (fun _=> ?_)|with_reducible refine Le.loop (fun _=> ?_) _|with_reducible refine Le.loopL (fun _ _=> ?_) _ _|exact Le.refl _
def A82 (p1:Curve):Option (List Int):=
  (A6s p1).bind fun v1=>cond (v1 !=0) (some []) (((B89 p1.Pts).bind fun v2=>loopL (A56) (fun (x1:(List Int))=>x1) v2 []).bind fun y1=>some y1)
theorem B5c (p1:Curve):Le (A82 p1) (A1h p1):=by
  unfold A82 A1h
  repeat' first|with_reducible exact Le.refl _|with_reducible exact B0l _|with_reducible exact C3l _|with_reducible exact B24 _ _|with_reducible refine Le.bind ?_ fun _=> ?_|with_reducible refine Le.cond ?_ ?_|with_reducible refine Le.ite ?_ ?_|with_reducible refine Le.thenS ?_ (fun _=> ?_) (fun _=> ?_)|with_reducible refine Le.loop (fun _=> ?_) _|with_reducible refine Le.loopL (fun _ _=> ?_) _ _|exact Le.refl _
def A57 (v1:(List Int))(x1:(Int×Int)):Option (Stp (Int×Int) Int):=
  cond (decide (x1.2< (v1.length:Int))) ((F0 v1 x1.2).bind fun v2=>some (.go ((w64 (x1.1+v2)),(w64 (x1.2+1))))) (some (.out x1.1))
theorem B25 (v1:(List Int))(x1:(Int×Int)):Le (A57 v1 x1) (O0 v1 x1):=by
  unfold A57 O0
  repeat' first|with_reducible exact Le.refl _|with_reducible refine Le.bind ?_ fun _=> ?_|with_reducible refine Le.cond ?_ ?_|with_reducible refine Le.ite ?_ ?_|with_reducible refine Le.thenS ?_ (fun _=> ?_) (fun _=> ?_)|with_reducible refine Le.loop (fun _=> ?_) _|with_reducible refine Le.loopL (fun _ _=> ?_) _ _|exact Le.refl _
def A83 (p1:Curve):Option Int:=
  (A82 p1).bind fun v1=>(A05 (A57 v1) (0,0)).bind fun y1=>some y1
theorem B5d (p1:Curve):Le (A83 p1) (A1i p1):=by
  unfold A83 A1i
  repeat' first|with_reducible exact Le.refl _|with_reducible exact B5c _|with_reducible exact B25 _ _|with_reducible refine Le.bind ?_ fun _=> ?_|with_reducible refine Le.cond ?_ ?_|with_reducible refine Le.ite ?_ ?_|with_reducible refine Le.thenS ?_ (fun _=> ?_) (fun _=> ?_)|with_reducible refine Le.loop (fun _=> ?_) _|with_reducible refine Le.loopL (fun _ _=> ?_) _ _|exact Le.refl _
def A1y (p1:Map)(p2:Int):Option Int:=
  (F0 p1.Lanes p2).bind fun v1=>(A83 v1.Curve_).bind fun v2=>some v2
theorem A2e (p1:Map)(p2:Int):Le (A1y p1 p2) (W5 p1 p2):=by
  unfold A1y W5
  repeat' first|with_reducible exact Le.refl _|with_reducible exact B5d _|with_reducible refine Le.bind ?_ fun _=> ?_|with_reducible refine Le.cond ?_ ?_|with_reducible refine Le.ite ?_ ?_|with_reducible refine Le.thenS ?_ (fun _=> ?_) (fun _=> ?_)|with_reducible refine Le.loop (fun _=> ?_) _|with_reducible refine Le.loopL (fun _ _=> ?_) _ _|exact Le.refl _
def A1z (p1:RoadsCheck)(v1:Zone)(x3:Int):Option (Stp Int (Sum Unit Int)):=
  cond (decide (x3< (v1.Parts.length:Int))) ((F0 v1.Parts x3).bind fun v5=>((cond (!((decide (v5.From<0))||(decide (v5.From≥v5.To)))) (A1y p1.Map_ v5.Lane_) (some default))).bind fun v6=>cond (((((decide (v5.From<0))||(decide (v5.From≥v5.To)))||(decide (v5.To>v6)))||(decide (v5.Rank<0)))||(decide (v5.Rank>100))) (some (.out (.inr 2))) (some (.go (w64 (x3+1))))) (some (.out (.inl ())))
theorem A84 (p1:RoadsCheck)(v1:Zone)(x3:Int):Le (A1z p1 v1 x3) (K5 p1 v1 x3):=by
  unfold A1z K5
  repeat' first|with_reducible exact Le.refl _|with_reducible exact A2e _ _|with_reducible refine Le.bind ?_ fun _=> ?_|with_reducible refine Le.cond ?_ ?_|with_reducible refine Le.ite ?_ ?_|with_reducible refine Le.thenS ?_ (fun _=> ?_) (fun _=> ?_)|with_reducible refine Le.loop (fun _=> ?_) _|with_reducible refine Le.loopL (fun _ _=> ?_) _ _|exact Le.refl _
def A20 (v1:Zone)(x2:((List Int)×Int)):Option (Stp ((List Int)×Int) (List Int)):=
  cond (decide (x2.2< (v1.Parts.length:Int))) ((F0 v1.Parts x2.2).bind fun v2=>(A7b x2.1 [v2.Lane_]).bind fun v3=>some (.go (v3,(w64 (x2.2+1))))) (some (.out x2.1))
theorem A85 (v1:Zone)(x2:((List Int)×Int)):Le (A20 v1 x2) (Q5 v1 x2):=by
  unfold A20 Q5
  repeat' first|with_reducible exact Le.refl _|with_reducible refine Le.bind ?_ fun _=> ?_|with_reducible refine Le.cond ?_ ?_|with_reducible refine Le.ite ?_ ?_|with_reducible refine Le.thenS ?_ (fun _=> ?_) (fun _=> ?_)|with_reducible refine Le.loop (fun _=> ?_) _|with_reducible refine Le.loopL (fun _ _=> ?_) _ _|exact Le.refl _
def A21 (p1:RoadsCheck)(x1:Int):Option (Stp Int (Sum Unit Int)):=
  cond (decide (x1< (p1.Map_.Zones.length:Int))) ((F0 p1.Map_.Zones x1).bind fun v1=>cond (decide ((v1.Parts.length:Int)<2)) (some (.out (.inr 6))) (cond (decide ((v1.Parts.length:Int)>6)) (some (.out (.inr 8))) (cond ((decide (v1.Signal_<0))||(decide (v1.Signal_>(p1.Map_.Signals.length:Int)))) (some (.out (.inr 2))) ((A05 (A20 v1) ([],0)).bind fun y2=>(A3o y2 0 (p1.Map_.Lanes.length:Int)).bind fun v4=>cond (!v4) (some (.out (.inr 11))) (thenS (A05 (A1z p1 v1) 0) (fun _=>some (.go (w64 (x1+1)))) (fun r=>some (.out (.inr r)))))))) (some (.out (.inl ())))
theorem A86 (p1:RoadsCheck)(x1:Int):Le (A21 p1 x1) (K6 p1 x1):=by
  unfold A21 K6
  repeat' first|with_reducible exact Le.refl _|with_reducible exact A85 _ _|with_reducible exact A68 _ _ _|with_reducible exact A84 _ _ _|with_reducible refine Le.bind ?_ fun _=> ?_|with_reducible refine Le.cond ?_ ?_|with_reducible refine Le.ite ?_ ?_|with_reducible refine Le.thenS ?_ (fun _=> ?_) (fun _=> ?_)|with_reducible refine Le.loop (fun _=> ?_) _|with_reducible refine Le.loopL (fun _ _=> ?_) _ _|exact Le.refl _
def A3q (p1:RoadsCheck):Option Int:=
  thenS (A05 (A21 p1) 0) (fun _=>some 0) (fun r=>some r)
theorem B05 (p1:RoadsCheck):Le (A3q p1) (P6 p1):=by
  unfold A3q P6
  repeat' first|with_reducible exact Le.refl _|with_reducible exact A86 _ _|with_reducible refine Le.bind ?_ fun _=> ?_|with_reducible refine Le.cond ?_ ?_|with_reducible refine Le.ite ?_ ?_|with_reducible refine Le.thenS ?_ (fun _=> ?_) (fun _=> ?_)|with_reducible refine Le.loop (fun _=> ?_) _|with_reducible refine Le.loopL (fun _ _=> ?_) _ _|exact Le.refl _
def A22 (p1:RoadsCheck)(x1:Int):Option (Stp Int (Sum Unit Int)):=
  cond (decide (x1< (p1.Map_.Works.length:Int))) ((F0 p1.Map_.Works x1).bind fun v1=>cond ((decide (v1.Lane_<0))||(decide (v1.Lane_≥(p1.Map_.Lanes.length:Int)))) (some (.out (.inr 7))) ((F0 p1.Map_.Lanes v1.Lane_).bind fun v2=>(A5l v2.Kind).bind fun v3=>((cond (!((decide (v1.From<0))||(decide (v1.From>v1.To)))) (A1y p1.Map_ v1.Lane_) (some default))).bind fun v4=>((cond (!((((((decide (v1.From<0))||(decide (v1.From>v1.To)))||(decide (v1.To>v4)))||(decide (v1.Begin<0)))||(decide (v1.Begin≥v1.End)))||(decide (v1.End>1099511627776)))) (O9 v1.Limit 0 v3.1) (some default))).bind fun v5=>cond (((((((decide (v1.From<0))||(decide (v1.From>v1.To)))||(decide (v1.To>v4)))||(decide (v1.Begin<0)))||(decide (v1.Begin≥v1.End)))||(decide (v1.End>1099511627776)))||(!v5)) (some (.out (.inr 2))) (some (.go (w64 (x1+1)))))) (some (.out (.inl ())))
theorem A87 (p1:RoadsCheck)(x1:Int):Le (A22 p1 x1) (K7 p1 x1):=by
  unfold A22 K7
  repeat' first|with_reducible exact Le.refl _|with_reducible exact A9c _|with_reducible exact A2e _ _|with_reducible exact T0 _ _ _|with_reducible refine Le.bind ?_ fun _=> ?_|with_reducible refine Le.cond ?_ ?_|with_reducible refine Le.ite ?_ ?_|with_reducible refine Le.thenS ?_ (fun _=> ?_) (fun _=> ?_)|with_reducible refine Le.loop (fun _=> ?_) _|with_reducible refine Le.loopL (fun _ _=> ?_) _ _|exact Le.refl _
def A3r (p1:RoadsCheck):Option Int:=
  thenS (A05 (A22 p1) 0) (fun _=>some 0) (fun r=>some r)
theorem B06 (p1:RoadsCheck):Le (A3r p1) (P7 p1):=by
  unfold A3r P7
  repeat' first|with_reducible exact Le.refl _|with_reducible exact A87 _ _|with_reducible refine Le.bind ?_ fun _=> ?_|with_reducible refine Le.cond ?_ ?_|with_reducible refine Le.ite ?_ ?_|with_reducible refine Le.thenS ?_ (fun _=> ?_) (fun _=> ?_)|with_reducible refine Le.loop (fun _=> ?_) _|with_reducible refine Le.loopL (fun _ _=> ?_) _ _|exact Le.refl _
def X0 (v:Nat)(p1:RoadsCheck):Option Int:=
  cond (Nat.beq v 65) (A2i p1) (cond (Nat.beq v 66) (A3p p1) (cond (Nat.beq v 67) (A2z p1) (cond (Nat.beq v 68) (A2j p1) (cond (Nat.beq v 69) (A3q p1) (cond (Nat.beq v 70) (A3r p1) (none))))))
theorem A58 (v:Nat)(p1:RoadsCheck):Le (X0 v p1) (N0 v p1):=by
  unfold X0 N0
  repeat' first|with_reducible exact Le.refl _|with_reducible exact A8p _|with_reducible exact B04 _|with_reducible exact A9d _|with_reducible exact A8q _|with_reducible exact B05 _|with_reducible exact B06 _|with_reducible refine Le.bind ?_ fun _=> ?_|with_reducible refine Le.cond ?_ ?_|with_reducible refine Le.ite ?_ ?_|with_reducible refine Le.thenS ?_ (fun _=> ?_) (fun _=> ?_)|with_reducible refine Le.loop (fun _=> ?_) _|with_reducible refine Le.loopL (fun _ _=> ?_) _ _|exact Le.refl _
def A69 (p1:Map)(x1:Int):Option (Stp Int (Sum Unit Int)):=
  cond (decide (x1< ([65,66,67,68,69,70].length:Int))) ((F0 [65,66,67,68,69,70] x1).bind fun v1=>(X0 v1 (RoadsCheck.mk p1)).bind fun v2=>cond (v2 !=0) (some (.out (.inr v2))) (some (.go (w64 (x1+1))))) (some (.out (.inl ())))
theorem B2v (p1:Map)(x1:Int):Le (A69 p1 x1) (H9 p1 x1):=by
  unfold A69 H9
  repeat' first|with_reducible exact Le.refl _|with_reducible exact A58 _ _|with_reducible refine Le.bind ?_ fun _=> ?_|with_reducible refine Le.cond ?_ ?_|with_reducible refine Le.ite ?_ ?_|with_reducible refine Le.thenS ?_ (fun _=> ?_) (fun _=> ?_)|with_reducible refine Le.loop (fun _=> ?_) _|with_reducible refine Le.loopL (fun _ _=> ?_) _ _|exact Le.refl _
def A38 (p1:Map):Option Int:=
  thenS (A05 (A69 p1) 0) (fun _=>some 0) (fun r=>some r)
theorem A4g (p1:Map):Le (A38 p1) (Z7 p1):=by
  unfold A38 Z7
  repeat' first|with_reducible exact Le.refl _|with_reducible exact B2v _ _|with_reducible refine Le.bind ?_ fun _=> ?_|with_reducible refine Le.cond ?_ ?_|with_reducible refine Le.ite ?_ ?_|with_reducible refine Le.thenS ?_ (fun _=> ?_) (fun _=> ?_)|with_reducible refine Le.loop (fun _=> ?_) _|with_reducible refine Le.loopL (fun _ _=> ?_) _ _|exact Le.refl _
def A0i (p1:(List Int))(p2:Int)(x1:Int):Option (Stp Int (Sum Unit Int)):=
  cond (decide (x1< (p1.length:Int))) ((F0 p1 x1).bind fun v1=>cond (p2==v1) (some (.out (.inr x1))) (some (.go (w64 (x1+1))))) (some (.out (.inl ())))
theorem A6j (p1:(List Int))(p2:Int)(x1:Int):Le (A0i p1 p2 x1) (J9 p1 p2 x1):=by
  unfold A0i J9
  repeat' first|with_reducible exact Le.refl _|with_reducible refine Le.bind ?_ fun _=> ?_|with_reducible refine Le.cond ?_ ?_|with_reducible refine Le.ite ?_ ?_|with_reducible refine Le.thenS ?_ (fun _=> ?_) (fun _=> ?_)|with_reducible refine Le.loop (fun _=> ?_) _|with_reducible refine Le.loopL (fun _ _=> ?_) _ _|exact Le.refl _
def A23 (p1:(List Int))(p2:Int):Option Int:=
  thenS (A05 (A0i p1 p2) 0) (fun _=>some (-1)) (fun r=>some r)
theorem A88 (p1:(List Int))(p2:Int):Le (A23 p1 p2) (Q6 p1 p2):=by
  unfold A23 Q6
  repeat' first|with_reducible exact Le.refl _|with_reducible exact A6j _ _ _|with_reducible refine Le.bind ?_ fun _=> ?_|with_reducible refine Le.cond ?_ ?_|with_reducible refine Le.ite ?_ ?_|with_reducible refine Le.thenS ?_ (fun _=> ?_) (fun _=> ?_)|with_reducible refine Le.loop (fun _=> ?_) _|with_reducible refine Le.loopL (fun _ _=> ?_) _ _|exact Le.refl _
def L8 (p1:(List Int))(p2:Int):Option Bool:=
  (A23 p1 p2).bind fun v1=>some (decide (v1≥0))
theorem Y2 (p1:(List Int))(p2:Int):Le (L8 p1 p2) (E7 p1 p2):=by
  unfold L8 E7
  repeat' first|with_reducible exact Le.refl _|with_reducible exact A88 _ _|with_reducible refine Le.bind ?_ fun _=> ?_|with_reducible refine Le.cond ?_ ?_|with_reducible refine Le.ite ?_ ?_|with_reducible refine Le.thenS ?_ (fun _=> ?_) (fun _=> ?_)|with_reducible refine Le.loop (fun _=> ?_) _|with_reducible refine Le.loopL (fun _ _=> ?_) _ _|exact Le.refl _
def A59 (p1:Map)(p2:Int)(x1:((List Int)×Int)):Option (Stp ((List Int)×Int) (List Int)):=
  cond (decide (x1.2< (p1.Lanes.length:Int))) ((F0 p1.Lanes x1.2).bind fun v1=>(L8 v1.Next p2).bind fun v2=>cond v2 ((A7b x1.1 [x1.2]).bind fun v3=>some (.go (v3,(w64 (x1.2+1))))) (some (.go (x1.1,(w64 (x1.2+1)))))) (some (.out x1.1))
theorem B26 (p1:Map)(p2:Int)(x1:((List Int)×Int)):Le (A59 p1 p2 x1) (A1j p1 p2 x1):=by
  unfold A59 A1j
  repeat' first|with_reducible exact Le.refl _|with_reducible exact Y2 _ _|with_reducible refine Le.bind ?_ fun _=> ?_|with_reducible refine Le.cond ?_ ?_|with_reducible refine Le.ite ?_ ?_|with_reducible refine Le.thenS ?_ (fun _=> ?_) (fun _=> ?_)|with_reducible refine Le.loop (fun _=> ?_) _|with_reducible refine Le.loopL (fun _ _=> ?_) _ _|exact Le.refl _
def A3s (p1:Map)(p2:Int):Option (List Int):=
  (A05 (A59 p1 p2) ([],0)).bind fun y1=>some y1
theorem A6a (p1:Map)(p2:Int):Le (A3s p1 p2) (A1k p1 p2):=by
  unfold A3s A1k
  repeat' first|with_reducible exact Le.refl _|with_reducible exact B26 _ _ _|with_reducible refine Le.bind ?_ fun _=> ?_|with_reducible refine Le.cond ?_ ?_|with_reducible refine Le.ite ?_ ?_|with_reducible refine Le.thenS ?_ (fun _=> ?_) (fun _=> ?_)|with_reducible refine Le.loop (fun _=> ?_) _|with_reducible refine Le.loopL (fun _ _=> ?_) _ _|exact Le.refl _
def A2k (p1:Map)(v7:List Int)(x1:(Int×Int)):Option (Stp (Int×Int) (Sum Unit Int)):=
  cond (decide (x1.2< (v7.length:Int))) ((F0 v7 x1.2).bind fun v8=>(F0 p1.Lanes x1.1).bind fun v9=>(L8 v9.Next v8).bind fun v10=>cond (!v10) (some (.out (.inr 13))) (some (.go (v8,(w64 (x1.2+1)))))) (some (.out (.inl ())))
theorem A8r (p1:Map)(v7:List Int)(x1:(Int×Int)):Le (A2k p1 v7 x1) (W8 p1 v7 x1):=by
  unfold A2k W8
  repeat' first|with_reducible exact Le.refl _|with_reducible exact Y2 _ _|with_reducible refine Le.bind ?_ fun _=> ?_|with_reducible refine Le.cond ?_ ?_|with_reducible refine Le.ite ?_ ?_|with_reducible refine Le.thenS ?_ (fun _=> ?_) (fun _=> ?_)|with_reducible refine Le.loop (fun _=> ?_) _|with_reducible refine Le.loopL (fun _ _=> ?_) _ _|exact Le.refl _
def A46 (p1:Map)(p2:(List Int)):Option Int:=
  (A38 p1).bind fun v1=>cond (v1 !=0) (some v1) (((cond (!(((p2.length:Int)==0)||(decide ((p2.length:Int)>8)))) (F0 p2 0) (some default))).bind fun v2=>((cond (!((((p2.length:Int)==0)||(decide ((p2.length:Int)>8)))||(decide (v2<0)))) (F0 p2 0) (some default))).bind fun v3=>((cond (!(((((p2.length:Int)==0)||(decide ((p2.length:Int)>8)))||(decide (v2<0)))||(decide (v3≥(p1.Lanes.length:Int))))) (F0 p2 0) (some default))).bind fun v4=>((cond (!(((((p2.length:Int)==0)||(decide ((p2.length:Int)>8)))||(decide (v2<0)))||(decide (v3≥(p1.Lanes.length:Int))))) (A3s p1 v4) (some default))).bind fun v5=>cond ((((((p2.length:Int)==0)||(decide ((p2.length:Int)>8)))||(decide (v2<0)))||(decide (v3≥(p1.Lanes.length:Int))))||(decide ((v5.length:Int)>0))) (some 13) ((F0 p2 0).bind fun v6=>(B71 p2 1 (p2.length:Int)).bind fun v7=>thenS (A05 (A2k p1 v7) (v6,0)) (fun _=>some 0) (fun r=>some r)))
theorem B14 (p1:Map)(p2:(List Int)):Le (A46 p1 p2) (A10 p1 p2):=by
  unfold A46 A10
  repeat' first|with_reducible exact Le.refl _|with_reducible exact A4g _|with_reducible exact A6a _ _|with_reducible exact A8r _ _ _|with_reducible refine Le.bind ?_ fun _=> ?_|with_reducible refine Le.cond ?_ ?_|with_reducible refine Le.ite ?_ ?_|with_reducible refine Le.thenS ?_ (fun _=> ?_) (fun _=> ?_)|with_reducible refine Le.loop (fun _=> ?_) _|with_reducible refine Le.loopL (fun _ _=> ?_) _ _|exact Le.refl _
def A5a (p1:Map)(p2:(List Int))(x1:(Int×RoadsWay)):Option (Stp (Int×RoadsWay) RoadsWay):=
  cond (decide (x1.1< (p2.length:Int))) ((F0 p2 x1.1).bind fun v2=>(A7b x1.2.starts [x1.2.length]).bind fun v3=>(A1y p1 v2).bind fun v4=>some (.go ((w64 (x1.1+1)),(RoadsWay.mk x1.2.Map_ x1.2.lanes v3 (w64 (x1.2.length+v4)))))) (some (.out x1.2))
theorem B27 (p1:Map)(p2:(List Int))(x1:(Int×RoadsWay)):Le (A5a p1 p2 x1) (A1l p1 p2 x1):=by
  unfold A5a A1l
  repeat' first|with_reducible exact Le.refl _|with_reducible exact A2e _ _|with_reducible refine Le.bind ?_ fun _=> ?_|with_reducible refine Le.cond ?_ ?_|with_reducible refine Le.ite ?_ ?_|with_reducible refine Le.thenS ?_ (fun _=> ?_) (fun _=> ?_)|with_reducible refine Le.loop (fun _=> ?_) _|with_reducible refine Le.loopL (fun _ _=> ?_) _ _|exact Le.refl _
def A89 (p1:Map)(p2:(List Int)):Option RoadsWay:=
  (A46 p1 p2).bind fun v1=>cond (v1 !=0) (some (RoadsWay.mk (Map.mk 0 [] [] [] []) [] [] 0)) ((A05 (A5a p1 p2) (0,(RoadsWay.mk p1 p2 [] 0))).bind fun y1=>some y1)
theorem B5e (p1:Map)(p2:(List Int)):Le (A89 p1 p2) (A4p p1 p2):=by
  unfold A89 A4p
  repeat' first|with_reducible exact Le.refl _|with_reducible exact B14 _ _|with_reducible exact B27 _ _ _|with_reducible refine Le.bind ?_ fun _=> ?_|with_reducible refine Le.cond ?_ ?_|with_reducible refine Le.ite ?_ ?_|with_reducible refine Le.thenS ?_ (fun _=> ?_) (fun _=> ?_)|with_reducible refine Le.loop (fun _=> ?_) _|with_reducible refine Le.loopL (fun _ _=> ?_) _ _|exact Le.refl _
def A6b (p3:Int)(v1:RoadsWay)(x1:Int):Option (Stp Int Int):=
  (F0 v1.starts x1).bind fun v3=>cond (decide (v3>p3)) (some (.go (w64 (x1 - 1)))) (some (.out x1))
theorem B2w (p3:Int)(v1:RoadsWay)(x1:Int):Le (A6b p3 v1 x1) (A2m p3 v1 x1):=by
  unfold A6b A2m
  repeat' first|with_reducible exact Le.refl _|with_reducible refine Le.bind ?_ fun _=> ?_|with_reducible refine Le.cond ?_ ?_|with_reducible refine Le.ite ?_ ?_|with_reducible refine Le.thenS ?_ (fun _=> ?_) (fun _=> ?_)|with_reducible refine Le.loop (fun _=> ?_) _|with_reducible refine Le.loopL (fun _ _=> ?_) _ _|exact Le.refl _
def A9e (p1:Map)(p2:(List Int))(p3:Int):Option (Int×Int×Bool):=
  (A89 p1 p2).bind fun v1=>((cond (!((v1.lanes.length:Int)==0)) (O9 p3 0 v1.length) (some default))).bind fun v2=>cond (((v1.lanes.length:Int)==0)||(!v2)) (some (0,0,false)) ((A05 (A6b p3 v1) (w64 ((v1.lanes.length:Int) - 1))).bind fun y1=>(F0 v1.lanes y1).bind fun v4=>(F0 v1.starts y1).bind fun v5=>some (v4,(w64 (p3 - v5)),true))
theorem B6g (p1:Map)(p2:(List Int))(p3:Int):Le (A9e p1 p2 p3) (A5v p1 p2 p3):=by
  unfold A9e A5v
  repeat' first|with_reducible exact Le.refl _|with_reducible exact B5e _ _|with_reducible exact T0 _ _ _|with_reducible exact B2w _ _ _|with_reducible refine Le.bind ?_ fun _=> ?_|with_reducible refine Le.cond ?_ ?_|with_reducible refine Le.ite ?_ ?_|with_reducible refine Le.thenS ?_ (fun _=> ?_) (fun _=> ?_)|with_reducible refine Le.loop (fun _=> ?_) _|with_reducible refine Le.loopL (fun _ _=> ?_) _ _|exact Le.refl _
def A6c (p1:Part)(p2:Int):Option Bool:=
  some (p1.Lane_==p2)
theorem B2x (p1:Part)(p2:Int):Le (A6c p1 p2) (A2n p1 p2):=by
  unfold A6c A2n
  repeat' first|with_reducible exact Le.refl _|with_reducible refine Le.bind ?_ fun _=> ?_|with_reducible refine Le.cond ?_ ?_|with_reducible refine Le.ite ?_ ?_|with_reducible refine Le.thenS ?_ (fun _=> ?_) (fun _=> ?_)|with_reducible refine Le.loop (fun _=> ?_) _|with_reducible refine Le.loopL (fun _ _=> ?_) _ _|exact Le.refl _
def J1 (p1:(List Part))(p2:Int)(x1:Int):Option (Stp Int (Sum Unit Int)):=
  cond (decide (x1< (p1.length:Int))) ((F0 p1 x1).bind fun v1=>(A6c v1 p2).bind fun v2=>cond v2 (some (.out (.inr x1))) (some (.go (w64 (x1+1))))) (some (.out (.inl ())))
theorem A07 (p1:(List Part))(p2:Int)(x1:Int):Le (J1 p1 p2 x1) (E8 p1 p2 x1):=by
  unfold J1 E8
  repeat' first|with_reducible exact Le.refl _|with_reducible exact B2x _ _|with_reducible refine Le.bind ?_ fun _=> ?_|with_reducible refine Le.cond ?_ ?_|with_reducible refine Le.ite ?_ ?_|with_reducible refine Le.thenS ?_ (fun _=> ?_) (fun _=> ?_)|with_reducible refine Le.loop (fun _=> ?_) _|with_reducible refine Le.loopL (fun _ _=> ?_) _ _|exact Le.refl _
def K8 (p1:(List Part))(p2:Int):Option Int:=
  thenS (A05 (J1 p1 p2) 0) (fun _=>some (-1)) (fun r=>some r)
theorem A0w (p1:(List Part))(p2:Int):Le (K8 p1 p2) (F5 p1 p2):=by
  unfold K8 F5
  repeat' first|with_reducible exact Le.refl _|with_reducible exact A07 _ _ _|with_reducible refine Le.bind ?_ fun _=> ?_|with_reducible refine Le.cond ?_ ?_|with_reducible refine Le.ite ?_ ?_|with_reducible refine Le.thenS ?_ (fun _=> ?_) (fun _=> ?_)|with_reducible refine Le.loop (fun _=> ?_) _|with_reducible refine Le.loopL (fun _ _=> ?_) _ _|exact Le.refl _
def A47 (p1:Zone)(p2:Int):Option (Part×Bool):=
  (K8 p1.Parts p2).bind fun v1=>cond (decide (v1<0)) (some ((Part.mk 0 0 0 0),false)) ((F0 p1.Parts v1).bind fun v2=>some (v2,true))
theorem A8a (p1:Zone)(p2:Int):Le (A47 p1 p2) (A34 p1 p2):=by
  unfold A47 A34
  repeat' first|with_reducible exact Le.refl _|with_reducible exact A0w _ _|with_reducible refine Le.bind ?_ fun _=> ?_|with_reducible refine Le.cond ?_ ?_|with_reducible refine Le.ite ?_ ?_|with_reducible refine Le.thenS ?_ (fun _=> ?_) (fun _=> ?_)|with_reducible refine Le.loop (fun _=> ?_) _|with_reducible refine Le.loopL (fun _ _=> ?_) _ _|exact Le.refl _
def A5b (p1:Map)(p2:Zone)(v2:(List Int))(x1:Int):Option (Stp Int (Sum Unit Bool)):=
  cond (decide (x1< (v2.length:Int))) ((F0 v2 x1).bind fun v3=>(A47 p2 v3).bind fun v4=>((cond (!(!v4.2)) (A1y p1 v3) (some default))).bind fun v5=>cond ((!v4.2)||(v4.1.To !=v5)) (some (.out (.inr false))) (some (.go (w64 (x1+1))))) (some (.out (.inl ())))
theorem B28 (p1:Map)(p2:Zone)(v2:(List Int))(x1:Int):Le (A5b p1 p2 v2 x1) (A1m p1 p2 v2 x1):=by
  unfold A5b A1m
  repeat' first|with_reducible exact Le.refl _|with_reducible exact A8a _ _|with_reducible exact A2e _ _|with_reducible refine Le.bind ?_ fun _=> ?_|with_reducible refine Le.cond ?_ ?_|with_reducible refine Le.ite ?_ ?_|with_reducible refine Le.thenS ?_ (fun _=> ?_) (fun _=> ?_)|with_reducible refine Le.loop (fun _=> ?_) _|with_reducible refine Le.loopL (fun _ _=> ?_) _ _|exact Le.refl _
def A5m (p1:Map)(p2:Zone)(p3:Int):Option Bool:=
  (A47 p2 p3).bind fun v1=>cond ((!v1.2)||(v1.1.From !=0)) (some false) ((A3s p1 p3).bind fun v2=>thenS (A05 (A5b p1 p2 v2) 0) (fun _=>some true) (fun r=>some r))
theorem A9f (p1:Map)(p2:Zone)(p3:Int):Le (A5m p1 p2 p3) (A35 p1 p2 p3):=by
  unfold A5m A35
  repeat' first|with_reducible exact Le.refl _|with_reducible exact A8a _ _|with_reducible exact A6a _ _|with_reducible exact B28 _ _ _ _|with_reducible refine Le.bind ?_ fun _=> ?_|with_reducible refine Le.cond ?_ ?_|with_reducible refine Le.ite ?_ ?_|with_reducible refine Le.thenS ?_ (fun _=> ?_) (fun _=> ?_)|with_reducible refine Le.loop (fun _=> ?_) _|with_reducible refine Le.loopL (fun _ _=> ?_) _ _|exact Le.refl _
def A6d (x1:(Int× (Int×Int×Int×Int×Int×Int×Int×Int×Int×Int×Int×Int)))(v1:Lane)(x2:(Int× (Int×Int×Int×Int×Int×Int×Int×Int×Int×Int×Int×Int))):Option (Stp (Int× (Int×Int×Int×Int×Int×Int×Int×Int×Int×Int×Int×Int)) (Int×Int×Int×Int×Int×Int×Int×Int×Int×Int×Int×Int)):=
  cond (decide (x2.1< (v1.Next.length:Int))) ((F0 v1.Next x2.1).bind fun v2=>(F0 ([x2.2.1,x2.2.2.1,x2.2.2.2.1,x2.2.2.2.2.1,x2.2.2.2.2.2.1,x2.2.2.2.2.2.2.1,x2.2.2.2.2.2.2.2.1,x2.2.2.2.2.2.2.2.2.1,x2.2.2.2.2.2.2.2.2.2.1,x2.2.2.2.2.2.2.2.2.2.2.1,x2.2.2.2.2.2.2.2.2.2.2.2.1,x2.2.2.2.2.2.2.2.2.2.2.2.2]:List Int) x1.1).bind fun v3=>(F0 ([x2.2.1,x2.2.2.1,x2.2.2.2.1,x2.2.2.2.2.1,x2.2.2.2.2.2.1,x2.2.2.2.2.2.2.1,x2.2.2.2.2.2.2.2.1,x2.2.2.2.2.2.2.2.2.1,x2.2.2.2.2.2.2.2.2.2.1,x2.2.2.2.2.2.2.2.2.2.2.1,x2.2.2.2.2.2.2.2.2.2.2.2.1,x2.2.2.2.2.2.2.2.2.2.2.2.2]:List Int) v2).bind fun v4=>(D2o .u32 1 (IntKind.wrap .u64 v2)).bind fun v5=>(F0 ([x2.2.1,x2.2.2.1,x2.2.2.2.1,x2.2.2.2.2.1,x2.2.2.2.2.2.1,x2.2.2.2.2.2.2.1,x2.2.2.2.2.2.2.2.1,x2.2.2.2.2.2.2.2.2.1,x2.2.2.2.2.2.2.2.2.2.1,x2.2.2.2.2.2.2.2.2.2.2.1,x2.2.2.2.2.2.2.2.2.2.2.2.1,x2.2.2.2.2.2.2.2.2.2.2.2.2]:List Int) x1.1).bind fun v6=>(D0z ([x2.2.1,x2.2.2.1,x2.2.2.2.1,x2.2.2.2.2.1,x2.2.2.2.2.2.1,x2.2.2.2.2.2.2.1,x2.2.2.2.2.2.2.2.1,x2.2.2.2.2.2.2.2.2.1,x2.2.2.2.2.2.2.2.2.2.1,x2.2.2.2.2.2.2.2.2.2.2.1,x2.2.2.2.2.2.2.2.2.2.2.2.1,x2.2.2.2.2.2.2.2.2.2.2.2.2]:List Int) x1.1 (IntKind.wrap .u32 (((BitVec.ofInt (IntKind.bits .u32) v3|||(BitVec.ofInt (IntKind.bits .u32) (IntKind.wrap .u32 (((BitVec.ofInt (IntKind.bits .u32) v4|||(BitVec.ofInt (IntKind.bits .u32) v5)).toNat:Nat))))).toNat:Nat)))).bind fun v7=>some (.go ((w64 (x2.1+1)),((v7.getD 0 0),(v7.getD 1 0),(v7.getD 2 0),(v7.getD 3 0),(v7.getD 4 0),(v7.getD 5 0),(v7.getD 6 0),(v7.getD 7 0),(v7.getD 8 0),(v7.getD 9 0),(v7.getD 10 0),(v7.getD 11 0))))) (some (.out x2.2))
theorem B2y (x1:(Int× (Int×Int×Int×Int×Int×Int×Int×Int×Int×Int×Int×Int)))(v1:Lane)(x2:(Int× (Int×Int×Int×Int×Int×Int×Int×Int×Int×Int×Int×Int))):Le (A6d x1 v1 x2) (A2o x1 v1 x2):=by
  unfold A6d A2o
  repeat' first|with_reducible exact Le.refl _|with_reducible refine Le.bind ?_ fun _=> ?_|with_reducible refine Le.cond ?_ ?_|with_reducible refine Le.ite ?_ ?_|with_reducible refine Le.thenS ?_ (fun _=> ?_) (fun _=> ?_)|with_reducible refine Le.loop (fun _=> ?_) _|with_reducible refine Le.loopL (fun _ _=> ?_) _ _|exact Le.refl _
def A6e (p1:Map)(x1:(Int× (Int×Int×Int×Int×Int×Int×Int×Int×Int×Int×Int×Int))):Option (Stp (Int× (Int×Int×Int×Int×Int×Int×Int×Int×Int×Int×Int×Int)) (Int×Int×Int×Int×Int×Int×Int×Int×Int×Int×Int×Int)):=
  cond (decide (x1.1≥0)) ((F0 p1.Lanes x1.1).bind fun v1=>(A05 (A6d x1 v1) (0,x1.2)).bind fun y2=>some (.go ((w64 (x1.1 - 1)),y2))) (some (.out x1.2))
theorem B2z (p1:Map)(x1:(Int× (Int×Int×Int×Int×Int×Int×Int×Int×Int×Int×Int×Int))):Le (A6e p1 x1) (A2p p1 x1):=by
  unfold A6e A2p
  repeat' first|with_reducible exact Le.refl _|with_reducible exact B2y _ _ _|with_reducible refine Le.bind ?_ fun _=> ?_|with_reducible refine Le.cond ?_ ?_|with_reducible refine Le.ite ?_ ?_|with_reducible refine Le.thenS ?_ (fun _=> ?_) (fun _=> ?_)|with_reducible refine Le.loop (fun _=> ?_) _|with_reducible refine Le.loopL (fun _ _=> ?_) _ _|exact Le.refl _
def A9g (p1:Map):Option (Int×Int×Int×Int×Int×Int×Int×Int×Int×Int×Int×Int):=
  (A05 (A6e p1) ((w64 ((p1.Lanes.length:Int) - 1)),(0,0,0,0,0,0,0,0,0,0,0,0))).bind fun y1=>some y1
theorem B6h (p1:Map):Le (A9g p1) (A5w p1):=by
  unfold A9g A5w
  repeat' first|with_reducible exact Le.refl _|with_reducible exact B2z _ _|with_reducible refine Le.bind ?_ fun _=> ?_|with_reducible refine Le.cond ?_ ?_|with_reducible refine Le.ite ?_ ?_|with_reducible refine Le.thenS ?_ (fun _=> ?_) (fun _=> ?_)|with_reducible refine Le.loop (fun _=> ?_) _|with_reducible refine Le.loopL (fun _ _=> ?_) _ _|exact Le.refl _
def A70 (p1:Int)(p2:Int):Option Bool:=
  (D2p .u32 p1 (IntKind.wrap .u64 p2)).bind fun v1=>some ((IntKind.wrap .u32 (((BitVec.ofInt (IntKind.bits .u32) v1&&&(BitVec.ofInt (IntKind.bits .u32) 1)).toNat:Nat)))==1)
theorem B3n (p1:Int)(p2:Int):Le (A70 p1 p2) (A3k p1 p2):=by
  unfold A70 A3k
  repeat' first|with_reducible exact Le.refl _|with_reducible refine Le.bind ?_ fun _=> ?_|with_reducible refine Le.cond ?_ ?_|with_reducible refine Le.ite ?_ ?_|with_reducible refine Le.thenS ?_ (fun _=> ?_) (fun _=> ?_)|with_reducible refine Le.loop (fun _=> ?_) _|with_reducible refine Le.loopL (fun _ _=> ?_) _ _|exact Le.refl _
def A3t (p1:Part)(p2:(Int×Int×Int×Int×Int×Int×Int×Int×Int×Int×Int×Int))(p3:Int):Option Bool:=
  (F0 ([p2.1,p2.2.1,p2.2.2.1,p2.2.2.2.1,p2.2.2.2.2.1,p2.2.2.2.2.2.1,p2.2.2.2.2.2.2.1,p2.2.2.2.2.2.2.2.1,p2.2.2.2.2.2.2.2.2.1,p2.2.2.2.2.2.2.2.2.2.1,p2.2.2.2.2.2.2.2.2.2.2.1,p2.2.2.2.2.2.2.2.2.2.2.2]:List Int) p1.Lane_).bind fun v1=>(A70 v1 p3).bind fun v2=>some v2
theorem B07 (p1:Part)(p2:(Int×Int×Int×Int×Int×Int×Int×Int×Int×Int×Int×Int))(p3:Int):Le (A3t p1 p2 p3) (A0b p1 p2 p3):=by
  unfold A3t A0b
  repeat' first|with_reducible exact Le.refl _|with_reducible exact B3n _ _|with_reducible refine Le.bind ?_ fun _=> ?_|with_reducible refine Le.cond ?_ ?_|with_reducible refine Le.ite ?_ ?_|with_reducible refine Le.thenS ?_ (fun _=> ?_) (fun _=> ?_)|with_reducible refine Le.loop (fun _=> ?_) _|with_reducible refine Le.loopL (fun _ _=> ?_) _ _|exact Le.refl _
def I5 (p1:(List Part))(p2:(Int×Int×Int×Int×Int×Int×Int×Int×Int×Int×Int×Int))(p3:Int)(x1:Int):Option (Stp Int (Sum Unit Int)):=
  cond (decide (x1< (p1.length:Int))) ((F0 p1 x1).bind fun v1=>(A3t v1 p2 p3).bind fun v2=>cond v2 (some (.out (.inr x1))) (some (.go (w64 (x1+1))))) (some (.out (.inl ())))
theorem Z4 (p1:(List Part))(p2:(Int×Int×Int×Int×Int×Int×Int×Int×Int×Int×Int×Int))(p3:Int)(x1:Int):Le (I5 p1 p2 p3 x1) (E2 p1 p2 p3 x1):=by
  unfold I5 E2
  repeat' first|with_reducible exact Le.refl _|with_reducible exact B07 _ _ _|with_reducible refine Le.bind ?_ fun _=> ?_|with_reducible refine Le.cond ?_ ?_|with_reducible refine Le.ite ?_ ?_|with_reducible refine Le.thenS ?_ (fun _=> ?_) (fun _=> ?_)|with_reducible refine Le.loop (fun _=> ?_) _|with_reducible refine Le.loopL (fun _ _=> ?_) _ _|exact Le.refl _
def K1 (p1:(List Part))(p2:(Int×Int×Int×Int×Int×Int×Int×Int×Int×Int×Int×Int))(p3:Int):Option Int:=
  thenS (A05 (I5 p1 p2 p3) 0) (fun _=>some (-1)) (fun r=>some r)
theorem A0j (p1:(List Part))(p2:(Int×Int×Int×Int×Int×Int×Int×Int×Int×Int×Int×Int))(p3:Int):Le (K1 p1 p2 p3) (F2 p1 p2 p3):=by
  unfold K1 F2
  repeat' first|with_reducible exact Le.refl _|with_reducible exact Z4 _ _ _ _|with_reducible refine Le.bind ?_ fun _=> ?_|with_reducible refine Le.cond ?_ ?_|with_reducible refine Le.ite ?_ ?_|with_reducible refine Le.thenS ?_ (fun _=> ?_) (fun _=> ?_)|with_reducible refine Le.loop (fun _=> ?_) _|with_reducible refine Le.loopL (fun _ _=> ?_) _ _|exact Le.refl _
def I6 (p1:(List Part))(p2:(Int×Int×Int×Int×Int×Int×Int×Int×Int×Int×Int×Int))(p3:Int):Option Bool:=
  (K1 p1 p2 p3).bind fun v1=>some (decide (v1≥0))
theorem Z5 (p1:(List Part))(p2:(Int×Int×Int×Int×Int×Int×Int×Int×Int×Int×Int×Int))(p3:Int):Le (I6 p1 p2 p3) (E3 p1 p2 p3):=by
  unfold I6 E3
  repeat' first|with_reducible exact Le.refl _|with_reducible exact A0j _ _ _|with_reducible refine Le.bind ?_ fun _=> ?_|with_reducible refine Le.cond ?_ ?_|with_reducible refine Le.ite ?_ ?_|with_reducible refine Le.thenS ?_ (fun _=> ?_) (fun _=> ?_)|with_reducible refine Le.loop (fun _=> ?_) _|with_reducible refine Le.loopL (fun _ _=> ?_) _ _|exact Le.refl _
def A4z (p1:Map)(p2:Zone)(p3:Int):Option Bool:=
  (A9g p1).bind fun v1=>(I6 p2.Parts v1 p3).bind fun v2=>some (!v2)
theorem A71 (p1:Map)(p2:Zone)(p3:Int):Le (A4z p1 p2 p3) (A2x p1 p2 p3):=by
  unfold A4z A2x
  repeat' first|with_reducible exact Le.refl _|with_reducible exact B6h _|with_reducible exact Z5 _ _ _|with_reducible refine Le.bind ?_ fun _=> ?_|with_reducible refine Le.cond ?_ ?_|with_reducible refine Le.ite ?_ ?_|with_reducible refine Le.thenS ?_ (fun _=> ?_) (fun _=> ?_)|with_reducible refine Le.loop (fun _=> ?_) _|with_reducible refine Le.loopL (fun _ _=> ?_) _ _|exact Le.refl _
def A24 (p1:Int)(p2:Map)(p3:Zone):Option Bool:=
  (A4z p2 p3 p1).bind fun v1=>some (!v1)
theorem A8b (p1:Int)(p2:Map)(p3:Zone):Le (A24 p1 p2 p3) (U7 p1 p2 p3):=by
  unfold A24 U7
  repeat' first|with_reducible exact Le.refl _|with_reducible exact A71 _ _ _|with_reducible refine Le.bind ?_ fun _=> ?_|with_reducible refine Le.cond ?_ ?_|with_reducible refine Le.ite ?_ ?_|with_reducible refine Le.thenS ?_ (fun _=> ?_) (fun _=> ?_)|with_reducible refine Le.loop (fun _=> ?_) _|with_reducible refine Le.loopL (fun _ _=> ?_) _ _|exact Le.refl _
def I0 (p1:(List Int))(p2:Map)(p3:Zone)(x1:Int):Option (Stp Int (Sum Unit Int)):=
  cond (decide (x1< (p1.length:Int))) ((F0 p1 x1).bind fun v1=>(A24 v1 p2 p3).bind fun v2=>cond v2 (some (.out (.inr x1))) (some (.go (w64 (x1+1))))) (some (.out (.inl ())))
theorem Y3 (p1:(List Int))(p2:Map)(p3:Zone)(x1:Int):Le (I0 p1 p2 p3 x1) (D9 p1 p2 p3 x1):=by
  unfold I0 D9
  repeat' first|with_reducible exact Le.refl _|with_reducible exact A8b _ _ _|with_reducible refine Le.bind ?_ fun _=> ?_|with_reducible refine Le.cond ?_ ?_|with_reducible refine Le.ite ?_ ?_|with_reducible refine Le.thenS ?_ (fun _=> ?_) (fun _=> ?_)|with_reducible refine Le.loop (fun _=> ?_) _|with_reducible refine Le.loopL (fun _ _=> ?_) _ _|exact Le.refl _
def J2 (p1:(List Int))(p2:Map)(p3:Zone):Option Int:=
  thenS (A05 (I0 p1 p2 p3) 0) (fun _=>some (-1)) (fun r=>some r)
theorem A08 (p1:(List Int))(p2:Map)(p3:Zone):Le (J2 p1 p2 p3) (E9 p1 p2 p3):=by
  unfold J2 E9
  repeat' first|with_reducible exact Le.refl _|with_reducible exact Y3 _ _ _ _|with_reducible refine Le.bind ?_ fun _=> ?_|with_reducible refine Le.cond ?_ ?_|with_reducible refine Le.ite ?_ ?_|with_reducible refine Le.thenS ?_ (fun _=> ?_) (fun _=> ?_)|with_reducible refine Le.loop (fun _=> ?_) _|with_reducible refine Le.loopL (fun _ _=> ?_) _ _|exact Le.refl _
def I3 (p1:(List Int))(p2:Map)(p3:Zone):Option Bool:=
  (J2 p1 p2 p3).bind fun v1=>some (decide (v1≥0))
theorem Y4 (p1:(List Int))(p2:Map)(p3:Zone):Le (I3 p1 p2 p3) (E0 p1 p2 p3):=by
  unfold I3 E0
  repeat' first|with_reducible exact Le.refl _|with_reducible exact A08 _ _ _|with_reducible refine Le.bind ?_ fun _=> ?_|with_reducible refine Le.cond ?_ ?_|with_reducible refine Le.ite ?_ ?_|with_reducible refine Le.thenS ?_ (fun _=> ?_) (fun _=> ?_)|with_reducible refine Le.loop (fun _=> ?_) _|with_reducible refine Le.loopL (fun _ _=> ?_) _ _|exact Le.refl _
def A25 (p1:Zone)(p2:Map)(p3:Int)(p4:(List Int)):Option Bool:=
  (A5m p2 p1 p3).bind fun v1=>((cond v1 (I3 p4 p2 p1) (some default))).bind fun v2=>some (v1&& (!v2))
theorem A8c (p1:Zone)(p2:Map)(p3:Int)(p4:(List Int)):Le (A25 p1 p2 p3 p4) (U8 p1 p2 p3 p4):=by
  unfold A25 U8
  repeat' first|with_reducible exact Le.refl _|with_reducible exact A9f _ _ _|with_reducible exact Y4 _ _ _|with_reducible refine Le.bind ?_ fun _=> ?_|with_reducible refine Le.cond ?_ ?_|with_reducible refine Le.ite ?_ ?_|with_reducible refine Le.thenS ?_ (fun _=> ?_) (fun _=> ?_)|with_reducible refine Le.loop (fun _=> ?_) _|with_reducible refine Le.loopL (fun _ _=> ?_) _ _|exact Le.refl _
def H6 (p1:(List Zone))(p2:Map)(p3:Int)(p4:(List Int))(x1:Int):Option (Stp Int (Sum Unit Int)):=
  cond (decide (x1< (p1.length:Int))) ((F0 p1 x1).bind fun v1=>(A25 v1 p2 p3 p4).bind fun v2=>cond v2 (some (.out (.inr x1))) (some (.go (w64 (x1+1))))) (some (.out (.inl ())))
theorem X5 (p1:(List Zone))(p2:Map)(p3:Int)(p4:(List Int))(x1:Int):Le (H6 p1 p2 p3 p4 x1) (D5 p1 p2 p3 p4 x1):=by
  unfold H6 D5
  repeat' first|with_reducible exact Le.refl _|with_reducible exact A8c _ _ _ _|with_reducible refine Le.bind ?_ fun _=> ?_|with_reducible refine Le.cond ?_ ?_|with_reducible refine Le.ite ?_ ?_|with_reducible refine Le.thenS ?_ (fun _=> ?_) (fun _=> ?_)|with_reducible refine Le.loop (fun _=> ?_) _|with_reducible refine Le.loopL (fun _ _=> ?_) _ _|exact Le.refl _
def J0 (p1:(List Zone))(p2:Map)(p3:Int)(p4:(List Int)):Option Int:=
  thenS (A05 (H6 p1 p2 p3 p4) 0) (fun _=>some (-1)) (fun r=>some r)
theorem A03 (p1:(List Zone))(p2:Map)(p3:Int)(p4:(List Int)):Le (J0 p1 p2 p3 p4) (E5 p1 p2 p3 p4):=by
  unfold J0 E5
  repeat' first|with_reducible exact Le.refl _|with_reducible exact X5 _ _ _ _ _|with_reducible refine Le.bind ?_ fun _=> ?_|with_reducible refine Le.cond ?_ ?_|with_reducible refine Le.ite ?_ ?_|with_reducible refine Le.thenS ?_ (fun _=> ?_) (fun _=> ?_)|with_reducible refine Le.loop (fun _=> ?_) _|with_reducible refine Le.loopL (fun _ _=> ?_) _ _|exact Le.refl _
def H7 (p1:(List Zone))(p2:Map)(p3:Int)(p4:(List Int)):Option Bool:=
  (J0 p1 p2 p3 p4).bind fun v1=>some (decide (v1≥0))
theorem X6 (p1:(List Zone))(p2:Map)(p3:Int)(p4:(List Int)):Le (H7 p1 p2 p3 p4) (D6 p1 p2 p3 p4):=by
  unfold H7 D6
  repeat' first|with_reducible exact Le.refl _|with_reducible exact A03 _ _ _ _|with_reducible refine Le.bind ?_ fun _=> ?_|with_reducible refine Le.cond ?_ ?_|with_reducible refine Le.ite ?_ ?_|with_reducible refine Le.thenS ?_ (fun _=> ?_) (fun _=> ?_)|with_reducible refine Le.loop (fun _=> ?_) _|with_reducible refine Le.loopL (fun _ _=> ?_) _ _|exact Le.refl _
def A5c (p1:Map)(x1:((List Clash)×Int)):Option (Stp ((List Clash)×Int) (List Clash)):=
  cond (decide (x1.2< (p1.Lanes.length:Int))) ((A3s p1 x1.2).bind fun v1=>(H7 p1.Zones p1 x1.2 v1).bind fun v2=>cond ((decide ((v1.length:Int)>1))&& (!v2)) ((A7b x1.1 [(Clash.mk 1 (-1) x1.2 (-1))]).bind fun v3=>some (.go (v3,(w64 (x1.2+1))))) (some (.go (x1.1,(w64 (x1.2+1)))))) (some (.out x1.1))
theorem B29 (p1:Map)(x1:((List Clash)×Int)):Le (A5c p1 x1) (A1n p1 x1):=by
  unfold A5c A1n
  repeat' first|with_reducible exact Le.refl _|with_reducible exact A6a _ _|with_reducible exact X6 _ _ _ _|with_reducible refine Le.bind ?_ fun _=> ?_|with_reducible refine Le.cond ?_ ?_|with_reducible refine Le.ite ?_ ?_|with_reducible refine Le.thenS ?_ (fun _=> ?_) (fun _=> ?_)|with_reducible refine Le.loop (fun _=> ?_) _|with_reducible refine Le.loopL (fun _ _=> ?_) _ _|exact Le.refl _
def A8d (p1:Map):Option (List Clash):=
  (A05 (A5c p1) ([],0)).bind fun y1=>some y1
theorem B5f (p1:Map):Le (A8d p1) (A4q p1):=by
  unfold A8d A4q
  repeat' first|with_reducible exact Le.refl _|with_reducible exact B29 _ _|with_reducible refine Le.bind ?_ fun _=> ?_|with_reducible refine Le.cond ?_ ?_|with_reducible refine Le.ite ?_ ?_|with_reducible refine Le.thenS ?_ (fun _=> ?_) (fun _=> ?_)|with_reducible refine Le.loop (fun _=> ?_) _|with_reducible refine Le.loopL (fun _ _=> ?_) _ _|exact Le.refl _
def A5d (p1:Map)(x1:((List Clash)×Int))(v1:Zone)(x2:((List Clash)×Int)):Option (Stp ((List Clash)×Int) (List Clash)):=
  cond (decide (x2.2< (v1.Parts.length:Int))) ((F0 v1.Parts x2.2).bind fun v2=>(A4z p1 v1 v2.Lane_).bind fun v3=>((cond (!v3) (A5m p1 v1 v2.Lane_) (some default))).bind fun v4=>cond ((!v3)&& (!v4)) ((A7b x2.1 [(Clash.mk 2 x1.2 v2.Lane_ (-1))]).bind fun v5=>some (.go (v5,(w64 (x2.2+1))))) (some (.go (x2.1,(w64 (x2.2+1)))))) (some (.out x2.1))
theorem B2a (p1:Map)(x1:((List Clash)×Int))(v1:Zone)(x2:((List Clash)×Int)):Le (A5d p1 x1 v1 x2) (A1o p1 x1 v1 x2):=by
  unfold A5d A1o
  repeat' first|with_reducible exact Le.refl _|with_reducible exact A71 _ _ _|with_reducible exact A9f _ _ _|with_reducible refine Le.bind ?_ fun _=> ?_|with_reducible refine Le.cond ?_ ?_|with_reducible refine Le.ite ?_ ?_|with_reducible refine Le.thenS ?_ (fun _=> ?_) (fun _=> ?_)|with_reducible refine Le.loop (fun _=> ?_) _|with_reducible refine Le.loopL (fun _ _=> ?_) _ _|exact Le.refl _
def A5e (p1:Map)(x1:((List Clash)×Int)):Option (Stp ((List Clash)×Int) (List Clash)):=
  cond (decide (x1.2< (p1.Zones.length:Int))) ((F0 p1.Zones x1.2).bind fun v1=>(A05 (A5d p1 x1 v1) (x1.1,0)).bind fun y2=>some (.go (y2,(w64 (x1.2+1))))) (some (.out x1.1))
theorem B2b (p1:Map)(x1:((List Clash)×Int)):Le (A5e p1 x1) (A1p p1 x1):=by
  unfold A5e A1p
  repeat' first|with_reducible exact Le.refl _|with_reducible exact B2a _ _ _ _|with_reducible refine Le.bind ?_ fun _=> ?_|with_reducible refine Le.cond ?_ ?_|with_reducible refine Le.ite ?_ ?_|with_reducible refine Le.thenS ?_ (fun _=> ?_) (fun _=> ?_)|with_reducible refine Le.loop (fun _=> ?_) _|with_reducible refine Le.loopL (fun _ _=> ?_) _ _|exact Le.refl _
def A8e (p1:Map):Option (List Clash):=
  (A05 (A5e p1) ([],0)).bind fun y1=>some y1
theorem B5g (p1:Map):Le (A8e p1) (A4r p1):=by
  unfold A8e A4r
  repeat' first|with_reducible exact Le.refl _|with_reducible exact B2b _ _|with_reducible refine Le.bind ?_ fun _=> ?_|with_reducible refine Le.cond ?_ ?_|with_reducible refine Le.ite ?_ ?_|with_reducible refine Le.thenS ?_ (fun _=> ?_) (fun _=> ?_)|with_reducible refine Le.loop (fun _=> ?_) _|with_reducible refine Le.loopL (fun _ _=> ?_) _ _|exact Le.refl _
def A48 (p1:Map)(p2:Zone)(x1:((List Int)×Int)):Option (Stp ((List Int)×Int) (List Int)):=
  cond (decide (x1.2< (p2.Parts.length:Int))) ((F0 p2.Parts x1.2).bind fun v1=>(A4z p1 p2 v1.Lane_).bind fun v2=>cond v2 ((A7b x1.1 [v1.Lane_]).bind fun v3=>some (.go (v3,(w64 (x1.2+1))))) (some (.go (x1.1,(w64 (x1.2+1)))))) (some (.out x1.1))
theorem B15 (p1:Map)(p2:Zone)(x1:((List Int)×Int)):Le (A48 p1 p2 x1) (A11 p1 p2 x1):=by
  unfold A48 A11
  repeat' first|with_reducible exact Le.refl _|with_reducible exact A71 _ _ _|with_reducible refine Le.bind ?_ fun _=> ?_|with_reducible refine Le.cond ?_ ?_|with_reducible refine Le.ite ?_ ?_|with_reducible refine Le.thenS ?_ (fun _=> ?_) (fun _=> ?_)|with_reducible refine Le.loop (fun _=> ?_) _|with_reducible refine Le.loopL (fun _ _=> ?_) _ _|exact Le.refl _
def A4h (p1:Map)(p2:Zone):Option (List Int):=
  (A05 (A48 p1 p2) ([],0)).bind fun y1=>some y1
theorem A8l (p1:Map)(p2:Zone):Le (A4h p1 p2) (A0s p1 p2):=by
  unfold A4h A0s
  repeat' first|with_reducible exact Le.refl _|with_reducible exact B15 _ _ _|with_reducible refine Le.bind ?_ fun _=> ?_|with_reducible refine Le.cond ?_ ?_|with_reducible refine Le.ite ?_ ?_|with_reducible refine Le.thenS ?_ (fun _=> ?_) (fun _=> ?_)|with_reducible refine Le.loop (fun _=> ?_) _|with_reducible refine Le.loopL (fun _ _=> ?_) _ _|exact Le.refl _
def A72 (p1:Zone)(p2:Int)(p3:Int):Option Bool:=
  (A47 p1 p2).bind fun v1=>(A47 p1 p3).bind fun v2=>some ((p1.Signal_==0)&& (v1.1.Rank==v2.1.Rank))
theorem B3o (p1:Zone)(p2:Int)(p3:Int):Le (A72 p1 p2 p3) (A3l p1 p2 p3):=by
  unfold A72 A3l
  repeat' first|with_reducible exact Le.refl _|with_reducible exact A8a _ _|with_reducible refine Le.bind ?_ fun _=> ?_|with_reducible refine Le.cond ?_ ?_|with_reducible refine Le.ite ?_ ?_|with_reducible refine Le.thenS ?_ (fun _=> ?_) (fun _=> ?_)|with_reducible refine Le.loop (fun _=> ?_) _|with_reducible refine Le.loopL (fun _ _=> ?_) _ _|exact Le.refl _
def U3 (p2:Int)(x1:((List Clash)×Int))(v1:Zone)(v3:Int)(v4:List Int)(x3:((List Clash)×Int)):Option (Stp ((List Clash)×Int) (List Clash)):=
  cond (decide (x3.2< (v4.length:Int))) ((F0 v4 x3.2).bind fun v5=>(A72 v1 v3 v5).bind fun v6=>cond v6 ((A7b x3.1 [(Clash.mk p2 x1.2 v3 v5)]).bind fun v7=>some (.go (v7,(w64 (x3.2+1))))) (some (.go (x3.1,(w64 (x3.2+1)))))) (some (.out x3.1))
theorem A49 (p2:Int)(x1:((List Clash)×Int))(v1:Zone)(v3:Int)(v4:List Int)(x3:((List Clash)×Int)):Le (U3 p2 x1 v1 v3 v4 x3) (L0 p2 x1 v1 v3 v4 x3):=by
  unfold U3 L0
  repeat' first|with_reducible exact Le.refl _|with_reducible exact B3o _ _ _|with_reducible refine Le.bind ?_ fun _=> ?_|with_reducible refine Le.cond ?_ ?_|with_reducible refine Le.ite ?_ ?_|with_reducible refine Le.thenS ?_ (fun _=> ?_) (fun _=> ?_)|with_reducible refine Le.loop (fun _=> ?_) _|with_reducible refine Le.loopL (fun _ _=> ?_) _ _|exact Le.refl _
def U4 (p2:Int)(x1:((List Clash)×Int))(v1:Zone)(v2:(List Int))(x2:((List Clash)×Int)):Option (Stp ((List Clash)×Int) (List Clash)):=
  cond (decide (x2.2< (v2.length:Int))) ((F0 v2 x2.2).bind fun v3=>(B71 v2 (w64 (x2.2+1)) (v2.length:Int)).bind fun v4=>(A05 (U3 p2 x1 v1 v3 v4) (x2.1,0)).bind fun y3=>some (.go (y3,(w64 (x2.2+1))))) (some (.out x2.1))
theorem A4a (p2:Int)(x1:((List Clash)×Int))(v1:Zone)(v2:(List Int))(x2:((List Clash)×Int)):Le (U4 p2 x1 v1 v2 x2) (L3 p2 x1 v1 v2 x2):=by
  unfold U4 L3
  repeat' first|with_reducible exact Le.refl _|with_reducible exact A49 _ _ _ _ _ _|with_reducible refine Le.bind ?_ fun _=> ?_|with_reducible refine Le.cond ?_ ?_|with_reducible refine Le.ite ?_ ?_|with_reducible refine Le.thenS ?_ (fun _=> ?_) (fun _=> ?_)|with_reducible refine Le.loop (fun _=> ?_) _|with_reducible refine Le.loopL (fun _ _=> ?_) _ _|exact Le.refl _
def U5 (p1:Map)(p2:Int)(x1:((List Clash)×Int)):Option (Stp ((List Clash)×Int) (List Clash)):=
  cond (decide (x1.2< (p1.Zones.length:Int))) ((F0 p1.Zones x1.2).bind fun v1=>(A4h p1 v1).bind fun v2=>(A05 (U4 p2 x1 v1 v2) (x1.1,0)).bind fun y2=>some (.go (y2,(w64 (x1.2+1))))) (some (.out x1.1))
theorem A4b (p1:Map)(p2:Int)(x1:((List Clash)×Int)):Le (U5 p1 p2 x1) (L4 p1 p2 x1):=by
  unfold U5 L4
  repeat' first|with_reducible exact Le.refl _|with_reducible exact A8l _ _|with_reducible exact A4a _ _ _ _ _|with_reducible refine Le.bind ?_ fun _=> ?_|with_reducible refine Le.cond ?_ ?_|with_reducible refine Le.ite ?_ ?_|with_reducible refine Le.thenS ?_ (fun _=> ?_) (fun _=> ?_)|with_reducible refine Le.loop (fun _=> ?_) _|with_reducible refine Le.loopL (fun _ _=> ?_) _ _|exact Le.refl _
def Y5 (p1:Map)(p2:Int):Option (List Clash):=
  (A05 (U5 p1 p2) ([],0)).bind fun y1=>some y1
theorem A5n (p1:Map)(p2:Int):Le (Y5 p1 p2) (O1 p1 p2):=by
  unfold Y5 O1
  repeat' first|with_reducible exact Le.refl _|with_reducible exact A4b _ _ _|with_reducible refine Le.bind ?_ fun _=> ?_|with_reducible refine Le.cond ?_ ?_|with_reducible refine Le.ite ?_ ?_|with_reducible refine Le.thenS ?_ (fun _=> ?_) (fun _=> ?_)|with_reducible refine Le.loop (fun _=> ?_) _|with_reducible refine Le.loopL (fun _ _=> ?_) _ _|exact Le.refl _
def A9h (p1:Map):Option (List Clash):=
  (Y5 p1 3).bind fun v1=>some v1
theorem B6i (p1:Map):Le (A9h p1) (A5x p1):=by
  unfold A9h A5x
  repeat' first|with_reducible exact Le.refl _|with_reducible exact A5n _ _|with_reducible refine Le.bind ?_ fun _=> ?_|with_reducible refine Le.cond ?_ ?_|with_reducible refine Le.ite ?_ ?_|with_reducible refine Le.thenS ?_ (fun _=> ?_) (fun _=> ?_)|with_reducible refine Le.loop (fun _=> ?_) _|with_reducible refine Le.loopL (fun _ _=> ?_) _ _|exact Le.refl _
def A26 (p1:Phase)(p2:Int)(p3:Int):Option Bool:=
  (L8 p1.Green p2).bind fun v1=>((cond v1 (L8 p1.Green p3) (some default))).bind fun v2=>some (v1&&v2)
theorem A8f (p1:Phase)(p2:Int)(p3:Int):Le (A26 p1 p2 p3) (U9 p1 p2 p3):=by
  unfold A26 U9
  repeat' first|with_reducible exact Le.refl _|with_reducible exact Y2 _ _|with_reducible refine Le.bind ?_ fun _=> ?_|with_reducible refine Le.cond ?_ ?_|with_reducible refine Le.ite ?_ ?_|with_reducible refine Le.thenS ?_ (fun _=> ?_) (fun _=> ?_)|with_reducible refine Le.loop (fun _=> ?_) _|with_reducible refine Le.loopL (fun _ _=> ?_) _ _|exact Le.refl _
def G7 (p1:(List Phase))(p2:Int)(p3:Int)(x1:Int):Option (Stp Int (Sum Unit Int)):=
  cond (decide (x1< (p1.length:Int))) ((F0 p1 x1).bind fun v1=>(A26 v1 p2 p3).bind fun v2=>cond v2 (some (.out (.inr x1))) (some (.go (w64 (x1+1))))) (some (.out (.inl ())))
theorem V7 (p1:(List Phase))(p2:Int)(p3:Int)(x1:Int):Le (G7 p1 p2 p3 x1) (D0 p1 p2 p3 x1):=by
  unfold G7 D0
  repeat' first|with_reducible exact Le.refl _|with_reducible exact A8f _ _ _|with_reducible refine Le.bind ?_ fun _=> ?_|with_reducible refine Le.cond ?_ ?_|with_reducible refine Le.ite ?_ ?_|with_reducible refine Le.thenS ?_ (fun _=> ?_) (fun _=> ?_)|with_reducible refine Le.loop (fun _=> ?_) _|with_reducible refine Le.loopL (fun _ _=> ?_) _ _|exact Le.refl _
def H8 (p1:(List Phase))(p2:Int)(p3:Int):Option Int:=
  thenS (A05 (G7 p1 p2 p3) 0) (fun _=>some (-1)) (fun r=>some r)
theorem X7 (p1:(List Phase))(p2:Int)(p3:Int):Le (H8 p1 p2 p3) (D7 p1 p2 p3):=by
  unfold H8 D7
  repeat' first|with_reducible exact Le.refl _|with_reducible exact V7 _ _ _ _|with_reducible refine Le.bind ?_ fun _=> ?_|with_reducible refine Le.cond ?_ ?_|with_reducible refine Le.ite ?_ ?_|with_reducible refine Le.thenS ?_ (fun _=> ?_) (fun _=> ?_)|with_reducible refine Le.loop (fun _=> ?_) _|with_reducible refine Le.loopL (fun _ _=> ?_) _ _|exact Le.refl _
def G8 (p1:(List Phase))(p2:Int)(p3:Int):Option Bool:=
  (H8 p1 p2 p3).bind fun v1=>some (decide (v1≥0))
theorem V8 (p1:(List Phase))(p2:Int)(p3:Int):Le (G8 p1 p2 p3) (D1 p1 p2 p3):=by
  unfold G8 D1
  repeat' first|with_reducible exact Le.refl _|with_reducible exact X7 _ _ _|with_reducible refine Le.bind ?_ fun _=> ?_|with_reducible refine Le.cond ?_ ?_|with_reducible refine Le.ite ?_ ?_|with_reducible refine Le.thenS ?_ (fun _=> ?_) (fun _=> ?_)|with_reducible refine Le.loop (fun _=> ?_) _|with_reducible refine Le.loopL (fun _ _=> ?_) _ _|exact Le.refl _
def A4c (p1:Zone)(p2:Int)(p3:Int)(p4:Map):Option Bool:=
  ((cond (decide (p1.Signal_>0)) (F0 p4.Signals (w64 (p1.Signal_ - 1))) (some default))).bind fun v1=>((cond (decide (p1.Signal_>0)) (G8 v1.Phases p2 p3) (some default))).bind fun v2=>some ((decide (p1.Signal_>0))&&v2)
theorem B16 (p1:Zone)(p2:Int)(p3:Int)(p4:Map):Le (A4c p1 p2 p3 p4) (Y7 p1 p2 p3 p4):=by
  unfold A4c Y7
  repeat' first|with_reducible exact Le.refl _|with_reducible exact V8 _ _ _|with_reducible refine Le.bind ?_ fun _=> ?_|with_reducible refine Le.cond ?_ ?_|with_reducible refine Le.ite ?_ ?_|with_reducible refine Le.thenS ?_ (fun _=> ?_) (fun _=> ?_)|with_reducible refine Le.loop (fun _=> ?_) _|with_reducible refine Le.loopL (fun _ _=> ?_) _ _|exact Le.refl _
def R3 (p2:Int)(p3:Map)(x1:((List Clash)×Int))(v1:Zone)(v3:Int)(v4:List Int)(x3:((List Clash)×Int)):Option (Stp ((List Clash)×Int) (List Clash)):=
  cond (decide (x3.2< (v4.length:Int))) ((F0 v4 x3.2).bind fun v5=>(A4c v1 v3 v5 p3).bind fun v6=>cond v6 ((A7b x3.1 [(Clash.mk p2 x1.2 v3 v5)]).bind fun v7=>some (.go (v7,(w64 (x3.2+1))))) (some (.go (x3.1,(w64 (x3.2+1)))))) (some (.out x3.1))
theorem A3u (p2:Int)(p3:Map)(x1:((List Clash)×Int))(v1:Zone)(v3:Int)(v4:List Int)(x3:((List Clash)×Int)):Le (R3 p2 p3 x1 v1 v3 v4 x3) (J6 p2 p3 x1 v1 v3 v4 x3):=by
  unfold R3 J6
  repeat' first|with_reducible exact Le.refl _|with_reducible exact B16 _ _ _ _|with_reducible refine Le.bind ?_ fun _=> ?_|with_reducible refine Le.cond ?_ ?_|with_reducible refine Le.ite ?_ ?_|with_reducible refine Le.thenS ?_ (fun _=> ?_) (fun _=> ?_)|with_reducible refine Le.loop (fun _=> ?_) _|with_reducible refine Le.loopL (fun _ _=> ?_) _ _|exact Le.refl _
def R4 (p2:Int)(p3:Map)(x1:((List Clash)×Int))(v1:Zone)(v2:(List Int))(x2:((List Clash)×Int)):Option (Stp ((List Clash)×Int) (List Clash)):=
  cond (decide (x2.2< (v2.length:Int))) ((F0 v2 x2.2).bind fun v3=>(B71 v2 (w64 (x2.2+1)) (v2.length:Int)).bind fun v4=>(A05 (R3 p2 p3 x1 v1 v3 v4) (x2.1,0)).bind fun y3=>some (.go (y3,(w64 (x2.2+1))))) (some (.out x2.1))
theorem A3v (p2:Int)(p3:Map)(x1:((List Clash)×Int))(v1:Zone)(v2:(List Int))(x2:((List Clash)×Int)):Le (R4 p2 p3 x1 v1 v2 x2) (J7 p2 p3 x1 v1 v2 x2):=by
  unfold R4 J7
  repeat' first|with_reducible exact Le.refl _|with_reducible exact A3u _ _ _ _ _ _ _|with_reducible refine Le.bind ?_ fun _=> ?_|with_reducible refine Le.cond ?_ ?_|with_reducible refine Le.ite ?_ ?_|with_reducible refine Le.thenS ?_ (fun _=> ?_) (fun _=> ?_)|with_reducible refine Le.loop (fun _=> ?_) _|with_reducible refine Le.loopL (fun _ _=> ?_) _ _|exact Le.refl _
def R5 (p1:Map)(p2:Int)(p3:Map)(x1:((List Clash)×Int)):Option (Stp ((List Clash)×Int) (List Clash)):=
  cond (decide (x1.2< (p1.Zones.length:Int))) ((F0 p1.Zones x1.2).bind fun v1=>(A4h p1 v1).bind fun v2=>(A05 (R4 p2 p3 x1 v1 v2) (x1.1,0)).bind fun y2=>some (.go (y2,(w64 (x1.2+1))))) (some (.out x1.1))
theorem A3w (p1:Map)(p2:Int)(p3:Map)(x1:((List Clash)×Int)):Le (R5 p1 p2 p3 x1) (J8 p1 p2 p3 x1):=by
  unfold R5 J8
  repeat' first|with_reducible exact Le.refl _|with_reducible exact A8l _ _|with_reducible exact A3v _ _ _ _ _ _|with_reducible refine Le.bind ?_ fun _=> ?_|with_reducible refine Le.cond ?_ ?_|with_reducible refine Le.ite ?_ ?_|with_reducible refine Le.thenS ?_ (fun _=> ?_) (fun _=> ?_)|with_reducible refine Le.loop (fun _=> ?_) _|with_reducible refine Le.loopL (fun _ _=> ?_) _ _|exact Le.refl _
def V9 (p1:Map)(p2:Int)(p3:Map):Option (List Clash):=
  (A05 (R5 p1 p2 p3) ([],0)).bind fun y1=>some y1
theorem A50 (p1:Map)(p2:Int)(p3:Map):Le (V9 p1 p2 p3) (M5 p1 p2 p3):=by
  unfold V9 M5
  repeat' first|with_reducible exact Le.refl _|with_reducible exact A3w _ _ _ _|with_reducible refine Le.bind ?_ fun _=> ?_|with_reducible refine Le.cond ?_ ?_|with_reducible refine Le.ite ?_ ?_|with_reducible refine Le.thenS ?_ (fun _=> ?_) (fun _=> ?_)|with_reducible refine Le.loop (fun _=> ?_) _|with_reducible refine Le.loopL (fun _ _=> ?_) _ _|exact Le.refl _
def A8g (p1:Map):Option (List Clash):=
  (V9 p1 4 p1).bind fun v1=>some v1
theorem B5h (p1:Map):Le (A8g p1) (A4t p1):=by
  unfold A8g A4t
  repeat' first|with_reducible exact Le.refl _|with_reducible exact A50 _ _ _|with_reducible refine Le.bind ?_ fun _=> ?_|with_reducible refine Le.cond ?_ ?_|with_reducible refine Le.ite ?_ ?_|with_reducible refine Le.thenS ?_ (fun _=> ?_) (fun _=> ?_)|with_reducible refine Le.loop (fun _=> ?_) _|with_reducible refine Le.loopL (fun _ _=> ?_) _ _|exact Le.refl _
def B30 (p1:Map):Option Bool:=
  (A38 p1).bind fun v1=>((cond (v1==0) (A8d p1) (some default))).bind fun v2=>((cond (v1==0) (A8e p1) (some default))).bind fun v3=>((cond (v1==0) (A9h p1) (some default))).bind fun v4=>((cond (v1==0) (A8g p1) (some default))).bind fun v5=>some ((v1==0)&& ((w64 ((w64 ((w64 ((v2.length:Int)+ (v3.length:Int)))+ (v4.length:Int)))+ (v5.length:Int)))==0))
theorem B9v (p1:Map):Le (B30 p1) (A95 p1):=by
  unfold B30 A95
  repeat' first|with_reducible exact Le.refl _|with_reducible exact A4g _|with_reducible exact B5f _|with_reducible exact B5g _|with_reducible exact B6i _|with_reducible exact B5h _|with_reducible refine Le.bind ?_ fun _=> ?_|with_reducible refine Le.cond ?_ ?_|with_reducible refine Le.ite ?_ ?_|with_reducible refine Le.thenS ?_ (fun _=> ?_) (fun _=> ?_)|with_reducible refine Le.loop (fun _=> ?_) _|with_reducible refine Le.loopL (fun _ _=> ?_) _ _|exact Le.refl _
def B2c (p1:Map)(p2:Int):Option Bool:=
  ((cond ((decide (p2≥0))&& (decide (p2< (p1.Lanes.length:Int)))) (A38 p1) (some default))).bind fun v1=>some (((decide (p2≥0))&& (decide (p2< (p1.Lanes.length:Int))))&& (v1==0))
theorem B5i (p1:Map)(p2:Int):Le (B2c p1 p2) (A4f p1 p2):=by
  unfold B2c A4f
  repeat' first|with_reducible exact Le.refl _|with_reducible exact A4g _|with_reducible refine Le.bind ?_ fun _=> ?_|with_reducible refine Le.cond ?_ ?_|with_reducible refine Le.ite ?_ ?_|with_reducible refine Le.thenS ?_ (fun _=> ?_) (fun _=> ?_)|with_reducible refine Le.loop (fun _=> ?_) _|with_reducible refine Le.loopL (fun _ _=> ?_) _ _|exact Le.refl _
def A8h (p1:Map)(p2:Int):Option Int:=
  (B2c p1 p2).bind fun v1=>cond (!v1) (some 0) ((A1y p1 p2).bind fun v2=>some v2)
theorem B5j (p1:Map)(p2:Int):Le (A8h p1 p2) (A4u p1 p2):=by
  unfold A8h A4u
  repeat' first|with_reducible exact Le.refl _|with_reducible exact B5i _ _|with_reducible exact A2e _ _|with_reducible refine Le.bind ?_ fun _=> ?_|with_reducible refine Le.cond ?_ ?_|with_reducible refine Le.ite ?_ ?_|with_reducible refine Le.thenS ?_ (fun _=> ?_) (fun _=> ?_)|with_reducible refine Le.loop (fun _=> ?_) _|with_reducible refine Le.loopL (fun _ _=> ?_) _ _|exact Le.refl _
def A6f (p1:Map)(p2:Int)(p3:Int)(p4:Int)(x1:(Int×Int)):Option (Stp (Int×Int) Int):=
  cond (decide (x1.2< (p1.Works.length:Int))) ((F0 p1.Works x1.2).bind fun v5=>((cond (v5.Lane_==p2) (O9 p3 v5.From v5.To) (some default))).bind fun v6=>((cond ((v5.Lane_==p2)&&v6) (O9 p4 v5.Begin (w64 (v5.End - 1))) (some default))).bind fun v7=>cond (((v5.Lane_==p2)&&v6)&&v7) (some (.go ((mm2 false x1.1 v5.Limit),(w64 (x1.2+1))))) (some (.go (x1.1,(w64 (x1.2+1)))))) (some (.out x1.1))
theorem B31 (p1:Map)(p2:Int)(p3:Int)(p4:Int)(x1:(Int×Int)):Le (A6f p1 p2 p3 p4 x1) (Z9 p1 p2 p3 p4 x1):=by
  unfold A6f Z9
  repeat' first|with_reducible exact Le.refl _|with_reducible exact T0 _ _ _|with_reducible refine Le.bind ?_ fun _=> ?_|with_reducible refine Le.cond ?_ ?_|with_reducible refine Le.ite ?_ ?_|with_reducible refine Le.thenS ?_ (fun _=> ?_) (fun _=> ?_)|with_reducible refine Le.loop (fun _=> ?_) _|with_reducible refine Le.loopL (fun _ _=> ?_) _ _|exact Le.refl _
def A9i (p1:Map)(p2:Int)(p3:Int)(p4:Int):Option Int:=
  (B2c p1 p2).bind fun v1=>((cond (!(!v1)) (A1y p1 p2) (some default))).bind fun v2=>((cond (!(!v1)) (O9 p3 0 v2) (some default))).bind fun v3=>cond ((!v1)||(!v3)) (some 0) ((F0 p1.Lanes p2).bind fun v4=>(A05 (A6f p1 p2 p3 p4) (v4.Limit,0)).bind fun y1=>some y1)
theorem B6j (p1:Map)(p2:Int)(p3:Int)(p4:Int):Le (A9i p1 p2 p3 p4) (A1r p1 p2 p3 p4):=by
  unfold A9i A1r
  repeat' first|with_reducible exact Le.refl _|with_reducible exact B5i _ _|with_reducible exact A2e _ _|with_reducible exact T0 _ _ _|with_reducible exact B31 _ _ _ _ _|with_reducible refine Le.bind ?_ fun _=> ?_|with_reducible refine Le.cond ?_ ?_|with_reducible refine Le.ite ?_ ?_|with_reducible refine Le.thenS ?_ (fun _=> ?_) (fun _=> ?_)|with_reducible refine Le.loop (fun _=> ?_) _|with_reducible refine Le.loopL (fun _ _=> ?_) _ _|exact Le.refl _
def B3d:Option Bool:=
  (B2t).bind fun v1=>(A9e v1 [0] 60000).bind fun v2=>(A38 v1).bind fun v3=>((cond (v3==0) (B30 v1) (some default))).bind fun v4=>((cond (((((v3==0)&&v4)&& (v2.1==0))&& (v2.2.1==60000))&&v2.2.2) (A8h v1 1) (some default))).bind fun v5=>((cond ((((((v3==0)&&v4)&& (v2.1==0))&& (v2.2.1==60000))&&v2.2.2)&& (v5==100000)) (A9i v1 0 10 5) (some default))).bind fun v6=>some (((((((v3==0)&&v4)&& (v2.1==0))&& (v2.2.1==60000))&&v2.2.2)&& (v5==100000))&& (v6==1500))
theorem B6k:Le (B3d) (A1s):=by
  unfold B3d A1s
  repeat' first|with_reducible exact Le.refl _|with_reducible exact B9u|with_reducible exact B6g _ _ _|with_reducible exact A4g _|with_reducible exact B9v _|with_reducible exact B5j _ _|with_reducible exact B6j _ _ _ _|with_reducible refine Le.bind ?_ fun _=> ?_|with_reducible refine Le.cond ?_ ?_|with_reducible refine Le.ite ?_ ?_|with_reducible refine Le.thenS ?_ (fun _=> ?_) (fun _=> ?_)|with_reducible refine Le.loop (fun _=> ?_) _|with_reducible refine Le.loopL (fun _ _=> ?_) _ _|exact Le.refl _
end Go.Abs.Roadsz
namespace Go.Abs.Roadsz
open Go Go.Abs
theorem A27 (n:Int): ∃y,A29 n=some (y,y*y==n)∧0≤y∧y≤67108864∧(∀m,0≤m→m<y→m*m<n)∧(y=67108864∨n≤y*y):=by
  have key:=C23 (f:=A0q n) (fun x=>0≤x.1∧x.1≤x.2∧x.2≤67108864∧(∀m,0≤m→m<x.1→m*m<n)∧(x.2=67108864∨n≤x.2*x.2)) (fun x=>(x.2 - x.1).toNat)
    (fun y=>0≤y∧y≤67108864∧(∀m,0≤m→m<y→m*m<n)∧(y=67108864∨n≤y*y)) (by
      rintro ⟨lo,hi⟩ ⟨h1,h2,h3,h4,h5⟩
      dsimp only at h1 h2 h3 h4 h5
      unfold A0q
      dsimp only
      by_cases hlt:lo<hi
      ·have e1:w64 (lo+hi)=lo+hi:=M6 (by omega)
       have e2:w64 ((lo+hi).tdiv 2)=(lo+hi) / 2:=by rw [Int.tdiv_eq_ediv_of_nonneg (by omega)];exact M6 (by omega)
       have hm:lo≤(lo+hi) / 2∧(lo+hi) / 2<hi:=by omega
       generalize hmid:(lo+hi) / 2=mid at*
       have hmm:mid*mid≤67108864*67108864:=C7k (by omega) (by omega)
       have hmm0:=A7c mid
       have e3:w64 (mid*mid)=mid*mid:=M6 (by omega)
       have e4:w64 (mid+1)=mid+1:=M6 (by omega)
       simp only [e1,e2,e3,e4,hlt,decide_true,cond_true]
       by_cases hc:mid*mid<n
       ·simp only [hc,decide_true,cond_true]
        refine ⟨_,rfl,⟨by omega,by omega,h3,fun m hm0 hm1=> ?_,h5⟩,by dsimp only;omega⟩
        rcases Int.lt_or_le m mid with q|q
        ·have:=Int.mul_le_mul (show m≤mid by omega) (show m≤mid by omega) hm0 (by omega);omega
        ·have:m=mid:=by dsimp only at hm1;omega
         subst this;exact hc
       ·simp only [hc,decide_false,cond_false]
        exact ⟨_,rfl,⟨h1,by dsimp only;omega,by dsimp only;omega,h4, .inr (by dsimp only;omega)⟩,by dsimp only;omega⟩
      ·simp only [hlt,decide_false,cond_false]
       obtain rfl:lo=hi:=by omega
       exact ⟨_,rfl,h1,h3,h4,h5⟩) (0,67108864) ⟨by decide,by decide,by decide,fun m h1 h2=>by dsimp only at h2;omega, .inl rfl⟩
  obtain ⟨y,hy,h1,h2,h3,h4⟩:=key
  refine ⟨y,?_,h1,h2,h3,h4⟩
  have hmm:y*y≤67108864*67108864:=C7k (by omega) (by omega)
  have hmm0:=A7c y
  unfold A29
  rw [hy,Option.bind_some,M6 (by omega)]
/-- The least number whose square is not less. -/
noncomputable def rt (n:Int):Int:=(A27 n).choose
theorem B2d (n:Int):A29 n=some (rt n,rt n*rt n==n):=(A27 n).choose_spec.1
theorem B5k (n:Int):0≤rt n:=(A27 n).choose_spec.2.1
theorem D27 (n m:Int)(h1:0≤m)(h2:m<rt n):m*m<n:=(A27 n).choose_spec.2.2.2.1 m h1 h2
theorem D28 (n:Int):rt n=67108864∨n≤rt n*rt n:=(A27 n).choose_spec.2.2.2.2
theorem D0j {l:Int}(h0:0≤l)(h1:l≤67108864):rt (l*l)=l:=by
  rcases Int.lt_trichotomy (rt (l*l)) l with q|q|q
  ·rcases D28 (l*l)with h|h
   ·omega
   ·have h2:=B5k (l*l)
    have:=Int.mul_lt_mul' (show rt (l*l)≤l by omega) q h2 (by omega);omega
  ·exact q
  ·have:=D27 (l*l) l h0 q;omega
theorem B5l (n:Int)(h0:0≤n)(h1:n<18014398509481984): ∃r,A36 n=some r∧0≤r∧r<134217728∧r*r≤n∧n< (r+1)* (r+1):=by
  have key:=C23 (f:=A3m n) (fun x=>0≤x.1∧x.1*x.1≤n∧((∃k:Nat,k≤26∧x.2=2^k∧x.1+2*2^k≤134217728∧n< (x.1+2*2^k)* (x.1+2*2^k))∨(x.2=0∧x.1<134217728∧n< (x.1+1)* (x.1+1)))) (fun x=>x.2.toNat)
    (fun r=>0≤r∧r<134217728∧r*r≤n∧n< (r+1)* (r+1)) (by
      rintro ⟨r,bit⟩ ⟨q1,q2,q3⟩
      dsimp only at q1 q2 q3
      unfold A3m
      dsimp only
      rcases q3 with ⟨k,hk,rfl,q4,q5⟩|⟨rfl,q4,q5⟩
      ·have hp:(0:Int)<2^k:=Int.pow_pos (by decide)
       generalize hb:(2:Int)^k=b at*
       have e1:w64 (r+b)=r+b:=M6 (by omega)
       have hmm:(r+b)* (r+b)≤134217728*134217728:=C7k (by omega) (by omega)
       have hmm0:=A7c (r+b)
       have e2:w64 ((r+b)* (r+b))=(r+b)* (r+b):=M6 (by omega)
       have e3:w64 (b.tdiv 2)=b / 2:=by rw [Int.tdiv_eq_ediv_of_nonneg (by omega)];exact M6 (by omega)
       have hb0:b>0:=by omega
       simp only [e1,e2,e3,hb0,decide_true,cond_true]
       have hnext: ∀r',0≤r'→r'*r'≤n→r'+b≤134217728→n< (r'+b)* (r'+b)→(∃j:Nat,j≤26∧b / 2=2^j∧r'+2*2^j≤134217728∧n< (r'+2*2^j)* (r'+2*2^j))∨(b / 2=0∧r'<134217728∧n< (r'+1)* (r'+1)):=by
         intro r' a1 a2 a3 a4
         cases k with
         |zero=>
          have:b=1:=by rw [← hb];rfl
          subst this
          exact .inr ⟨by decide,by omega,a4⟩
         |succ j=>
          have hj:b=2*2^j:=by rw [← hb,Int.pow_succ];omega
          refine .inl ⟨j,by omega,by omega,by omega,by rw [← hj];exact a4⟩
       by_cases hc:(r+b)* (r+b)≤n
       ·simp only [hc,decide_true,cond_true]
        refine ⟨_,rfl,⟨by dsimp only;omega,hc,hnext (r+b) (by omega) hc (by omega) (by rw [show r+b+b=r+2*b by omega];exact q5)⟩,by dsimp only;omega⟩
       ·simp only [hc,decide_false,cond_false]
        exact ⟨_,rfl,⟨q1,q2,hnext r q1 q2 (by omega) (by omega)⟩,by dsimp only;omega⟩
      ·simp only [show ¬(0:Int)>0 by decide,decide_false,cond_false]
       exact ⟨_,rfl,q1,q4,q2,q5⟩) (0,67108864) ⟨by decide,by dsimp only;omega, .inl ⟨26,by decide,by decide,by decide,by dsimp only;omega⟩⟩
  obtain ⟨r,hr,a⟩:=key
  exact ⟨r,by unfold A36;rw [hr];rfl,a⟩
theorem B8a {n:Int}(h0:0≤n)(h1:n≤4503599627370496): ∃r,A36 n=some r∧0≤r∧r<134217728∧(r*r=n↔rt n*rt n=n)∧(r*r=n→r=rt n):=by
  obtain ⟨r,hr,a1,a2,a3,a4⟩:=B5l n h0 (by omega)
  have hr26:r≤67108864:=by
    rcases Int.lt_or_le r 67108865 with q|q
    ·omega
    ·have:=Int.mul_le_mul q q (by decide) (by omega);omega
  refine ⟨r,hr,a1,a2,⟨fun h=> ?_,fun h=> ?_⟩,fun h=> ?_⟩
  ·rw [← h,D0j a1 hr26]
  ·rcases Int.lt_trichotomy r (rt n)with q|q|q
   ·have:=Int.mul_le_mul (show r+1≤rt n by omega) (show r+1≤rt n by omega) (by omega) (B5k n);omega
   ·rw [q];exact h
   ·have h2:=B5k n
    have:=Int.mul_lt_mul' (show rt n≤r by omega) q h2 (by omega);omega
  ·rw [← h,D0j a1 hr26]
end Go.Abs.Roadsz
namespace Go.Abs.Roadsz
open Go Go.Abs
def okS (p:Spot):Bool:=decide (-16777216≤p.X)&&decide (p.X≤16777216)&&decide (-16777216≤p.Y)&&decide (p.Y≤16777216)
theorem okS_iff {p:Spot}:okS p=true↔ -16777216≤p.X∧p.X≤16777216∧ -16777216≤p.Y∧p.Y≤16777216:=by simp [okS,and_assoc]
theorem C5n (p:Spot):((decide ((mm2 false p.X p.Y)< (-16777216)))||(decide ((mm2 true p.X p.Y)>16777216)))= !okS p:=by
  rw [C0y,D03]
  cases h:okS p with
  |true=>have:=okS_iff.1 h;simp;omega
  |false=>
   have: ¬(-16777216≤p.X∧p.X≤16777216∧ -16777216≤p.Y∧p.Y≤16777216):=fun q=>by rw [okS_iff.2 q]at h;cases h
   simp;omega
theorem B8b (l:List Spot)(hl:l.length≤1000000): ∀(r:List Spot) (i:Nat),l.drop i=r→loop (V3 l) (i:Int)=some (if r.all okS then .inl ()else .inr false):=by
  intro r
  induction r with
  |nil=>
   intro i hi
   have:=R1 hi
   refine D8 ?_
   unfold V3
   simp only [show ¬(i:Int)<l.length by omega,decide_false,cond_false,List.all_nil,if_true]
  |cons p r ih=>
   intro i hi
   have hlt:=Q7 hi
   have hstep:V3 l (i:Int)=if okS p then some (.go ((i+1:Nat):Int))else some (.out (.inr false)):=by
     unfold V3
     simp only [show (i:Int)<l.length by omega,decide_true,cond_true,Y9 hi,Option.bind_some,C5n]
     cases h:okS p with
     |true=>simp only [Bool.not_true,cond_false,if_true];rw [M6 (by omega)];rfl
     |false=>simp
   cases h:okS p with
   |true=>
    rw [h,if_pos rfl]at hstep
    rw [Q8 hstep,ih (i+1) (I9 hi)]
    simp [h]
   |false=>
    rw [h]at hstep
    rw [D8 hstep]
    simp [h]
theorem B8c (l:List Spot)(hl:l.length≤1000000):A41 l=some (l.all okS):=by
  unfold A41
  have:=B8b l hl l 0 (by simp)
  rw [show ((0:Nat):Int)=0 from rfl]at this
  rw [this]
  cases l.all okS<;>rfl
theorem B6l (p:Spot):A60 p=some (okS p):=by
  unfold A60 okS;rfl
def vec (p q:Spot):CurveVector:=⟨q.X - p.X,q.Y - p.Y⟩
def Q9 (v w:CurveVector):Int:=v.x*w.x+v.y*w.y
/-- A vector between valid spots. -/
def okV (v:CurveVector):Prop:= -33554432≤v.x∧v.x≤33554432∧ -33554432≤v.y∧v.y≤33554432
theorem B5m {p q:Spot}(hp:okS p=true)(hq:okS q=true):okV (vec p q):=by
  have:=okS_iff.1 hp;have:=okS_iff.1 hq
  unfold okV vec;dsimp only;omega
theorem B2e {p q:Spot}(hp:okS p=true)(hq:okS q=true):A33 p q=some (vec p q):=by
  have:=okS_iff.1 hp;have:=okS_iff.1 hq
  unfold A33 vec
  rw [M6 (by omega),M6 (by omega)]
theorem C5o {v w:CurveVector}(hv:okV v)(hw:okV w): -2251799813685248≤Q9 v w∧Q9 v w≤2251799813685248∧(-1125899906842624≤v.x*w.x∧v.x*w.x≤1125899906842624)∧ -1125899906842624≤v.y*w.y∧v.y*w.y≤1125899906842624:=by
  obtain ⟨a1,a2,a3,a4⟩:=hv
  obtain ⟨b1,b2,b3,b4⟩:=hw
  have h1:=C8n ⟨a1,a2⟩ ⟨b1,b2⟩
  have h2:=C8n ⟨a3,a4⟩ ⟨b3,b4⟩
  unfold Q9
  omega
theorem A9j {v w:CurveVector}(hv:okV v)(hw:okV w):O6 v w=some (Q9 v w):=by
  have h:=C5o hv hw
  unfold O6
  rw [M6 (n:=v.x*w.x) (by omega),M6 (n:=v.y*w.y) (by omega),M6 (by unfold Q9 at h;omega)]
  rfl
theorem C3m (v:CurveVector):0≤Q9 v v:=by have:=A7c v.x;have:=A7c v.y;unfold Q9;omega
def vs (v:CurveVector):Spot:=⟨v.x,v.y⟩
theorem A73 {p q:Spot}(hp:okS p=true)(hq:okS q=true):A2y q p=some (vs (vec p q)):=by
  have:=okS_iff.1 hp;have:=okS_iff.1 hq
  unfold A2y vec vs
  rw [M6 (by omega),M6 (by omega)]
theorem A9k {v w:CurveVector}(hv:okV v)(hw:okV w):A4v (vs v) (vs w)=some (Q9 v w):=by
  have h:=C5o hv hw
  unfold A4v vs
  dsimp only
  rw [M6 (n:=v.x*w.x) (by omega),M6 (n:=v.y*w.y) (by omega),M6 (by unfold Q9 at h;omega)]
  rfl
/-- The error of a chain of points, from a piece on; the piece ahead of it. -/
noncomputable def goM:Option CurveVector→List Spot→Int
  |last,p::q::r=>
   if rt (Q9 (vec p q) (vec p q))*rt (Q9 (vec p q) (vec p q))≠Q9 (vec p q) (vec p q)then 3
   else if rt (Q9 (vec p q) (vec p q))<1000∨rt (Q9 (vec p q) (vec p q))>1048576 then 2
   else match last with
     |some u=>if Q9 u (vec p q)≤0 then 12 else goM (some (vec p q)) (q::r)
     |none=>goM (some (vec p q)) (q::r)
  |_,_=>0
theorem B45 (last:Option CurveVector)(p q:Spot)(r:List Spot):goM last (p::q::r)=
    if rt (Q9 (vec p q) (vec p q))*rt (Q9 (vec p q) (vec p q))≠Q9 (vec p q) (vec p q)then 3
    else if rt (Q9 (vec p q) (vec p q))<1000∨rt (Q9 (vec p q) (vec p q))>1048576 then 2
    else match last with
      |some u=>if Q9 u (vec p q)≤0 then 12 else goM (some (vec p q)) (q::r)
      |none=>goM (some (vec p q)) (q::r):=by
  conv=>lhs;unfold goM
noncomputable def A13 (l:List Spot):Int:=if l.length<2 then 6 else if l.length>16 then 5 else if l.all okS then goM none l else 2
theorem B6m (c:Curve)(hl:c.Pts.length≤1000000)(hok:c.Pts.all okS=true): ∀(r:List Spot) (p:Spot) (i:Nat) (last:CurveVector),c.Pts.drop i=p::r→okV last→
    loop (R7 c) ((i:Int),last)=some (if goM (if i=0 then none else some last) (p::r)=0 then .inl ()else .inr (goM (if i=0 then none else some last) (p::r))):=by
  intro r
  induction r with
  |nil=>
   intro p i last hi hlast
   have hlt:=Q7 hi
   have:=R1 (I9 hi)
   refine D8 ?_
   unfold R7
   dsimp only
   rw [M6 (n:=(c.Pts.length:Int) - 1) (by omega)]
   simp only [show ¬(i:Int)< (c.Pts.length:Int) - 1 by omega,decide_false,cond_false,goM,if_true]
  |cons q r ih=>
   intro p i last hi hlast
   have hlt:=Q7 hi
   have hi1:=I9 hi
   have hlt1:=Q7 hi1
   have hp:okS p=true:=List.all_eq_true.1 hok p (List.mem_of_mem_drop (i:=i) (by rw [hi];simp))
   have hq:okS q=true:=List.all_eq_true.1 hok q (List.mem_of_mem_drop (i:=i) (by rw [hi];simp))
   have hv:=B5m hp hq
   have hg1:F0 c.Pts ((i:Int)+1)=some q:=by have:=Y9 hi1;simpa using this
   have hstep:R7 c ((i:Int),last)=
    if rt (Q9 (vec p q) (vec p q))*rt (Q9 (vec p q) (vec p q))≠Q9 (vec p q) (vec p q)then some (.out (.inr 3))
    else if rt (Q9 (vec p q) (vec p q))<1000∨rt (Q9 (vec p q) (vec p q))>1048576 then some (.out (.inr 2))
    else if i≠0∧Q9 last (vec p q)≤0 then some (.out (.inr 12))else some (.go (((i+1:Nat):Int),vec p q)):=by
     unfold R7
     dsimp only
     rw [M6 (n:=(c.Pts.length:Int) - 1) (by omega),M6 (n:=(i:Int)+1) (by omega)]
     simp only [show (i:Int)< (c.Pts.length:Int) - 1 by omega,decide_true,cond_true,Y9 hi,hg1,Option.bind_some,B2e hp hq,A9j hv hv,B2d]
     by_cases h1:rt (Q9 (vec p q) (vec p q))*rt (Q9 (vec p q) (vec p q))=Q9 (vec p q) (vec p q)
     ·simp only [h1,beq_self_eq_true,Bool.not_true,cond_false,ne_eq,not_true_eq_false,if_false]
      by_cases h2:rt (Q9 (vec p q) (vec p q))<1000∨rt (Q9 (vec p q) (vec p q))>1048576
      ·rw [if_pos h2]
       have:(decide (rt (Q9 (vec p q) (vec p q))<1000)||decide (rt (Q9 (vec p q) (vec p q))>1048576))=true:=by simpa using h2
       rw [this];rfl
      ·rw [if_neg h2]
       have:(decide (rt (Q9 (vec p q) (vec p q))<1000)||decide (rt (Q9 (vec p q) (vec p q))>1048576))=false:=by simpa using h2
       rw [this]
       simp only [cond_false]
       by_cases h3:i=0
       ·subst h3
        simp only [Int.natCast_zero,gt_iff_lt,Int.lt_irrefl,decide_false,cond_false,Bool.false_and,Option.bind_some,not_true_eq_false,false_and,if_false]
        rfl
       ·have h4:(i:Int)>0:=by omega
        simp only [h4,decide_true,cond_true,A9j hlast hv,Option.bind_some,Bool.true_and,h3,not_false_eq_true,true_and]
        by_cases h5:Q9 last (vec p q)≤0<;>simp [h5]
     ·have:(rt (Q9 (vec p q) (vec p q))*rt (Q9 (vec p q) (vec p q))==Q9 (vec p q) (vec p q))=false:=by simpa using h1
      simp only [this,Bool.not_false,cond_true,ne_eq,h1,not_false_eq_true,if_true]
   rw [B45]
   by_cases h1:rt (Q9 (vec p q) (vec p q))*rt (Q9 (vec p q) (vec p q))≠Q9 (vec p q) (vec p q)
   ·rw [if_pos h1]at hstep
    rw [D8 hstep,if_pos h1];rfl
   ·rw [if_neg h1]at hstep ⊢
    by_cases h2:rt (Q9 (vec p q) (vec p q))<1000∨rt (Q9 (vec p q) (vec p q))>1048576
    ·rw [if_pos h2]at hstep
     rw [D8 hstep,if_pos h2];rfl
    ·rw [if_neg h2]at hstep ⊢
     by_cases h3:i=0
     ·subst h3
      rw [if_neg (by simp)]at hstep
      rw [Q8 hstep,ih q (0+1) (vec p q) hi1 hv]
      simp
     ·by_cases h5:Q9 last (vec p q)≤0
      ·rw [if_pos ⟨h3,h5⟩]at hstep
       rw [D8 hstep]
       simp [h3,h5]
      ·rw [if_neg (fun h=>h5 h.2)]at hstep
       rw [Q8 hstep,ih q (i+1) (vec p q) hi1 hv]
       simp [h3,h5]
theorem B0m (c:Curve)(hl:c.Pts.length≤1000000):A1g c=some (A13 c.Pts):=by
  unfold A1g A13
  by_cases h1:c.Pts.length<2
  ·rw [if_pos h1,show decide ((c.Pts.length:Int)<2)=true by simp;omega];rfl
  ·rw [if_neg h1,show decide ((c.Pts.length:Int)<2)=false by simp;omega]
   simp only [cond_false]
   by_cases h2:c.Pts.length>16
   ·rw [if_pos h2,show decide ((c.Pts.length:Int)>16)=true by simp;omega];rfl
   ·rw [if_neg h2,show decide ((c.Pts.length:Int)>16)=false by simp;omega]
    simp only [cond_false,B8c c.Pts hl,Option.bind_some]
    cases h3:c.Pts.all okS with
    |false=>rfl
    |true=>
     simp only [Bool.not_true,cond_false,if_true]
     cases hp:c.Pts with
     |nil=>rw [hp]at h1;simp at h1
     |cons p r=>
      have:=B6m c hl h3 r p 0 ⟨0,0⟩ (by rw [hp];rfl) ⟨by decide,by decide,by decide,by decide⟩
      rw [if_pos rfl,show ((0:Nat):Int)=0 from rfl]at this
      rw [this]
      by_cases h4:goM none (p::r)=0
      ·rw [if_pos h4,h4];rfl
      ·rw [if_neg h4];rfl
end Go.Abs.Roadsz
namespace Go.Abs.Roadsz
open Go Go.Abs
theorem C5p (v w:CurveVector):Q9 v w=Q9 w v:=by unfold Q9;rw [Int.mul_comm v.x,Int.mul_comm v.y]
theorem B5n (c:Curve)(hl:c.Pts.length≤1000000): ∀(r:List Spot) (i:Nat),c.Pts.drop i=r→loop (A01 c) (i:Int)=some (if r.all okS then .inl ()else .inr 2):=by
  intro r
  induction r with
  |nil=>
   intro i hi
   have:=R1 hi
   refine D8 ?_
   unfold A01
   simp only [show ¬(i:Int)<c.Pts.length by omega,decide_false,cond_false,List.all_nil,if_true]
  |cons p r ih=>
   intro i hi
   have hlt:=Q7 hi
   have hstep:A01 c (i:Int)=if okS p then some (.go ((i+1:Nat):Int))else some (.out (.inr 2)):=by
     unfold A01
     simp only [show (i:Int)<c.Pts.length by omega,decide_true,cond_true,Y9 hi,Option.bind_some,B6l]
     cases h:okS p with
     |true=>simp only [Bool.not_true,cond_false,if_true];rw [M6 (by omega)];rfl
     |false=>simp
   cases h:okS p with
   |true=>
    rw [h,if_pos rfl]at hstep
    rw [Q8 hstep,ih (i+1) (I9 hi)]
    simp [h]
   |false=>
    rw [h]at hstep
    rw [D8 hstep]
    simp [h]
theorem C8v {v:CurveVector}(hv:okV v): ∃l,A36 (Q9 v v)=some l∧(w64 (l*l) !=Q9 v v)= !(rt (Q9 v v)*rt (Q9 v v)==Q9 v v)∧(rt (Q9 v v)*rt (Q9 v v)=Q9 v v→l=rt (Q9 v v)):=by
  have hb:=C5o hv hv
  obtain ⟨l,h1,h2,h3,h4,h5⟩:=B8a (C3m v) (by omega)
  have hmm:l*l≤134217728*134217728:=C7k (by omega) (by omega)
  have hmm0:=A7c l
  refine ⟨l,h1,?_,fun h=>h5 (h4.2 h)⟩
  rw [M6 (by omega)]
  by_cases h:l*l=Q9 v v
  ·simp [h,h4.1 h]
  ·have h': ¬rt (Q9 v v)*rt (Q9 v v)=Q9 v v:=fun q=>h (h4.2 q)
   have e1:(l*l !=Q9 v v)=true:=bne_iff_ne.2 h
   have e2:(rt (Q9 v v)*rt (Q9 v v)==Q9 v v)=false:=beq_eq_false_iff_ne.2 h'
   rw [e1,e2];rfl
theorem B5o (c:Curve)(hl:c.Pts.length≤1000000)(hok:c.Pts.all okS=true): ∀(r:List Spot) (p:Spot) (i:Nat) (last:Option CurveVector),c.Pts.drop i=p::r→
    (i=0∧last=none∨∃j a,i=j+1∧c.Pts.drop j=a::p::r∧last=some (vec a p))→
    loop (A00 c) (i:Int)=some (if goM last (p::r)=0 then .inl ()else .inr (goM last (p::r))):=by
  intro r
  induction r with
  |nil=>
   intro p i last hi hlast
   have hlt:=Q7 hi
   have:=R1 (I9 hi)
   refine D8 ?_
   unfold A00
   rw [M6 (n:=(i:Int)+1) (by omega)]
   simp only [show ¬(i:Int)+1< (c.Pts.length:Int) by omega,decide_false,cond_false,goM,if_true]
  |cons q r ih=>
   intro p i last hi hlast
   have hlt:=Q7 hi
   have hi1:=I9 hi
   have hlt1:=Q7 hi1
   have hp:okS p=true:=List.all_eq_true.1 hok p (List.mem_of_mem_drop (i:=i) (by rw [hi];simp))
   have hq:okS q=true:=List.all_eq_true.1 hok q (List.mem_of_mem_drop (i:=i) (by rw [hi];simp))
   have hv:=B5m hp hq
   have hg1:F0 c.Pts ((i:Int)+1)=some q:=by have:=Y9 hi1;simpa using this
   obtain ⟨l,hl1,hl2,hl3⟩:=C8v hv
   have hstep:A00 c (i:Int)=
    if rt (Q9 (vec p q) (vec p q))*rt (Q9 (vec p q) (vec p q))≠Q9 (vec p q) (vec p q)then some (.out (.inr 3))
    else if rt (Q9 (vec p q) (vec p q))<1000∨rt (Q9 (vec p q) (vec p q))>1048576 then some (.out (.inr 2))
    else match last with
      |some u=>if Q9 u (vec p q)≤0 then some (.out (.inr 12))else some (.go ((i+1:Nat):Int))
      |none=>some (.go ((i+1:Nat):Int)):=by
     unfold A00
     rw [M6 (n:=(i:Int)+1) (by omega)]
     simp only [show (i:Int)+1< (c.Pts.length:Int) by omega,decide_true,cond_true,Y9 hi,hg1,Option.bind_some,A73 hp hq,A9k hv hv,hl1,hl2]
     by_cases h1:rt (Q9 (vec p q) (vec p q))*rt (Q9 (vec p q) (vec p q))=Q9 (vec p q) (vec p q)
     ·simp only [h1,beq_self_eq_true,Bool.not_true,cond_false,ne_eq,not_true_eq_false,if_false,hl3 h1]
      by_cases h2:rt (Q9 (vec p q) (vec p q))<1000∨rt (Q9 (vec p q) (vec p q))>1048576
      ·rw [if_pos h2]
       have:(decide (rt (Q9 (vec p q) (vec p q))<1000)||decide (rt (Q9 (vec p q) (vec p q))>1048576))=true:=by simpa using h2
       rw [this];rfl
      ·rw [if_neg h2]
       have:(decide (rt (Q9 (vec p q) (vec p q))<1000)||decide (rt (Q9 (vec p q) (vec p q))>1048576))=false:=by simpa using h2
       rw [this]
       simp only [cond_false]
       rcases hlast with ⟨rfl,rfl⟩|⟨j,a,rfl,hj,rfl⟩
       ·simp only [Int.natCast_zero,gt_iff_lt,Int.lt_irrefl,decide_false,cond_false,Bool.false_and,Option.bind_some]
        rfl
       ·have h4:(((j+1:Nat):Int))>0:=by omega
        have ha:okS a=true:=List.all_eq_true.1 hok a (List.mem_of_mem_drop (i:=j) (by rw [hj];simp))
        have hva:=B5m ha hp
        have hgj:F0 c.Pts (w64 (((j+1:Nat):Int) - 1))=some a:=by
          rw [M6 (by omega),show (((j+1:Nat):Int) - 1)=(j:Int) by omega]
          exact Y9 hj
        simp only [h4,decide_true,cond_true,hgj,Option.bind_some,A73 ha hp,A9k hv hva,Bool.true_and]
        rw [C5p (vec p q) (vec a p)]
        by_cases h5:Q9 (vec a p) (vec p q)≤0
        ·simp [h5]
        ·simp [h5]
     ·have:(rt (Q9 (vec p q) (vec p q))*rt (Q9 (vec p q) (vec p q))==Q9 (vec p q) (vec p q))=false:=by simpa using h1
      simp only [this,Bool.not_false,cond_true,ne_eq,h1,not_false_eq_true,if_true]
   rw [B45]
   have hrec:=ih q (i+1) (some (vec p q)) hi1 (.inr ⟨i,p,rfl,hi,rfl⟩)
   by_cases h1:rt (Q9 (vec p q) (vec p q))*rt (Q9 (vec p q) (vec p q))≠Q9 (vec p q) (vec p q)
   ·rw [if_pos h1]at hstep
    rw [D8 hstep,if_pos h1];rfl
   ·rw [if_neg h1]at hstep ⊢
    by_cases h2:rt (Q9 (vec p q) (vec p q))<1000∨rt (Q9 (vec p q) (vec p q))>1048576
    ·rw [if_pos h2]at hstep
     rw [D8 hstep,if_pos h2];rfl
    ·rw [if_neg h2]at hstep ⊢
     cases last with
     |none=>rw [Q8 hstep,hrec]
     |some u=>
      dsimp only at hstep ⊢
      by_cases h5:Q9 u (vec p q)≤0
      ·rw [if_pos h5]at hstep
       rw [D8 hstep];simp [h5]
      ·rw [if_neg h5]at hstep
       rw [Q8 hstep,hrec];simp [h5]
theorem B0n (c:Curve)(hl:c.Pts.length≤1000000):A43 c=some (A13 c.Pts):=by
  unfold A43 A13
  by_cases h1:c.Pts.length<2
  ·rw [if_pos h1,show decide ((c.Pts.length:Int)<2)=true by simp;omega];rfl
  ·rw [if_neg h1,show decide ((c.Pts.length:Int)<2)=false by simp;omega]
   simp only [cond_false]
   by_cases h2:c.Pts.length>16
   ·rw [if_pos h2,show decide ((c.Pts.length:Int)>16)=true by simp;omega];rfl
   ·rw [if_neg h2,show decide ((c.Pts.length:Int)>16)=false by simp;omega]
    have hg:=B5n c hl c.Pts 0 (by simp)
    rw [show ((0:Nat):Int)=0 from rfl]at hg
    simp only [cond_false,hg]
    cases h3:c.Pts.all okS with
    |false=>rfl
    |true=>
     simp only [if_true,thenS]
     cases hp:c.Pts with
     |nil=>rw [hp]at h1;simp at h1
     |cons p r=>
      have:=B5o c hl h3 r p 0 none (by rw [hp];rfl) (.inl ⟨rfl,rfl⟩)
      rw [show ((0:Nat):Int)=0 from rfl]at this
      rw [this]
      by_cases h4:goM none (p::r)=0
      ·rw [if_pos h4,h4]
      ·rw [if_neg h4]
/-- What a valid chain is. -/
inductive Good:Option CurveVector→List Spot→Prop
  |one (last:Option CurveVector) (p:Spot):Good last [p]
  |cons (last:Option CurveVector) (p q:Spot) (r:List Spot) (h1:rt (Q9 (vec p q) (vec p q))*rt (Q9 (vec p q) (vec p q))=Q9 (vec p q) (vec p q)) (h2:1000≤rt (Q9 (vec p q) (vec p q))) (h3:rt (Q9 (vec p q) (vec p q))≤1048576)
     (h4: ∀u,last=some u→0<Q9 u (vec p q)) (h:Good (some (vec p q)) (q::r)):Good last (p::q::r)
theorem C15: ∀(r:List Spot) (p:Spot) (last:Option CurveVector),goM last (p::r)=0→Good last (p::r):=by
  intro r
  induction r with
  |nil=>intro p last _;exact .one _ _
  |cons q r ih=>
   intro p last h
   rw [B45]at h
   split at h
   ·cases h
   ·rename_i h1
    split at h
    ·cases h
    ·rename_i h2
     have h1:rt (Q9 (vec p q) (vec p q))*rt (Q9 (vec p q) (vec p q))=Q9 (vec p q) (vec p q):=by simpa using h1
     cases last with
     |none=>exact .cons _ _ _ _ h1 (by omega) (by omega) (fun u hu=>by cases hu) (ih q _ h)
     |some u=>
      dsimp only at h
      split at h
      ·cases h
      ·exact .cons _ _ _ _ h1 (by omega) (by omega) (fun u' hu=>by cases hu;omega) (ih q _ h)
theorem C16 {last:Option CurveVector}{l:List Spot}(h:Good last l):goM last l=0:=by
  induction h with
  |one=>rfl
  |cons last p q r h1 h2 h3 h4 h ih=>
   rw [B45,if_neg (by simpa using h1),if_neg (by omega)]
   cases last with
   |none=>exact ih
   |some u=>dsimp only;rw [if_neg (by have:=h4 u rfl;omega)];exact ih
structure Valid (l:List Spot):Prop where
  two:2≤l.length
  most:l.length≤16
  ok:l.all okS=true
  good:Good none l
theorem checkM_zero {l:List Spot}:A13 l=0↔Valid l:=by
  unfold A13
  constructor
  ·intro h
   split at h
   ·cases h
   ·rename_i h1
    split at h
    ·cases h
    ·rename_i h2
     split at h
     ·rename_i h3
      cases l with
      |nil=>simp at h1
      |cons p r=>exact ⟨by omega,by omega,h3,C15 r p none h⟩
     ·cases h
  ·rintro ⟨h1,h2,h3,h4⟩
   rw [if_neg (by omega),if_neg (by omega),if_pos h3]
   exact C16 h4
end Go.Abs.Roadsz
namespace Go.Abs.Roadsz
open Go Go.Abs
/-- The pieces of a chain: the number, the piece. -/
noncomputable def B17:Nat→Int→List Spot→List (Int×CurvePiece)
  |i,s,p::q::r=>((i:Int),⟨p,vec p q,rt (Q9 (vec p q) (vec p q)),s⟩)::B17 (i+1) (w64 (s+rt (Q9 (vec p q) (vec p q)))) (q::r)
  |_,_,_=> []
theorem B3e (i:Nat)(s:Int)(p q:Spot)(r:List Spot):B17 i s (p::q::r)=((i:Int),⟨p,vec p q,rt (Q9 (vec p q) (vec p q)),s⟩)::B17 (i+1) (w64 (s+rt (Q9 (vec p q) (vec p q)))) (q::r):=by conv=>lhs;unfold B17
theorem C17 (pts:List Spot)(hok:pts.all okS=true): ∀(r:List Spot) (p:Spot) (i:Nat) (s:Int),pts.drop i=p::r→A3j pts r.length i s=some (B17 i s (p::r)):=by
  intro r
  induction r with
  |nil=>intro p i s _;rfl
  |cons q r ih=>
   intro p i s hi
   have hi1:=I9 hi
   have hp:okS p=true:=List.all_eq_true.1 hok p (List.mem_of_mem_drop (i:=i) (by rw [hi];simp))
   have hq:okS q=true:=List.all_eq_true.1 hok q (List.mem_of_mem_drop (i:=i) (by rw [hi];simp))
   have hv:=B5m hp hq
   have h0:pts[i]? =some p:=by have:=congrArg (fun z=>z[0]?) hi;simpa using this
   have h1:pts[i+1]? =some q:=by have:=congrArg (fun z=>z[0]?) hi1;simpa using this
   rw [List.length_cons,A3j,h0,h1]
   simp only [Option.bind_some,B2e hp hq,A9j hv hv,B2d]
   rw [ih q (i+1) _ hi1,B3e]
   rfl
theorem C3n {pts:List Spot}(h:Valid pts):B11 pts=some (B17 0 0 pts):=by
  unfold B11
  have:=h.most
  rw [if_pos (by omega)]
  cases hp:pts with
  |nil=>have:=h.two;rw [hp]at this;simp at this
  |cons p r=>exact C17 (p::r) (by rw [← hp];exact h.ok) r p 0 0 rfl
/-- The lengths. -/
noncomputable def C0c:List Spot→List Int
  |p::q::r=>rt (Q9 (vec p q) (vec p q))::C0c (q::r)
  |_=> []
theorem A9l (p q:Spot)(r:List Spot):C0c (p::q::r)=rt (Q9 (vec p q) (vec p q))::C0c (q::r):=by conv=>lhs;unfold C0c
theorem A8i: ∀(r:List Spot) (p:Spot),(C0c (p::r)).length=r.length
  | [],_=>rfl
  |q::r,p=>by rw [A9l,List.length_cons,A8i r q,List.length_cons]
theorem B3f: ∀(r:List Spot) (p:Spot) (i:Nat) (s:Int),(B17 i s (p::r)).map (·.2.l)=C0c (p::r)
  | [],_,_,_=>rfl
  |q::r,p,i,s=>by rw [B3e,A9l,List.map_cons,B3f r q]
theorem C18: ∀(L:List (Int×CurvePiece)) (out:List Int),out.length+L.length≤1000000000→loopL S5 (fun x=>x) L out=some (out++L.map (·.2.l)):=by
  intro L
  induction L with
  |nil=>intro out _;simp [loopL]
  |cons a L ih=>
   intro out h
   simp only [List.length_cons]at h
   have:S5 out a=some (.go (out++ [a.2.l])):=by
     unfold S5
     rw [B0z (by simp;omega)];rfl
   rw [loopL,this]
   dsimp only
   rw [ih _ (by simp;omega)]
   simp
theorem B5p (c:Curve)(hl:c.Pts.length≤1000000):A1h c=some (if A13 c.Pts=0 then C0c c.Pts else []):=by
  unfold A1h
  rw [B0m c hl,Option.bind_some]
  by_cases h:A13 c.Pts=0
  ·rw [if_pos h,h]
   have hv:=checkM_zero.1 h
   have:=hv.most
   simp only [bne_self_eq_false,cond_false,C3n hv,Option.bind_some]
   cases hp:c.Pts with
   |nil=>have:=hv.two;rw [hp]at this;simp at this
   |cons p r=>
    have e:=B3f r p 0 0
    rw [C18 _ _ (by
     have:=congrArg List.length e
     rw [List.length_map,A8i]at this
     rw [this];rw [hp]at hl;simp at hl ⊢;omega)]
    rw [e];rfl
  ·rw [if_neg h,show (A13 c.Pts !=0)=true from bne_iff_ne.2 h];rfl
theorem B32 (c:Curve)(hl:c.Pts.length≤1000000)(hok:c.Pts.all okS=true): ∀(r:List Spot) (p:Spot) (i:Nat) (out:List Int) (last:Option CurveVector),c.Pts.drop i=p::r→Good last (p::r)→out.length+r.length≤1000000→
    loop (W9 c) (out,(i:Int))=some (out++C0c (p::r)):=by
  intro r
  induction r with
  |nil=>
   intro p i out last hi _ _
   have hlt:=Q7 hi
   have:=R1 (I9 hi)
   refine D8 ?_
   unfold W9
   dsimp only
   rw [M6 (n:=(i:Int)+1) (by omega)]
   simp only [show ¬(i:Int)+1< (c.Pts.length:Int) by omega,decide_false,cond_false,C0c,List.append_nil]
  |cons q r ih=>
   intro p i out last hi hg ho
   have hlt:=Q7 hi
   have hi1:=I9 hi
   have hlt1:=Q7 hi1
   have hp:okS p=true:=List.all_eq_true.1 hok p (List.mem_of_mem_drop (i:=i) (by rw [hi];simp))
   have hq:okS q=true:=List.all_eq_true.1 hok q (List.mem_of_mem_drop (i:=i) (by rw [hi];simp))
   have hv:=B5m hp hq
   have hg1:F0 c.Pts ((i:Int)+1)=some q:=by have:=Y9 hi1;simpa using this
   obtain ⟨l,hl1,hl2,hl3⟩:=C8v hv
   cases hg with
   |cons _ _ _ _ h1 h2 h3 h4 hg=>
    have hll:=hl3 h1
    subst hll
    simp only [List.length_cons]at ho
    have hstep:W9 c (out,(i:Int))=some (.go (out++ [rt (Q9 (vec p q) (vec p q))],((i+1:Nat):Int))):=by
      unfold W9
      dsimp only
      rw [M6 (n:=(i:Int)+1) (by omega)]
      simp only [show (i:Int)+1< (c.Pts.length:Int) by omega,decide_true,cond_true,Y9 hi,hg1,Option.bind_some,A73 hp hq,A9k hv hv,hl1]
      rw [B0z (by simp;omega)]
      rfl
    rw [Q8 hstep,ih q (i+1) _ _ hi1 hg (by simp;omega),A9l]
    simp
theorem B5q (c:Curve)(hl:c.Pts.length≤1000000):A4w c=some (if A13 c.Pts=0 then C0c c.Pts else []):=by
  unfold A4w
  rw [B0n c hl,Option.bind_some]
  by_cases h:A13 c.Pts=0
  ·rw [if_pos h,h]
   have hv:=checkM_zero.1 h
   simp only [bne_self_eq_false,cond_false]
   cases hp:c.Pts with
   |nil=>have:=hv.two;rw [hp]at this;simp at this
   |cons p r=>
    have:=B32 c hl hv.ok r p 0 [] none (by rw [hp];rfl) (by rw [← hp];exact hv.good) (by rw [hp]at hl;simp at hl ⊢;omega)
    rw [show ((0:Nat):Int)=0 from rfl]at this
    rw [this];rfl
  ·rw [if_neg h,show (A13 c.Pts !=0)=true from bne_iff_ne.2 h];rfl
/-- A sum, as the programs take it. -/
def C19:Int→List Int→Int
  |s,[]=>s
  |s,a::l=>C19 (w64 (s+a)) l
theorem B33 (l:List Int)(hl:l.length≤1000000): ∀(r:List Int) (i:Nat) (s:Int),l.drop i=r→loop (O0 l) (s,(i:Int))=some (C19 s r):=by
  intro r
  induction r with
  |nil=>
   intro i s hi
   have:=R1 hi
   refine D8 ?_
   unfold O0
   simp only [show ¬(i:Int)<l.length by omega,decide_false,cond_false,C19]
  |cons a r ih=>
   intro i s hi
   have hlt:=Q7 hi
   have hstep:O0 l (s,(i:Int))=some (.go (w64 (s+a),((i+1:Nat):Int))):=by
     unfold O0
     simp only [show (i:Int)<l.length by omega,decide_true,cond_true,Y9 hi,Option.bind_some]
     rw [M6 (n:=(i:Int)+1) (by omega)];rfl
   rw [Q8 hstep,ih (i+1) _ (I9 hi),C19]
theorem B34 (l:List Int)(hl:l.length≤1000000): ∀(r:List Int) (i:Nat) (s:Int),l.drop i=r→loop (S9 l) (s,(i:Int))=some (C19 s r):=by
  intro r
  induction r with
  |nil=>
   intro i s hi
   have:=R1 hi
   refine D8 ?_
   unfold S9
   simp only [show ¬(i:Int)<l.length by omega,decide_false,cond_false,C19]
  |cons a r ih=>
   intro i s hi
   have hlt:=Q7 hi
   have hstep:S9 l (s,(i:Int))=some (.go (w64 (s+a),((i+1:Nat):Int))):=by
     unfold S9
     simp only [show (i:Int)<l.length by omega,decide_true,cond_true,Y9 hi,Option.bind_some]
     rw [M6 (n:=(i:Int)+1) (by omega)];rfl
   rw [Q8 hstep,ih (i+1) _ (I9 hi),C19]
noncomputable def A5f (c:Curve):List Int:=if A13 c.Pts=0 then C0c c.Pts else []
theorem D0k: ∀l:List Spot,(C0c l).length≤l.length
  | []=>by simp [C0c]
  |p::r=>by rw [A8i];simp
theorem B78 (c:Curve):(A5f c).length≤c.Pts.length:=by
  unfold A5f
  split
  ·exact D0k _
  ·simp
theorem B5r (c:Curve)(hl:c.Pts.length≤1000000):A1i c=some (C19 0 (A5f c)):=by
  unfold A1i
  rw [B5p c hl,Option.bind_some]
  have:=B78 c
  have h:=B33 (A5f c) (by omega) (A5f c) 0 0 (by simp)
  rw [show ((0:Nat):Int)=0 from rfl]at h
  show (loop (O0 (A5f c)) (0,0)).bind _=_
  rw [h];rfl
theorem B5s (c:Curve)(hl:c.Pts.length≤1000000):A0m c=some (C19 0 (A5f c)):=by
  unfold A0m
  rw [B5q c hl,Option.bind_some]
  have:=B78 c
  have h:=B34 (A5f c) (by omega) (A5f c) 0 0 (by simp)
  rw [show ((0:Nat):Int)=0 from rfl]at h
  show (loop (S9 (A5f c)) (0,0)).bind _=_
  rw [h];rfl
end Go.Abs.Roadsz
namespace Go.Abs.Roadsz
open Go Go.Abs
/-- A quarter turn, so many times. -/
def D10:Nat→CurveVector→CurveVector
  |0,v=>v
  |n+1,v=>D10 n ⟨-v.y,v.x⟩
theorem C1a: ∀(n:Nat) (v w:CurveVector),Q9 (D10 n v) (D10 n w)=Q9 v w
  |0,_,_=>rfl
  |n+1,v,w=>by rw [D10,D10,C1a n];unfold Q9;grind
/-- A piece's vector, made of numbers: in one quadrant. -/
def D38 (n:Nat)(v:CurveVector):Prop:= ∃x y L:Int,v=D10 n ⟨x,y⟩∧0<x∧0≤y∧x*x+y*y=L*L∧1000≤L∧L≤3029∧x≤L∧y≤L
inductive Ch (Q:CurveVector→Prop):List Spot→Prop
  |one (p:Spot):Ch Q [p]
  |cons (p q:Spot) (r:List Spot) (h:Q (vec p q)) (hr:Ch Q (q::r)):Ch Q (p::q::r)
theorem B79 {n:Nat}: ∀(r:List Spot) (p:Spot) (last:Option CurveVector),Ch (D38 n) (p::r)→(∀u,last=some u→D38 n u)→Good last (p::r)
  | [],p,last,_,_=> .one _ _
  |q::r,p,last,hc,hl=>by
   cases hc with
   |cons _ _ _ h1 h2=>
    have hq:=h1
    obtain ⟨x,y,L,hv,hx,hy,hsq,hL1,hL2,hxL,hyL⟩:=h1
    have hd:Q9 (vec p q) (vec p q)=L*L:=by rw [hv,C1a];unfold Q9;exact hsq
    have hrt:rt (Q9 (vec p q) (vec p q))=L:=by rw [hd];exact D0j (by omega) (by omega)
    refine .cons _ _ _ _ (by rw [hrt,hd]) (by rw [hrt];exact hL1) (by rw [hrt];omega) (fun u hu=> ?_) (B79 r q _ h2 (fun u hu=>by cases hu;exact hq))
    obtain ⟨x',y',L',hv',hx',hy',_⟩:=hl u hu
    rw [hv,hv',C1a]
    unfold Q9
    have:=Int.mul_pos hx' hx
    have:=Int.mul_nonneg hy' hy
    dsimp only
    omega
/-- What the curves made of numbers are like. -/
structure Made (l:List Spot):Prop where
  two:2≤l.length
  six:l.length≤6
  ch: ∃n,Ch (D38 n) l
  bd: ∀p∈l, -50000≤p.X∧p.X≤50000∧ -50000≤p.Y∧p.Y≤50000
theorem Made.valid {l:List Spot}(h:Made l):Valid l:=by
  obtain ⟨n,hc⟩:=h.ch
  have:=h.two;have:=h.six
  refine ⟨h.two,by omega,List.all_eq_true.2 fun p hp=>okS_iff.2 (by have:=h.bd p hp;omega),?_⟩
  match l,h,hc with
  |p::r,_,hc=>exact B79 r p none hc (fun u hu=>by cases hu)
  | [],h,_=>exact absurd h.two (by simp)
end Go.Abs.Roadsz
namespace Go.Abs.Roadsz
open Go Go.Abs
/-! ### Loops that look for the first error -/
def I4 {α β:Type}(g:Nat→α→Option β):Nat→List α→Option β
  |_,[]=>none
  |i,a::r=>match g i a with
   |some e=>some e
   |none=>I4 g (i+1) r
def D0l {β:Type}:Option β→Sum Unit β
  |some e=> .inr e
  |none=> .inl ()
theorem A2s {α β:Type}(l:List α)(F:Int→Option (Stp Int (Sum Unit β)))(g:Nat→α→Option β)(hF: ∀(i:Nat) a,l[i]? =some a→F (i:Int)=some (match g i a with|some e=> .out (.inr e)|none=> .go ((i+1:Nat):Int)))(h0:F (l.length:Int)=some (.out (.inl ()))):
    loop F 0=some (D0l (I4 g 0 l)):=by
  have key: ∀(r:List α) (i:Nat),l.drop i=r→i≤l.length→loop F (i:Int)=some (D0l (I4 g i r)):=by
    intro r
    induction r with
    |nil=>
     intro i hi hil
     have:i=l.length:=by have:=List.drop_eq_nil_iff.1 hi;omega
     subst this
     exact D8 h0
    |cons a r ih=>
     intro i hi hil
     have hlt:i<l.length:=by
       rcases Nat.lt_or_ge i l.length with q|q
       ·exact q
       ·rw [List.drop_eq_nil_of_le q]at hi;cases hi
     have ha:l[i]? =some a:=by have:=congrArg (fun z=>z[0]?) hi;simpa using this
     have hr:l.drop (i+1)=r:=by have:=congrArg (fun z=>z.drop 1) hi;simpa using this
     have hs:=hF i a ha
     unfold I4
     cases hg:g i a with
     |some e=>rw [hg]at hs;exact D8 hs
     |none=>rw [hg]at hs;rw [Q8 hs];exact ih (i+1) hr (by omega)
  have:=key l 0 rfl (by omega)
  exact this
theorem firstE_none {α β:Type}{g:Nat→α→Option β}: ∀{l:List α} {i:Nat},I4 g i l=none↔∀(j:Nat) a,l[j]? =some a→g (i+j) a=none
  | [],i=>by simp [I4]
  |a::r,i=>by
   unfold I4
   cases h:g i a with
   |some e=>
    constructor
    ·intro h';cases h'
    ·intro h';have:=h' 0 a rfl;rw [Nat.add_zero,h]at this;cases this
   |none=>
    dsimp only
    rw [firstE_none (l:=r)]
    constructor
    ·intro h' j b hj
     cases j with
     |zero=>cases hj;exact h
     |succ j=>have:=h' j b hj;rwa [show i+1+j=i+ (j+1) by omega]at this
    ·intro h' j b hj
     have:=h' (j+1) b hj
     rwa [show i+ (j+1)=i+1+j by omega]at this
/-! ### Numbers -/
def inR (n a b:Int):Bool:=decide (a≤n)&&decide (n≤b)
theorem A3x (n a b:Int):M2 n a b=some (inR n a b):=rfl
theorem A7j (n a b:Int):Z3 n a b=some (inR n a b):=rfl
def B8d (kind:Int):Int×Int×Int:=if kind=1 then (2000,30,90)else if kind=2 then (1000,20,60)else if kind=3 then (300,100,300)else (0,0,0)
theorem B9w (k:Int):A0l k=some (B8d k):=by
  unfold A0l B8d
  by_cases h:k<0∨k≥4
  ·rw [show ((decide (k<0))||(decide (k≥4)))=true by simpa using h,cond_true,if_neg (by omega),if_neg (by omega),if_neg (by omega)]
  ·rw [show ((decide (k<0))||(decide (k≥4)))=false by rw [Bool.eq_false_iff];simpa using h,cond_false]
   obtain ⟨h1,h2⟩:=not_or.1 h
   rcases (show k=0∨k=1∨k=2∨k=3 by omega)with rfl|rfl|rfl|rfl<;>rfl
theorem B7a (k:Int):A37 k=some (B8d k):=by
  unfold A37 B8d
  by_cases h1:k=1
  ·subst h1;rfl
  ·by_cases h2:k=2
   ·subst h2;rfl
   ·by_cases h3:k=3
    ·subst h3;rfl
    ·rw [if_neg h1,if_neg h2,if_neg h3]
     rw [show (k==1)=false by simpa using h1,show (k==2)=false by simpa using h2,show (k==3)=false by simpa using h3];rfl
end Go.Abs.Roadsz
