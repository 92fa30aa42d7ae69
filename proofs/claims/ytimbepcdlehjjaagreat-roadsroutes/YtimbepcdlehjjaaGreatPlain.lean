/-
  Plain facts on the functions: what they compute, and that the law holds of it.
-/
import Derived.Test.YtimbepcdlehjjaaGreatFns3
set_option maxRecDepth 100000
set_option linter.unusedVariables false
namespace Go.Abs.Roadsz
open Go Go.Abs
def B1o (p4:(List Int))(x1:(Int×Lane)):Option (Stp (Int×Lane) Lane):=
  cond (decide ((w64 (x1.1+1))< (p4.length:Int))) ((F3 p4 x1.1).bind fun v1=>(F3 p4 (w64 (x1.1+1))).bind fun v2=>(B18 x1.2.Curve_.Pts [(Spot.mk v1 v2)]).bind fun v3=>some (.go ((w64 (x1.1+2)),(Lane.mk x1.2.Kind (Curve.mk v3) x1.2.Half x1.2.Limit x1.2.Next)))) (some (.out x1.2))
theorem B91 (p4:(List Int))(x1:(Int×Lane)):Le (B1o p4 x1) (A7y p4 x1):=by
  unfold B1o A7y
  repeat' first|with_reducible exact Le.refl _|with_reducible refine Le.bind ?_ fun _=> ?_|with_reducible refine Le.cond ?_ ?_|with_reducible refine Le.ite ?_ ?_|with_reducible refine Le.thenS ?_ (fun _=> ?_) (fun _=> ?_)|with_reducible refine Le.loop (fun _=> ?_) _|with_reducible refine Le.loopL (fun _ _=> ?_) _ _|exact Le.refl _
def B4d (p1:Int)(p2:Int)(p3:(List Int))(p4:(List Int)):Option Lane:=
  (A1x (B1o p4) (0,(Lane.mk p1 (Curve.mk []) 1500 p2 p3))).bind fun y1=>cond (p1==3) (some (Lane.mk y1.Kind y1.Curve_ 500 y1.Limit y1.Next)) (some y1)
theorem C3k (p1:Int)(p2:Int)(p3:(List Int))(p4:(List Int)):Le (B4d p1 p2 p3 p4) (B27 p1 p2 p3 p4):=by
  unfold B4d B27
  repeat' first|with_reducible exact Le.refl _|with_reducible exact B91 _ _|with_reducible refine Le.bind ?_ fun _=> ?_|with_reducible refine Le.cond ?_ ?_|with_reducible refine Le.ite ?_ ?_|with_reducible refine Le.thenS ?_ (fun _=> ?_) (fun _=> ?_)|with_reducible refine Le.loop (fun _=> ?_) _|with_reducible refine Le.loopL (fun _ _=> ?_) _ _|exact Le.refl _
def B57:Option Map:=
  (B4d 1 1500 [] [0,0,100000,0]).bind fun v1=>(B4d 1 1500 [] [50000,(-50000),50000,50000]).bind fun v2=>some (Map.mk 0 [v1,v2] [(Zone.mk [(Part.mk 0 48000 52000 1),(Part.mk 1 48000 52000 0)] 0)] [] [])
theorem C2a:Le (B57) (B1g):=by
  unfold B57 B1g
  repeat' first|with_reducible exact Le.refl _|with_reducible exact C3k _ _ _ _|with_reducible refine Le.bind ?_ fun _=> ?_|with_reducible refine Le.cond ?_ ?_|with_reducible refine Le.ite ?_ ?_|with_reducible refine Le.thenS ?_ (fun _=> ?_) (fun _=> ?_)|with_reducible refine Le.loop (fun _=> ?_) _|with_reducible refine Le.loopL (fun _ _=> ?_) _ _|exact Le.refl _
def T8 (p1:Int)(p2:Int)(p3:Int):Option Bool:=
  some ((decide (p2≤p1))&& (decide (p1≤p3)))
theorem Z3 (p1:Int)(p2:Int)(p3:Int):Le (T8 p1 p2 p3) (Q6 p1 p2 p3):=by
  unfold T8 Q6
  repeat' first|with_reducible exact Le.refl _|with_reducible refine Le.bind ?_ fun _=> ?_|with_reducible refine Le.cond ?_ ?_|with_reducible refine Le.ite ?_ ?_|with_reducible refine Le.thenS ?_ (fun _=> ?_) (fun _=> ?_)|with_reducible refine Le.loop (fun _=> ?_) _|with_reducible refine Le.loopL (fun _ _=> ?_) _ _|exact Le.refl _
def A4m (p1:RoadsCheck):Option Int:=
  (T8 p1.Map_.Version 0 1099511627776).bind fun v1=>cond (!v1) (some 2) (cond ((p1.Map_.Lanes.length:Int)==0) (some 6) (cond ((((decide ((p1.Map_.Lanes.length:Int)>12))||(decide ((p1.Map_.Zones.length:Int)>12)))||(decide ((p1.Map_.Signals.length:Int)>4)))||(decide ((p1.Map_.Works.length:Int)>8))) (some 8) (some 0)))
theorem B13 (p1:RoadsCheck):Le (A4m p1) (Q7 p1):=by
  unfold A4m Q7
  repeat' first|with_reducible exact Le.refl _|with_reducible exact Z3 _ _ _|with_reducible refine Le.bind ?_ fun _=> ?_|with_reducible refine Le.cond ?_ ?_|with_reducible refine Le.ite ?_ ?_|with_reducible refine Le.thenS ?_ (fun _=> ?_) (fun _=> ?_)|with_reducible refine Le.loop (fun _=> ?_) _|with_reducible refine Le.loopL (fun _ _=> ?_) _ _|exact Le.refl _
def A7q (p1:Int):Option (Int×Int×Int):=
  cond ((decide (p1<0))||(decide (p1≥4))) (some (0,0,0)) ((F3 ([(0,0,0),(2000,30,90),(1000,20,60),(300,100,300)]:List (Int×Int×Int)) p1).bind fun v1=>some (v1.1,v1.2.1,v1.2.2))
theorem B1p (p1:Int):Le (A7q p1) (A2k p1):=by
  unfold A7q A2k
  repeat' first|with_reducible exact Le.refl _|with_reducible refine Le.bind ?_ fun _=> ?_|with_reducible refine Le.cond ?_ ?_|with_reducible refine Le.ite ?_ ?_|with_reducible refine Le.thenS ?_ (fun _=> ?_) (fun _=> ?_)|with_reducible refine Le.loop (fun _=> ?_) _|with_reducible refine Le.loopL (fun _ _=> ?_) _ _|exact Le.refl _
def A98 (p1:(List Spot))(x1:Int):Option (Stp Int (Sum Unit Bool)):=
  cond (decide (x1< (p1.length:Int))) ((F3 p1 x1).bind fun v1=>cond ((decide ((mm2 false v1.X v1.Y)< (-16777216)))||(decide ((mm2 true v1.X v1.Y)>16777216))) (some (.out (.inr false))) (some (.go (w64 (x1+1))))) (some (.out (.inl ())))
theorem B5z (p1:(List Spot))(x1:Int):Le (A98 p1 x1) (A0h p1 x1):=by
  unfold A98 A0h
  repeat' first|with_reducible exact Le.refl _|with_reducible refine Le.bind ?_ fun _=> ?_|with_reducible refine Le.cond ?_ ?_|with_reducible refine Le.ite ?_ ?_|with_reducible refine Le.thenS ?_ (fun _=> ?_) (fun _=> ?_)|with_reducible refine Le.loop (fun _=> ?_) _|with_reducible refine Le.loopL (fun _ _=> ?_) _ _|exact Le.refl _
def B3i (p1:(List Spot)):Option Bool:=
  thenS (A1x (A98 p1) 0) (fun _=>some true) (fun r=>some r)
theorem C0p (p1:(List Spot)):Le (B3i p1) (A64 p1):=by
  unfold B3i A64
  repeat' first|with_reducible exact Le.refl _|with_reducible exact B5z _ _|with_reducible refine Le.bind ?_ fun _=> ?_|with_reducible refine Le.cond ?_ ?_|with_reducible refine Le.ite ?_ ?_|with_reducible refine Le.thenS ?_ (fun _=> ?_) (fun _=> ?_)|with_reducible refine Le.loop (fun _=> ?_) _|with_reducible refine Le.loopL (fun _ _=> ?_) _ _|exact Le.refl _
def B09 (p1:Spot)(p2:Spot):Option CurveVector:=
  some (CurveVector.mk (w64 (p2.X - p1.X)) (w64 (p2.Y - p1.Y)))
theorem B4e (p1:Spot)(p2:Spot):Le (B09 p1 p2) (A57 p1 p2):=by
  unfold B09 A57
  repeat' first|with_reducible exact Le.refl _|with_reducible refine Le.bind ?_ fun _=> ?_|with_reducible refine Le.cond ?_ ?_|with_reducible refine Le.ite ?_ ?_|with_reducible refine Le.thenS ?_ (fun _=> ?_) (fun _=> ?_)|with_reducible refine Le.loop (fun _=> ?_) _|with_reducible refine Le.loopL (fun _ _=> ?_) _ _|exact Le.refl _
def A2f (p1:CurveVector)(p2:CurveVector):Option Int:=
  some (w64 ((w64 (p1.x*p2.x))+ (w64 (p1.y*p2.y))))
theorem A8c (p1:CurveVector)(p2:CurveVector):Le (A2f p1 p2) (T7 p1 p2):=by
  unfold A2f T7
  repeat' first|with_reducible exact Le.refl _|with_reducible refine Le.bind ?_ fun _=> ?_|with_reducible refine Le.cond ?_ ?_|with_reducible refine Le.ite ?_ ?_|with_reducible refine Le.thenS ?_ (fun _=> ?_) (fun _=> ?_)|with_reducible refine Le.loop (fun _=> ?_) _|with_reducible refine Le.loopL (fun _ _=> ?_) _ _|exact Le.refl _
def A99 (p1:Int)(x1:(Int×Int)):Option (Stp (Int×Int) Int):=
  cond (decide (x1.1<x1.2)) (cond (decide ((w64 ((w64 ((w64 (x1.1+x1.2)).tdiv 2))* (w64 ((w64 (x1.1+x1.2)).tdiv 2))))<p1)) (some (.go ((w64 ((w64 ((w64 (x1.1+x1.2)).tdiv 2))+1)),x1.2))) (some (.go (x1.1,(w64 ((w64 (x1.1+x1.2)).tdiv 2)))))) (some (.out x1.1))
theorem B60 (p1:Int)(x1:(Int×Int)):Le (A99 p1 x1) (A2n p1 x1):=by
  unfold A99 A2n
  repeat' first|with_reducible exact Le.refl _|with_reducible refine Le.bind ?_ fun _=> ?_|with_reducible refine Le.cond ?_ ?_|with_reducible refine Le.ite ?_ ?_|with_reducible refine Le.thenS ?_ (fun _=> ?_) (fun _=> ?_)|with_reducible refine Le.loop (fun _=> ?_) _|with_reducible refine Le.loopL (fun _ _=> ?_) _ _|exact Le.refl _
def B0a (p1:Int):Option (Int×Bool):=
  (A1x (A99 p1) (0,67108864)).bind fun y1=>some (y1,((w64 (y1*y1))==p1))
theorem B4f (p1:Int):Le (B0a p1) (A4b p1):=by
  unfold B0a A4b
  repeat' first|with_reducible exact Le.refl _|with_reducible exact B60 _ _|with_reducible refine Le.bind ?_ fun _=> ?_|with_reducible refine Le.cond ?_ ?_|with_reducible refine Le.ite ?_ ?_|with_reducible refine Le.thenS ?_ (fun _=> ?_) (fun _=> ?_)|with_reducible refine Le.loop (fun _=> ?_) _|with_reducible refine Le.loopL (fun _ _=> ?_) _ _|exact Le.refl _
def A8d (p1:Curve)(x1:(Int×CurveVector)):Option (Stp (Int×CurveVector) (Sum Unit Int)):=
  cond (decide (x1.1< (w64 ((p1.Pts.length:Int) - 1)))) ((F3 p1.Pts x1.1).bind fun v2=>(F3 p1.Pts (w64 (x1.1+1))).bind fun v3=>(B09 v2 v3).bind fun v4=>(A2f v4 v4).bind fun v5=>(B0a v5).bind fun v6=>cond (!v6.2) (some (.out (.inr 3))) (cond ((decide (v6.1<1000))||(decide (v6.1>1048576))) (some (.out (.inr 2))) (((cond (decide (x1.1>0)) (A2f x1.2 v4) (some default))).bind fun v7=>cond ((decide (x1.1>0))&& (decide (v7≤0))) (some (.out (.inr 12))) (some (.go ((w64 (x1.1+1)),v4)))))) (some (.out (.inl ())))
theorem B58 (p1:Curve)(x1:(Int×CurveVector)):Le (A8d p1 x1) (X3 p1 x1):=by
  unfold A8d X3
  repeat' first|with_reducible exact Le.refl _|with_reducible exact B4e _ _|with_reducible exact A8c _ _|with_reducible exact B4f _|with_reducible refine Le.bind ?_ fun _=> ?_|with_reducible refine Le.cond ?_ ?_|with_reducible refine Le.ite ?_ ?_|with_reducible refine Le.thenS ?_ (fun _=> ?_) (fun _=> ?_)|with_reducible refine Le.loop (fun _=> ?_) _|with_reducible refine Le.loopL (fun _ _=> ?_) _ _|exact Le.refl _
def A91 (p1:Curve):Option Int:=
  cond (decide ((p1.Pts.length:Int)<2)) (some 6) (cond (decide ((p1.Pts.length:Int)>16)) (some 5) ((B3i p1.Pts).bind fun v1=>cond (!v1) (some 2) (thenS (A1x (A8d p1) (0,(CurveVector.mk 0 0))) (fun _=>some 0) (fun r=>some r))))
theorem B34 (p1:Curve):Le (A91 p1) (A3g p1):=by
  unfold A91 A3g
  repeat' first|with_reducible exact Le.refl _|with_reducible exact C0p _|with_reducible exact B58 _ _|with_reducible refine Le.bind ?_ fun _=> ?_|with_reducible refine Le.cond ?_ ?_|with_reducible refine Le.ite ?_ ?_|with_reducible refine Le.thenS ?_ (fun _=> ?_) (fun _=> ?_)|with_reducible refine Le.loop (fun _=> ?_) _|with_reducible refine Le.loopL (fun _ _=> ?_) _ _|exact Le.refl _
def A7b (p1:(List Int))(p3:Int)(x1:(Int×Int)):Option (Stp (Int×Int) (Sum Unit Bool)):=
  cond (decide (x1.2< (p1.length:Int))) ((F3 p1 x1.2).bind fun v1=>cond ((decide (v1<x1.1))||(decide (v1≥p3))) (some (.out (.inr false))) (some (.go ((w64 (v1+1)),(w64 (x1.2+1)))))) (some (.out (.inl ())))
theorem B4g (p1:(List Int))(p3:Int)(x1:(Int×Int)):Le (A7b p1 p3 x1) (V4 p1 p3 x1):=by
  unfold A7b V4
  repeat' first|with_reducible exact Le.refl _|with_reducible refine Le.bind ?_ fun _=> ?_|with_reducible refine Le.cond ?_ ?_|with_reducible refine Le.ite ?_ ?_|with_reducible refine Le.thenS ?_ (fun _=> ?_) (fun _=> ?_)|with_reducible refine Le.loop (fun _=> ?_) _|with_reducible refine Le.loopL (fun _ _=> ?_) _ _|exact Le.refl _
def A5r (p1:(List Int))(p2:Int)(p3:Int):Option Bool:=
  thenS (A1x (A7b p1 p3) (p2,0)) (fun _=>some true) (fun r=>some r)
theorem A8e (p1:(List Int))(p2:Int)(p3:Int):Le (A5r p1 p2 p3) (A1i p1 p2 p3):=by
  unfold A5r A1i
  repeat' first|with_reducible exact Le.refl _|with_reducible exact B4g _ _ _|with_reducible refine Le.bind ?_ fun _=> ?_|with_reducible refine Le.cond ?_ ?_|with_reducible refine Le.ite ?_ ?_|with_reducible refine Le.thenS ?_ (fun _=> ?_) (fun _=> ?_)|with_reducible refine Le.loop (fun _=> ?_) _|with_reducible refine Le.loopL (fun _ _=> ?_) _ _|exact Le.refl _
def A3z (p1:RoadsCheck)(x1:Int):Option (Stp Int (Sum Unit Int)):=
  cond (decide (x1< (p1.Map_.Lanes.length:Int))) ((F3 p1.Map_.Lanes x1).bind fun v1=>(A7q v1.Kind).bind fun v2=>cond (v2.1==0) (some (.out (.inr 4))) ((A91 v1.Curve_).bind fun v3=>cond (v3 !=0) (some (.out (.inr v3))) ((T8 v1.Half 200 4000).bind fun v4=>((cond (!(!v4)) (T8 v1.Limit 1 v2.1) (some default))).bind fun v5=>cond ((!v4)||(!v5)) (some (.out (.inr 2))) (cond (decide ((v1.Next.length:Int)>3)) (some (.out (.inr 8))) ((A5r v1.Next (w64 (x1+1)) (p1.Map_.Lanes.length:Int)).bind fun v6=>cond (!v6) (some (.out (.inr 11))) (some (.go (w64 (x1+1))))))))) (some (.out (.inl ())))
theorem B0b (p1:RoadsCheck)(x1:Int):Le (A3z p1 x1) (O8 p1 x1):=by
  unfold A3z O8
  repeat' first|with_reducible exact Le.refl _|with_reducible exact B1p _|with_reducible exact B34 _|with_reducible exact Z3 _ _ _|with_reducible exact A8e _ _ _|with_reducible refine Le.bind ?_ fun _=> ?_|with_reducible refine Le.cond ?_ ?_|with_reducible refine Le.ite ?_ ?_|with_reducible refine Le.thenS ?_ (fun _=> ?_) (fun _=> ?_)|with_reducible refine Le.loop (fun _=> ?_) _|with_reducible refine Le.loopL (fun _ _=> ?_) _ _|exact Le.refl _
def A5s (p1:RoadsCheck):Option Int:=
  thenS (A1x (A3z p1) 0) (fun _=>some 0) (fun r=>some r)
theorem B2o (p1:RoadsCheck):Le (A5s p1) (U5 p1):=by
  unfold A5s U5
  repeat' first|with_reducible exact Le.refl _|with_reducible exact B0b _ _|with_reducible refine Le.bind ?_ fun _=> ?_|with_reducible refine Le.cond ?_ ?_|with_reducible refine Le.ite ?_ ?_|with_reducible refine Le.thenS ?_ (fun _=> ?_) (fun _=> ?_)|with_reducible refine Le.loop (fun _=> ?_) _|with_reducible refine Le.loopL (fun _ _=> ?_) _ _|exact Le.refl _
def A37 (p1:RoadsCheck)(v1:Lane)(v2:Spot)(x2:Int):Option (Stp Int (Sum Unit Int)):=
  cond (decide (x2< (v1.Next.length:Int))) ((F3 v1.Next x2).bind fun v3=>(F3 p1.Map_.Lanes v3).bind fun v4=>cond (v4.Kind !=v1.Kind) (some (.out (.inr 4))) ((F3 p1.Map_.Lanes v3).bind fun v5=>(F3 v5.Curve_.Pts 0).bind fun v6=>cond (!(v6.X==v2.X&& (v6.Y==v2.Y&&true))) (some (.out (.inr 3))) (some (.go (w64 (x2+1)))))) (some (.out (.inl ())))
theorem A9s (p1:RoadsCheck)(v1:Lane)(v2:Spot)(x2:Int):Le (A37 p1 v1 v2 x2) (N7 p1 v1 v2 x2):=by
  unfold A37 N7
  repeat' first|with_reducible exact Le.refl _|with_reducible refine Le.bind ?_ fun _=> ?_|with_reducible refine Le.cond ?_ ?_|with_reducible refine Le.ite ?_ ?_|with_reducible refine Le.thenS ?_ (fun _=> ?_) (fun _=> ?_)|with_reducible refine Le.loop (fun _=> ?_) _|with_reducible refine Le.loopL (fun _ _=> ?_) _ _|exact Le.refl _
def A38 (p1:RoadsCheck)(x1:Int):Option (Stp Int (Sum Unit Int)):=
  cond (decide (x1< (p1.Map_.Lanes.length:Int))) ((F3 p1.Map_.Lanes x1).bind fun v1=>(F3 v1.Curve_.Pts (w64 ((v1.Curve_.Pts.length:Int) - 1))).bind fun v2=>thenS (A1x (A37 p1 v1 v2) 0) (fun _=>some (.go (w64 (x1+1)))) (fun r=>some (.out (.inr r)))) (some (.out (.inl ())))
theorem A9t (p1:RoadsCheck)(x1:Int):Le (A38 p1 x1) (N8 p1 x1):=by
  unfold A38 N8
  repeat' first|with_reducible exact Le.refl _|with_reducible exact A9s _ _ _ _|with_reducible refine Le.bind ?_ fun _=> ?_|with_reducible refine Le.cond ?_ ?_|with_reducible refine Le.ite ?_ ?_|with_reducible refine Le.thenS ?_ (fun _=> ?_) (fun _=> ?_)|with_reducible refine Le.loop (fun _=> ?_) _|with_reducible refine Le.loopL (fun _ _=> ?_) _ _|exact Le.refl _
def A53 (p1:RoadsCheck):Option Int:=
  thenS (A1x (A38 p1) 0) (fun _=>some 0) (fun r=>some r)
theorem B1q (p1:RoadsCheck):Le (A53 p1) (S6 p1):=by
  unfold A53 S6
  repeat' first|with_reducible exact Le.refl _|with_reducible exact A9t _ _|with_reducible refine Le.bind ?_ fun _=> ?_|with_reducible refine Le.cond ?_ ?_|with_reducible refine Le.ite ?_ ?_|with_reducible refine Le.thenS ?_ (fun _=> ?_) (fun _=> ?_)|with_reducible refine Le.loop (fun _=> ?_) _|with_reducible refine Le.loopL (fun _ _=> ?_) _ _|exact Le.refl _
def A39 (p1:Phase):Option Bool:=
  (T8 p1.Ticks 1 10000).bind fun v1=>some (!v1)
theorem A9u (p1:Phase):Le (A39 p1) (U6 p1):=by
  unfold A39 U6
  repeat' first|with_reducible exact Le.refl _|with_reducible exact Z3 _ _ _|with_reducible refine Le.bind ?_ fun _=> ?_|with_reducible refine Le.cond ?_ ?_|with_reducible refine Le.ite ?_ ?_|with_reducible refine Le.thenS ?_ (fun _=> ?_) (fun _=> ?_)|with_reducible refine Le.loop (fun _=> ?_) _|with_reducible refine Le.loopL (fun _ _=> ?_) _ _|exact Le.refl _
def K0 (p1:(List Phase))(x1:Int):Option (Stp Int (Sum Unit Int)):=
  cond (decide (x1< (p1.length:Int))) ((F3 p1 x1).bind fun v1=>(A39 v1).bind fun v2=>cond v2 (some (.out (.inr x1))) (some (.go (w64 (x1+1))))) (some (.out (.inl ())))
theorem Z9 (p1:(List Phase))(x1:Int):Le (K0 p1 x1) (C9 p1 x1):=by
  unfold K0 C9
  repeat' first|with_reducible exact Le.refl _|with_reducible exact A9u _|with_reducible refine Le.bind ?_ fun _=> ?_|with_reducible refine Le.cond ?_ ?_|with_reducible refine Le.ite ?_ ?_|with_reducible refine Le.thenS ?_ (fun _=> ?_) (fun _=> ?_)|with_reducible refine Le.loop (fun _=> ?_) _|with_reducible refine Le.loopL (fun _ _=> ?_) _ _|exact Le.refl _
def K7 (p1:(List Phase)):Option Int:=
  thenS (A1x (K0 p1) 0) (fun _=>some (-1)) (fun r=>some r)
theorem A0k (p1:(List Phase)):Le (K7 p1) (E2 p1):=by
  unfold K7 E2
  repeat' first|with_reducible exact Le.refl _|with_reducible exact Z9 _ _|with_reducible refine Le.bind ?_ fun _=> ?_|with_reducible refine Le.cond ?_ ?_|with_reducible refine Le.ite ?_ ?_|with_reducible refine Le.thenS ?_ (fun _=> ?_) (fun _=> ?_)|with_reducible refine Le.loop (fun _=> ?_) _|with_reducible refine Le.loopL (fun _ _=> ?_) _ _|exact Le.refl _
def K1 (p1:(List Phase)):Option Bool:=
  (K7 p1).bind fun v1=>some (decide (v1≥0))
theorem A00 (p1:(List Phase)):Le (K1 p1) (D0 p1):=by
  unfold K1 D0
  repeat' first|with_reducible exact Le.refl _|with_reducible exact A0k _|with_reducible refine Le.bind ?_ fun _=> ?_|with_reducible refine Le.cond ?_ ?_|with_reducible refine Le.ite ?_ ?_|with_reducible refine Le.thenS ?_ (fun _=> ?_) (fun _=> ?_)|with_reducible refine Le.loop (fun _=> ?_) _|with_reducible refine Le.loopL (fun _ _=> ?_) _ _|exact Le.refl _
def A2g (p1:Phase)(p2:RoadsCheck):Option Bool:=
  (A5r p1.Green 0 (p2.Map_.Lanes.length:Int)).bind fun v1=>some (!v1)
theorem A8q (p1:Phase)(p2:RoadsCheck):Le (A2g p1 p2) (R4 p1 p2):=by
  unfold A2g R4
  repeat' first|with_reducible exact Le.refl _|with_reducible exact A8e _ _ _|with_reducible refine Le.bind ?_ fun _=> ?_|with_reducible refine Le.cond ?_ ?_|with_reducible refine Le.ite ?_ ?_|with_reducible refine Le.thenS ?_ (fun _=> ?_) (fun _=> ?_)|with_reducible refine Le.loop (fun _=> ?_) _|with_reducible refine Le.loopL (fun _ _=> ?_) _ _|exact Le.refl _
def J8 (p1:(List Phase))(p2:RoadsCheck)(x1:Int):Option (Stp Int (Sum Unit Int)):=
  cond (decide (x1< (p1.length:Int))) ((F3 p1 x1).bind fun v1=>(A2g v1 p2).bind fun v2=>cond v2 (some (.out (.inr x1))) (some (.go (w64 (x1+1))))) (some (.out (.inl ())))
theorem Z4 (p1:(List Phase))(p2:RoadsCheck)(x1:Int):Le (J8 p1 p2 x1) (C7 p1 p2 x1):=by
  unfold J8 C7
  repeat' first|with_reducible exact Le.refl _|with_reducible exact A8q _ _|with_reducible refine Le.bind ?_ fun _=> ?_|with_reducible refine Le.cond ?_ ?_|with_reducible refine Le.ite ?_ ?_|with_reducible refine Le.thenS ?_ (fun _=> ?_) (fun _=> ?_)|with_reducible refine Le.loop (fun _=> ?_) _|with_reducible refine Le.loopL (fun _ _=> ?_) _ _|exact Le.refl _
def K4 (p1:(List Phase))(p2:RoadsCheck):Option Int:=
  thenS (A1x (J8 p1 p2) 0) (fun _=>some (-1)) (fun r=>some r)
theorem A0e (p1:(List Phase))(p2:RoadsCheck):Le (K4 p1 p2) (D9 p1 p2):=by
  unfold K4 D9
  repeat' first|with_reducible exact Le.refl _|with_reducible exact Z4 _ _ _|with_reducible refine Le.bind ?_ fun _=> ?_|with_reducible refine Le.cond ?_ ?_|with_reducible refine Le.ite ?_ ?_|with_reducible refine Le.thenS ?_ (fun _=> ?_) (fun _=> ?_)|with_reducible refine Le.loop (fun _=> ?_) _|with_reducible refine Le.loopL (fun _ _=> ?_) _ _|exact Le.refl _
def J9 (p1:(List Phase))(p2:RoadsCheck):Option Bool:=
  (K4 p1 p2).bind fun v1=>some (decide (v1≥0))
theorem Z5 (p1:(List Phase))(p2:RoadsCheck):Le (J9 p1 p2) (C8 p1 p2):=by
  unfold J9 C8
  repeat' first|with_reducible exact Le.refl _|with_reducible exact A0e _ _|with_reducible refine Le.bind ?_ fun _=> ?_|with_reducible refine Le.cond ?_ ?_|with_reducible refine Le.ite ?_ ?_|with_reducible refine Le.thenS ?_ (fun _=> ?_) (fun _=> ?_)|with_reducible refine Le.loop (fun _=> ?_) _|with_reducible refine Le.loopL (fun _ _=> ?_) _ _|exact Le.refl _
def A2u (p1:RoadsCheck)(x1:Int):Option (Stp Int (Sum Unit Int)):=
  cond (decide (x1< (p1.Map_.Signals.length:Int))) ((F3 p1.Map_.Signals x1).bind fun v1=>cond ((v1.Phases.length:Int)==0) (some (.out (.inr 6))) (cond (decide ((v1.Phases.length:Int)>6)) (some (.out (.inr 8))) ((T8 v1.Offset 0 1099511627776).bind fun v2=>cond (!v2) (some (.out (.inr 2))) ((K1 v1.Phases).bind fun v3=>cond v3 (some (.out (.inr 2))) ((J9 v1.Phases p1).bind fun v4=>cond v4 (some (.out (.inr 11))) (some (.go (w64 (x1+1))))))))) (some (.out (.inl ())))
theorem A9a (p1:RoadsCheck)(x1:Int):Le (A2u p1 x1) (M9 p1 x1):=by
  unfold A2u M9
  repeat' first|with_reducible exact Le.refl _|with_reducible exact Z3 _ _ _|with_reducible exact A00 _|with_reducible exact Z5 _ _|with_reducible refine Le.bind ?_ fun _=> ?_|with_reducible refine Le.cond ?_ ?_|with_reducible refine Le.ite ?_ ?_|with_reducible refine Le.thenS ?_ (fun _=> ?_) (fun _=> ?_)|with_reducible refine Le.loop (fun _=> ?_) _|with_reducible refine Le.loopL (fun _ _=> ?_) _ _|exact Le.refl _
def A4n (p1:RoadsCheck):Option Int:=
  thenS (A1x (A2u p1) 0) (fun _=>some 0) (fun r=>some r)
theorem B14 (p1:RoadsCheck):Le (A4n p1) (Q8 p1):=by
  unfold A4n Q8
  repeat' first|with_reducible exact Le.refl _|with_reducible exact A9a _ _|with_reducible refine Le.bind ?_ fun _=> ?_|with_reducible refine Le.cond ?_ ?_|with_reducible refine Le.ite ?_ ?_|with_reducible refine Le.thenS ?_ (fun _=> ?_) (fun _=> ?_)|with_reducible refine Le.loop (fun _=> ?_) _|with_reducible refine Le.loopL (fun _ _=> ?_) _ _|exact Le.refl _
def B4h (pts:List Spot):Nat→Nat→Int→Option (List (Int×CurvePiece))
  |0,_,_=>some []
  |n+1,i,start=>(pts[i]?).bind fun p=>(pts[i+1]?).bind fun q=>(B09 p q).bind fun v=>(A2f v v).bind fun d=>(B0a d).bind fun r=>
   (B4h pts n (i+1) (w64 (start+r.1))).bind fun l=>some (((i:Int),CurvePiece.mk p v r.1 start)::l)
theorem B7t (pts:List Spot): ∀(n i:Nat) (s:Int),Le (B4h pts n i s) (A5l pts n i s)
  |0,i,s=>Le.refl _
  |n+1,i,s=>by
   rw [A5l,B4h]
   exact Le.bind (Le.refl _) fun _=>Le.bind (Le.refl _) fun _=>Le.bind (B4e _ _) fun _=>Le.bind (A8c _ _) fun _=>Le.bind (B4f _) fun _=>Le.bind (B7t pts n _ _) fun _=>Le.refl _
def C0q (pts:List Spot):Option (List (Int×CurvePiece)):=if pts.length≤1000000 then B4h pts (pts.length - 1) 0 0 else none
theorem C60 (pts:List Spot):Le (C0q pts) (B3h pts):=by
  unfold C0q B3h
  repeat' first|with_reducible exact Le.refl _|with_reducible exact B7t _ _ _ _|with_reducible refine Le.bind ?_ fun _=> ?_|with_reducible refine Le.cond ?_ ?_|with_reducible refine Le.ite ?_ ?_|with_reducible refine Le.thenS ?_ (fun _=> ?_) (fun _=> ?_)|with_reducible refine Le.loop (fun _=> ?_) _|with_reducible refine Le.loopL (fun _ _=> ?_) _ _|exact Le.refl _
def A7c (x1:(List Int))(a1:(Int×CurvePiece)):Option (Stp (List Int) (List Int)):=
  (B18 x1 [a1.2.l]).bind fun v3=>some (.go v3)
theorem B4i (x1:(List Int))(a1:(Int×CurvePiece)):Le (A7c x1 a1) (X9 x1 a1):=by
  unfold A7c X9
  repeat' first|with_reducible exact Le.refl _|with_reducible refine Le.bind ?_ fun _=> ?_|with_reducible refine Le.cond ?_ ?_|with_reducible refine Le.ite ?_ ?_|with_reducible refine Le.thenS ?_ (fun _=> ?_) (fun _=> ?_)|with_reducible refine Le.loop (fun _=> ?_) _|with_reducible refine Le.loopL (fun _ _=> ?_) _ _|exact Le.refl _
def B0c (p1:Curve):Option (List Int):=
  (A91 p1).bind fun v1=>cond (v1 !=0) (some []) (((C0q p1.Pts).bind fun v2=>loopL (A7c) (fun (x1:(List Int))=>x1) v2 []).bind fun y1=>some y1)
theorem B7u (p1:Curve):Le (B0c p1) (A3h p1):=by
  unfold B0c A3h
  repeat' first|with_reducible exact Le.refl _|with_reducible exact B34 _|with_reducible exact C60 _|with_reducible exact B4i _ _|with_reducible refine Le.bind ?_ fun _=> ?_|with_reducible refine Le.cond ?_ ?_|with_reducible refine Le.ite ?_ ?_|with_reducible refine Le.thenS ?_ (fun _=> ?_) (fun _=> ?_)|with_reducible refine Le.loop (fun _=> ?_) _|with_reducible refine Le.loopL (fun _ _=> ?_) _ _|exact Le.refl _
def A7d (v1:(List Int))(x1:(Int×Int)):Option (Stp (Int×Int) Int):=
  cond (decide (x1.2< (v1.length:Int))) ((F3 v1 x1.2).bind fun v2=>some (.go ((w64 (x1.1+v2)),(w64 (x1.2+1))))) (some (.out x1.1))
theorem B4j (v1:(List Int))(x1:(Int×Int)):Le (A7d v1 x1) (T0 v1 x1):=by
  unfold A7d T0
  repeat' first|with_reducible exact Le.refl _|with_reducible refine Le.bind ?_ fun _=> ?_|with_reducible refine Le.cond ?_ ?_|with_reducible refine Le.ite ?_ ?_|with_reducible refine Le.thenS ?_ (fun _=> ?_) (fun _=> ?_)|with_reducible refine Le.loop (fun _=> ?_) _|with_reducible refine Le.loopL (fun _ _=> ?_) _ _|exact Le.refl _
def B0d (p1:Curve):Option Int:=
  (B0c p1).bind fun v1=>(A1x (A7d v1) (0,0)).bind fun y1=>some y1
theorem B7v (p1:Curve):Le (B0d p1) (A3i p1):=by
  unfold B0d A3i
  repeat' first|with_reducible exact Le.refl _|with_reducible exact B7u _|with_reducible exact B4j _ _|with_reducible refine Le.bind ?_ fun _=> ?_|with_reducible refine Le.cond ?_ ?_|with_reducible refine Le.ite ?_ ?_|with_reducible refine Le.thenS ?_ (fun _=> ?_) (fun _=> ?_)|with_reducible refine Le.loop (fun _=> ?_) _|with_reducible refine Le.loopL (fun _ _=> ?_) _ _|exact Le.refl _
def A40 (p1:Map)(p2:Int):Option Int:=
  (F3 p1.Lanes p2).bind fun v1=>(B0d v1.Curve_).bind fun v2=>some v2
theorem A4h (p1:Map)(p2:Int):Le (A40 p1 p2) (A0q p1 p2):=by
  unfold A40 A0q
  repeat' first|with_reducible exact Le.refl _|with_reducible exact B7v _|with_reducible refine Le.bind ?_ fun _=> ?_|with_reducible refine Le.cond ?_ ?_|with_reducible refine Le.ite ?_ ?_|with_reducible refine Le.thenS ?_ (fun _=> ?_) (fun _=> ?_)|with_reducible refine Le.loop (fun _=> ?_) _|with_reducible refine Le.loopL (fun _ _=> ?_) _ _|exact Le.refl _
def A41 (p1:RoadsCheck)(v1:Zone)(x3:Int):Option (Stp Int (Sum Unit Int)):=
  cond (decide (x3< (v1.Parts.length:Int))) ((F3 v1.Parts x3).bind fun v5=>((cond (!((decide (v5.From<0))||(decide (v5.From≥v5.To)))) (A40 p1.Map_ v5.Lane_) (some default))).bind fun v6=>cond (((((decide (v5.From<0))||(decide (v5.From≥v5.To)))||(decide (v5.To>v6)))||(decide (v5.Rank<0)))||(decide (v5.Rank>100))) (some (.out (.inr 2))) (some (.go (w64 (x3+1))))) (some (.out (.inl ())))
theorem B0e (p1:RoadsCheck)(v1:Zone)(x3:Int):Le (A41 p1 v1 x3) (O9 p1 v1 x3):=by
  unfold A41 O9
  repeat' first|with_reducible exact Le.refl _|with_reducible exact A4h _ _|with_reducible refine Le.bind ?_ fun _=> ?_|with_reducible refine Le.cond ?_ ?_|with_reducible refine Le.ite ?_ ?_|with_reducible refine Le.thenS ?_ (fun _=> ?_) (fun _=> ?_)|with_reducible refine Le.loop (fun _=> ?_) _|with_reducible refine Le.loopL (fun _ _=> ?_) _ _|exact Le.refl _
def A42 (v1:Zone)(x2:((List Int)×Int)):Option (Stp ((List Int)×Int) (List Int)):=
  cond (decide (x2.2< (v1.Parts.length:Int))) ((F3 v1.Parts x2.2).bind fun v2=>(B18 x2.1 [v2.Lane_]).bind fun v3=>some (.go (v3,(w64 (x2.2+1))))) (some (.out x2.1))
theorem B0f (v1:Zone)(x2:((List Int)×Int)):Le (A42 v1 x2) (V7 v1 x2):=by
  unfold A42 V7
  repeat' first|with_reducible exact Le.refl _|with_reducible refine Le.bind ?_ fun _=> ?_|with_reducible refine Le.cond ?_ ?_|with_reducible refine Le.ite ?_ ?_|with_reducible refine Le.thenS ?_ (fun _=> ?_) (fun _=> ?_)|with_reducible refine Le.loop (fun _=> ?_) _|with_reducible refine Le.loopL (fun _ _=> ?_) _ _|exact Le.refl _
def A43 (p1:RoadsCheck)(x1:Int):Option (Stp Int (Sum Unit Int)):=
  cond (decide (x1< (p1.Map_.Zones.length:Int))) ((F3 p1.Map_.Zones x1).bind fun v1=>cond (decide ((v1.Parts.length:Int)<2)) (some (.out (.inr 6))) (cond (decide ((v1.Parts.length:Int)>6)) (some (.out (.inr 8))) (cond ((decide (v1.Signal_<0))||(decide (v1.Signal_>(p1.Map_.Signals.length:Int)))) (some (.out (.inr 2))) ((A1x (A42 v1) ([],0)).bind fun y2=>(A5r y2 0 (p1.Map_.Lanes.length:Int)).bind fun v4=>cond (!v4) (some (.out (.inr 11))) (thenS (A1x (A41 p1 v1) 0) (fun _=>some (.go (w64 (x1+1)))) (fun r=>some (.out (.inr r)))))))) (some (.out (.inl ())))
theorem B0g (p1:RoadsCheck)(x1:Int):Le (A43 p1 x1) (P0 p1 x1):=by
  unfold A43 P0
  repeat' first|with_reducible exact Le.refl _|with_reducible exact B0f _ _|with_reducible exact A8e _ _ _|with_reducible exact B0e _ _ _|with_reducible refine Le.bind ?_ fun _=> ?_|with_reducible refine Le.cond ?_ ?_|with_reducible refine Le.ite ?_ ?_|with_reducible refine Le.thenS ?_ (fun _=> ?_) (fun _=> ?_)|with_reducible refine Le.loop (fun _=> ?_) _|with_reducible refine Le.loopL (fun _ _=> ?_) _ _|exact Le.refl _
def A5t (p1:RoadsCheck):Option Int:=
  thenS (A1x (A43 p1) 0) (fun _=>some 0) (fun r=>some r)
theorem B2p (p1:RoadsCheck):Le (A5t p1) (U7 p1):=by
  unfold A5t U7
  repeat' first|with_reducible exact Le.refl _|with_reducible exact B0g _ _|with_reducible refine Le.bind ?_ fun _=> ?_|with_reducible refine Le.cond ?_ ?_|with_reducible refine Le.ite ?_ ?_|with_reducible refine Le.thenS ?_ (fun _=> ?_) (fun _=> ?_)|with_reducible refine Le.loop (fun _=> ?_) _|with_reducible refine Le.loopL (fun _ _=> ?_) _ _|exact Le.refl _
def A44 (p1:RoadsCheck)(x1:Int):Option (Stp Int (Sum Unit Int)):=
  cond (decide (x1< (p1.Map_.Works.length:Int))) ((F3 p1.Map_.Works x1).bind fun v1=>cond ((decide (v1.Lane_<0))||(decide (v1.Lane_≥(p1.Map_.Lanes.length:Int)))) (some (.out (.inr 7))) ((F3 p1.Map_.Lanes v1.Lane_).bind fun v2=>(A7q v2.Kind).bind fun v3=>((cond (!((decide (v1.From<0))||(decide (v1.From>v1.To)))) (A40 p1.Map_ v1.Lane_) (some default))).bind fun v4=>((cond (!((((((decide (v1.From<0))||(decide (v1.From>v1.To)))||(decide (v1.To>v4)))||(decide (v1.Begin<0)))||(decide (v1.Begin≥v1.End)))||(decide (v1.End>1099511627776)))) (T8 v1.Limit 0 v3.1) (some default))).bind fun v5=>cond (((((((decide (v1.From<0))||(decide (v1.From>v1.To)))||(decide (v1.To>v4)))||(decide (v1.Begin<0)))||(decide (v1.Begin≥v1.End)))||(decide (v1.End>1099511627776)))||(!v5)) (some (.out (.inr 2))) (some (.go (w64 (x1+1)))))) (some (.out (.inl ())))
theorem B0h (p1:RoadsCheck)(x1:Int):Le (A44 p1 x1) (P1 p1 x1):=by
  unfold A44 P1
  repeat' first|with_reducible exact Le.refl _|with_reducible exact B1p _|with_reducible exact A4h _ _|with_reducible exact Z3 _ _ _|with_reducible refine Le.bind ?_ fun _=> ?_|with_reducible refine Le.cond ?_ ?_|with_reducible refine Le.ite ?_ ?_|with_reducible refine Le.thenS ?_ (fun _=> ?_) (fun _=> ?_)|with_reducible refine Le.loop (fun _=> ?_) _|with_reducible refine Le.loopL (fun _ _=> ?_) _ _|exact Le.refl _
def A5u (p1:RoadsCheck):Option Int:=
  thenS (A1x (A44 p1) 0) (fun _=>some 0) (fun r=>some r)
theorem B2q (p1:RoadsCheck):Le (A5u p1) (U8 p1):=by
  unfold A5u U8
  repeat' first|with_reducible exact Le.refl _|with_reducible exact B0h _ _|with_reducible refine Le.bind ?_ fun _=> ?_|with_reducible refine Le.cond ?_ ?_|with_reducible refine Le.ite ?_ ?_|with_reducible refine Le.thenS ?_ (fun _=> ?_) (fun _=> ?_)|with_reducible refine Le.loop (fun _=> ?_) _|with_reducible refine Le.loopL (fun _ _=> ?_) _ _|exact Le.refl _
def A11 (v:Nat)(p1:RoadsCheck):Option Int:=
  cond (Nat.beq v 65) (A4m p1) (cond (Nat.beq v 66) (A5s p1) (cond (Nat.beq v 67) (A53 p1) (cond (Nat.beq v 68) (A4n p1) (cond (Nat.beq v 69) (A5t p1) (cond (Nat.beq v 70) (A5u p1) (none))))))
theorem A7e (v:Nat)(p1:RoadsCheck):Le (A11 v p1) (R6 v p1):=by
  unfold A11 R6
  repeat' first|with_reducible exact Le.refl _|with_reducible exact B13 _|with_reducible exact B2o _|with_reducible exact B1q _|with_reducible exact B14 _|with_reducible exact B2p _|with_reducible exact B2q _|with_reducible refine Le.bind ?_ fun _=> ?_|with_reducible refine Le.cond ?_ ?_|with_reducible refine Le.ite ?_ ?_|with_reducible refine Le.thenS ?_ (fun _=> ?_) (fun _=> ?_)|with_reducible refine Le.loop (fun _=> ?_) _|with_reducible refine Le.loopL (fun _ _=> ?_) _ _|exact Le.refl _
def A8f (p1:Map)(x1:Int):Option (Stp Int (Sum Unit Int)):=
  cond (decide (x1< ([65,66,67,68,69,70].length:Int))) ((F3 [65,66,67,68,69,70] x1).bind fun v1=>(A11 v1 (RoadsCheck.mk p1)).bind fun v2=>cond (v2 !=0) (some (.out (.inr v2))) (some (.go (w64 (x1+1))))) (some (.out (.inl ())))
theorem B59 (p1:Map)(x1:Int):Le (A8f p1 x1) (M0 p1 x1):=by
  unfold A8f M0
  repeat' first|with_reducible exact Le.refl _|with_reducible exact A7e _ _|with_reducible refine Le.bind ?_ fun _=> ?_|with_reducible refine Le.cond ?_ ?_|with_reducible refine Le.ite ?_ ?_|with_reducible refine Le.thenS ?_ (fun _=> ?_) (fun _=> ?_)|with_reducible refine Le.loop (fun _=> ?_) _|with_reducible refine Le.loopL (fun _ _=> ?_) _ _|exact Le.refl _
def A5d (p1:Map):Option Int:=
  thenS (A1x (A8f p1) 0) (fun _=>some 0) (fun r=>some r)
theorem A6h (p1:Map):Le (A5d p1) (A1r p1):=by
  unfold A5d A1r
  repeat' first|with_reducible exact Le.refl _|with_reducible exact B59 _ _|with_reducible refine Le.bind ?_ fun _=> ?_|with_reducible refine Le.cond ?_ ?_|with_reducible refine Le.ite ?_ ?_|with_reducible refine Le.thenS ?_ (fun _=> ?_) (fun _=> ?_)|with_reducible refine Le.loop (fun _=> ?_) _|with_reducible refine Le.loopL (fun _ _=> ?_) _ _|exact Le.refl _
def A2h (p1:(List Int))(p2:Int)(x1:Int):Option (Stp Int (Sum Unit Int)):=
  cond (decide (x1< (p1.length:Int))) ((F3 p1 x1).bind fun v1=>cond (p2==v1) (some (.out (.inr x1))) (some (.go (w64 (x1+1))))) (some (.out (.inl ())))
theorem A8r (p1:(List Int))(p2:Int)(x1:Int):Le (A2h p1 p2 x1) (O2 p1 p2 x1):=by
  unfold A2h O2
  repeat' first|with_reducible exact Le.refl _|with_reducible refine Le.bind ?_ fun _=> ?_|with_reducible refine Le.cond ?_ ?_|with_reducible refine Le.ite ?_ ?_|with_reducible refine Le.thenS ?_ (fun _=> ?_) (fun _=> ?_)|with_reducible refine Le.loop (fun _=> ?_) _|with_reducible refine Le.loopL (fun _ _=> ?_) _ _|exact Le.refl _
def A45 (p1:(List Int))(p2:Int):Option Int:=
  thenS (A1x (A2h p1 p2) 0) (fun _=>some (-1)) (fun r=>some r)
theorem B0i (p1:(List Int))(p2:Int):Le (A45 p1 p2) (V8 p1 p2):=by
  unfold A45 V8
  repeat' first|with_reducible exact Le.refl _|with_reducible exact A8r _ _ _|with_reducible refine Le.bind ?_ fun _=> ?_|with_reducible refine Le.cond ?_ ?_|with_reducible refine Le.ite ?_ ?_|with_reducible refine Le.thenS ?_ (fun _=> ?_) (fun _=> ?_)|with_reducible refine Le.loop (fun _=> ?_) _|with_reducible refine Le.loopL (fun _ _=> ?_) _ _|exact Le.refl _
def Q3 (p1:(List Int))(p2:Int):Option Bool:=
  (A45 p1 p2).bind fun v1=>some (decide (v1≥0))
theorem A1b (p1:(List Int))(p2:Int):Le (Q3 p1 p2) (J4 p1 p2):=by
  unfold Q3 J4
  repeat' first|with_reducible exact Le.refl _|with_reducible exact B0i _ _|with_reducible refine Le.bind ?_ fun _=> ?_|with_reducible refine Le.cond ?_ ?_|with_reducible refine Le.ite ?_ ?_|with_reducible refine Le.thenS ?_ (fun _=> ?_) (fun _=> ?_)|with_reducible refine Le.loop (fun _=> ?_) _|with_reducible refine Le.loopL (fun _ _=> ?_) _ _|exact Le.refl _
def A7f (p1:Map)(p2:Int)(x1:((List Int)×Int)):Option (Stp ((List Int)×Int) (List Int)):=
  cond (decide (x1.2< (p1.Lanes.length:Int))) ((F3 p1.Lanes x1.2).bind fun v1=>(Q3 v1.Next p2).bind fun v2=>cond v2 ((B18 x1.1 [x1.2]).bind fun v3=>some (.go (v3,(w64 (x1.2+1))))) (some (.go (x1.1,(w64 (x1.2+1)))))) (some (.out x1.1))
theorem B4k (p1:Map)(p2:Int)(x1:((List Int)×Int)):Le (A7f p1 p2 x1) (A0v p1 p2 x1):=by
  unfold A7f A0v
  repeat' first|with_reducible exact Le.refl _|with_reducible exact A1b _ _|with_reducible refine Le.bind ?_ fun _=> ?_|with_reducible refine Le.cond ?_ ?_|with_reducible refine Le.ite ?_ ?_|with_reducible refine Le.thenS ?_ (fun _=> ?_) (fun _=> ?_)|with_reducible refine Le.loop (fun _=> ?_) _|with_reducible refine Le.loopL (fun _ _=> ?_) _ _|exact Le.refl _
def A5v (p1:Map)(p2:Int):Option (List Int):=
  (A1x (A7f p1 p2) ([],0)).bind fun y1=>some y1
theorem A8g (p1:Map)(p2:Int):Le (A5v p1 p2) (A1j p1 p2):=by
  unfold A5v A1j
  repeat' first|with_reducible exact Le.refl _|with_reducible exact B4k _ _ _|with_reducible refine Le.bind ?_ fun _=> ?_|with_reducible refine Le.cond ?_ ?_|with_reducible refine Le.ite ?_ ?_|with_reducible refine Le.thenS ?_ (fun _=> ?_) (fun _=> ?_)|with_reducible refine Le.loop (fun _=> ?_) _|with_reducible refine Le.loopL (fun _ _=> ?_) _ _|exact Le.refl _
def A4o (p1:Map)(v7:List Int)(x1:(Int×Int)):Option (Stp (Int×Int) (Sum Unit Int)):=
  cond (decide (x1.2< (v7.length:Int))) ((F3 v7 x1.2).bind fun v8=>(F3 p1.Lanes x1.1).bind fun v9=>(Q3 v9.Next v8).bind fun v10=>cond (!v10) (some (.out (.inr 13))) (some (.go (v8,(w64 (x1.2+1)))))) (some (.out (.inl ())))
theorem B15 (p1:Map)(v7:List Int)(x1:(Int×Int)):Le (A4o p1 v7 x1) (O3 p1 v7 x1):=by
  unfold A4o O3
  repeat' first|with_reducible exact Le.refl _|with_reducible exact A1b _ _|with_reducible refine Le.bind ?_ fun _=> ?_|with_reducible refine Le.cond ?_ ?_|with_reducible refine Le.ite ?_ ?_|with_reducible refine Le.thenS ?_ (fun _=> ?_) (fun _=> ?_)|with_reducible refine Le.loop (fun _=> ?_) _|with_reducible refine Le.loopL (fun _ _=> ?_) _ _|exact Le.refl _
def A66 (p1:Map)(p2:(List Int)):Option Int:=
  (A5d p1).bind fun v1=>cond (v1 !=0) (some v1) (((cond (!(((p2.length:Int)==0)||(decide ((p2.length:Int)>8)))) (F3 p2 0) (some default))).bind fun v2=>((cond (!((((p2.length:Int)==0)||(decide ((p2.length:Int)>8)))||(decide (v2<0)))) (F3 p2 0) (some default))).bind fun v3=>((cond (!(((((p2.length:Int)==0)||(decide ((p2.length:Int)>8)))||(decide (v2<0)))||(decide (v3≥(p1.Lanes.length:Int))))) (F3 p2 0) (some default))).bind fun v4=>((cond (!(((((p2.length:Int)==0)||(decide ((p2.length:Int)>8)))||(decide (v2<0)))||(decide (v3≥(p1.Lanes.length:Int))))) (A5v p1 v4) (some default))).bind fun v5=>cond ((((((p2.length:Int)==0)||(decide ((p2.length:Int)>8)))||(decide (v2<0)))||(decide (v3≥(p1.Lanes.length:Int))))||(decide ((v5.length:Int)>0))) (some 13) ((F3 p2 0).bind fun v6=>(C6k p2 1 (p2.length:Int)).bind fun v7=>thenS (A1x (A4o p1 v7) (v6,0)) (fun _=>some 0) (fun r=>some r)))
theorem B3j (p1:Map)(p2:(List Int)):Le (A66 p1 p2) (V9 p1 p2):=by
  unfold A66 V9
  repeat' first|with_reducible exact Le.refl _|with_reducible exact A6h _|with_reducible exact A8g _ _|with_reducible exact B15 _ _ _|with_reducible refine Le.bind ?_ fun _=> ?_|with_reducible refine Le.cond ?_ ?_|with_reducible refine Le.ite ?_ ?_|with_reducible refine Le.thenS ?_ (fun _=> ?_) (fun _=> ?_)|with_reducible refine Le.loop (fun _=> ?_) _|with_reducible refine Le.loopL (fun _ _=> ?_) _ _|exact Le.refl _
def A7g (p1:Map)(p2:(List Int))(x1:(Int×RoadsWay)):Option (Stp (Int×RoadsWay) RoadsWay):=
  cond (decide (x1.1< (p2.length:Int))) ((F3 p2 x1.1).bind fun v2=>(B18 x1.2.starts [x1.2.length]).bind fun v3=>(A40 p1 v2).bind fun v4=>some (.go ((w64 (x1.1+1)),(RoadsWay.mk x1.2.Map_ x1.2.lanes v3 (w64 (x1.2.length+v4)))))) (some (.out x1.2))
theorem B4l (p1:Map)(p2:(List Int))(x1:(Int×RoadsWay)):Le (A7g p1 p2 x1) (V5 p1 p2 x1):=by
  unfold A7g V5
  repeat' first|with_reducible exact Le.refl _|with_reducible exact A4h _ _|with_reducible refine Le.bind ?_ fun _=> ?_|with_reducible refine Le.cond ?_ ?_|with_reducible refine Le.ite ?_ ?_|with_reducible refine Le.thenS ?_ (fun _=> ?_) (fun _=> ?_)|with_reducible refine Le.loop (fun _=> ?_) _|with_reducible refine Le.loopL (fun _ _=> ?_) _ _|exact Le.refl _
def B0j (p1:Map)(p2:(List Int)):Option RoadsWay:=
  (A66 p1 p2).bind fun v1=>cond (v1 !=0) (some (RoadsWay.mk (Map.mk 0 [] [] [] []) [] [] 0)) ((A1x (A7g p1 p2) (0,(RoadsWay.mk p1 p2 [] 0))).bind fun y1=>some y1)
theorem B7w (p1:Map)(p2:(List Int)):Le (B0j p1 p2) (Y3 p1 p2):=by
  unfold B0j Y3
  repeat' first|with_reducible exact Le.refl _|with_reducible exact B3j _ _|with_reducible exact B4l _ _ _|with_reducible refine Le.bind ?_ fun _=> ?_|with_reducible refine Le.cond ?_ ?_|with_reducible refine Le.ite ?_ ?_|with_reducible refine Le.thenS ?_ (fun _=> ?_) (fun _=> ?_)|with_reducible refine Le.loop (fun _=> ?_) _|with_reducible refine Le.loopL (fun _ _=> ?_) _ _|exact Le.refl _
def A8h (p3:Int)(v1:RoadsWay)(x1:Int):Option (Stp Int Int):=
  (F3 v1.starts x1).bind fun v3=>cond (decide (v3>p3)) (some (.go (w64 (x1 - 1)))) (some (.out x1))
theorem B5a (p3:Int)(v1:RoadsWay)(x1:Int):Le (A8h p3 v1 x1) (X4 p3 v1 x1):=by
  unfold A8h X4
  repeat' first|with_reducible exact Le.refl _|with_reducible refine Le.bind ?_ fun _=> ?_|with_reducible refine Le.cond ?_ ?_|with_reducible refine Le.ite ?_ ?_|with_reducible refine Le.thenS ?_ (fun _=> ?_) (fun _=> ?_)|with_reducible refine Le.loop (fun _=> ?_) _|with_reducible refine Le.loopL (fun _ _=> ?_) _ _|exact Le.refl _
def B1r (p1:Map)(p2:(List Int))(p3:Int):Option (Int×Int×Bool):=
  (B0j p1 p2).bind fun v1=>((cond (!((v1.lanes.length:Int)==0)) (T8 p3 0 v1.length) (some default))).bind fun v2=>cond (((v1.lanes.length:Int)==0)||(!v2)) (some (0,0,false)) ((A1x (A8h p3 v1) (w64 ((v1.lanes.length:Int) - 1))).bind fun y1=>(F3 v1.lanes y1).bind fun v4=>(F3 v1.starts y1).bind fun v5=>some (v4,(w64 (p3 - v5)),true))
theorem B92 (p1:Map)(p2:(List Int))(p3:Int):Le (B1r p1 p2 p3) (A0w p1 p2 p3):=by
  unfold B1r A0w
  repeat' first|with_reducible exact Le.refl _|with_reducible exact B7w _ _|with_reducible exact Z3 _ _ _|with_reducible exact B5a _ _ _|with_reducible refine Le.bind ?_ fun _=> ?_|with_reducible refine Le.cond ?_ ?_|with_reducible refine Le.ite ?_ ?_|with_reducible refine Le.thenS ?_ (fun _=> ?_) (fun _=> ?_)|with_reducible refine Le.loop (fun _=> ?_) _|with_reducible refine Le.loopL (fun _ _=> ?_) _ _|exact Le.refl _
def A8i (p1:Part)(p2:Int):Option Bool:=
  some (p1.Lane_==p2)
theorem B5b (p1:Part)(p2:Int):Le (A8i p1 p2) (A32 p1 p2):=by
  unfold A8i A32
  repeat' first|with_reducible exact Le.refl _|with_reducible refine Le.bind ?_ fun _=> ?_|with_reducible refine Le.cond ?_ ?_|with_reducible refine Le.ite ?_ ?_|with_reducible refine Le.thenS ?_ (fun _=> ?_) (fun _=> ?_)|with_reducible refine Le.loop (fun _=> ?_) _|with_reducible refine Le.loopL (fun _ _=> ?_) _ _|exact Le.refl _
def N3 (p1:(List Part))(p2:Int)(x1:Int):Option (Stp Int (Sum Unit Int)):=
  cond (decide (x1< (p1.length:Int))) ((F3 p1 x1).bind fun v1=>(A8i v1 p2).bind fun v2=>cond v2 (some (.out (.inr x1))) (some (.go (w64 (x1+1))))) (some (.out (.inl ())))
theorem A1z (p1:(List Part))(p2:Int)(x1:Int):Le (N3 p1 p2 x1) (E7 p1 p2 x1):=by
  unfold N3 E7
  repeat' first|with_reducible exact Le.refl _|with_reducible exact B5b _ _|with_reducible refine Le.bind ?_ fun _=> ?_|with_reducible refine Le.cond ?_ ?_|with_reducible refine Le.ite ?_ ?_|with_reducible refine Le.thenS ?_ (fun _=> ?_) (fun _=> ?_)|with_reducible refine Le.loop (fun _=> ?_) _|with_reducible refine Le.loopL (fun _ _=> ?_) _ _|exact Le.refl _
def P2 (p1:(List Part))(p2:Int):Option Int:=
  thenS (A1x (N3 p1 p2) 0) (fun _=>some (-1)) (fun r=>some r)
theorem A2v (p1:(List Part))(p2:Int):Le (P2 p1 p2) (H5 p1 p2):=by
  unfold P2 H5
  repeat' first|with_reducible exact Le.refl _|with_reducible exact A1z _ _ _|with_reducible refine Le.bind ?_ fun _=> ?_|with_reducible refine Le.cond ?_ ?_|with_reducible refine Le.ite ?_ ?_|with_reducible refine Le.thenS ?_ (fun _=> ?_) (fun _=> ?_)|with_reducible refine Le.loop (fun _=> ?_) _|with_reducible refine Le.loopL (fun _ _=> ?_) _ _|exact Le.refl _
def A67 (p1:Zone)(p2:Int):Option (Part×Bool):=
  (P2 p1.Parts p2).bind fun v1=>cond (decide (v1<0)) (some ((Part.mk 0 0 0 0),false)) ((F3 p1.Parts v1).bind fun v2=>some (v2,true))
theorem B0k (p1:Zone)(p2:Int):Le (A67 p1 p2) (A23 p1 p2):=by
  unfold A67 A23
  repeat' first|with_reducible exact Le.refl _|with_reducible exact A2v _ _|with_reducible refine Le.bind ?_ fun _=> ?_|with_reducible refine Le.cond ?_ ?_|with_reducible refine Le.ite ?_ ?_|with_reducible refine Le.thenS ?_ (fun _=> ?_) (fun _=> ?_)|with_reducible refine Le.loop (fun _=> ?_) _|with_reducible refine Le.loopL (fun _ _=> ?_) _ _|exact Le.refl _
def A7h (p1:Map)(p2:Zone)(v2:(List Int))(x1:Int):Option (Stp Int (Sum Unit Bool)):=
  cond (decide (x1< (v2.length:Int))) ((F3 v2 x1).bind fun v3=>(A67 p2 v3).bind fun v4=>((cond (!(!v4.2)) (A40 p1 v3) (some default))).bind fun v5=>cond ((!v4.2)||(v4.1.To !=v5)) (some (.out (.inr false))) (some (.go (w64 (x1+1))))) (some (.out (.inl ())))
theorem B4m (p1:Map)(p2:Zone)(v2:(List Int))(x1:Int):Le (A7h p1 p2 v2 x1) (A3k p1 p2 v2 x1):=by
  unfold A7h A3k
  repeat' first|with_reducible exact Le.refl _|with_reducible exact B0k _ _|with_reducible exact A4h _ _|with_reducible refine Le.bind ?_ fun _=> ?_|with_reducible refine Le.cond ?_ ?_|with_reducible refine Le.ite ?_ ?_|with_reducible refine Le.thenS ?_ (fun _=> ?_) (fun _=> ?_)|with_reducible refine Le.loop (fun _=> ?_) _|with_reducible refine Le.loopL (fun _ _=> ?_) _ _|exact Le.refl _
def A7r (p1:Map)(p2:Zone)(p3:Int):Option Bool:=
  (A67 p2 p3).bind fun v1=>cond ((!v1.2)||(v1.1.From !=0)) (some false) ((A5v p1 p3).bind fun v2=>thenS (A1x (A7h p1 p2 v2) 0) (fun _=>some true) (fun r=>some r))
theorem B1s (p1:Map)(p2:Zone)(p3:Int):Le (A7r p1 p2 p3) (A58 p1 p2 p3):=by
  unfold A7r A58
  repeat' first|with_reducible exact Le.refl _|with_reducible exact B0k _ _|with_reducible exact A8g _ _|with_reducible exact B4m _ _ _ _|with_reducible refine Le.bind ?_ fun _=> ?_|with_reducible refine Le.cond ?_ ?_|with_reducible refine Le.ite ?_ ?_|with_reducible refine Le.thenS ?_ (fun _=> ?_) (fun _=> ?_)|with_reducible refine Le.loop (fun _=> ?_) _|with_reducible refine Le.loopL (fun _ _=> ?_) _ _|exact Le.refl _
def A8j (x1:(Int× (Int×Int×Int×Int×Int×Int×Int×Int×Int×Int×Int×Int)))(v1:Lane)(x2:(Int× (Int×Int×Int×Int×Int×Int×Int×Int×Int×Int×Int×Int))):Option (Stp (Int× (Int×Int×Int×Int×Int×Int×Int×Int×Int×Int×Int×Int)) (Int×Int×Int×Int×Int×Int×Int×Int×Int×Int×Int×Int)):=
  cond (decide (x2.1< (v1.Next.length:Int))) ((F3 v1.Next x2.1).bind fun v2=>(F3 ([x2.2.1,x2.2.2.1,x2.2.2.2.1,x2.2.2.2.2.1,x2.2.2.2.2.2.1,x2.2.2.2.2.2.2.1,x2.2.2.2.2.2.2.2.1,x2.2.2.2.2.2.2.2.2.1,x2.2.2.2.2.2.2.2.2.2.1,x2.2.2.2.2.2.2.2.2.2.2.1,x2.2.2.2.2.2.2.2.2.2.2.2.1,x2.2.2.2.2.2.2.2.2.2.2.2.2]:List Int) x1.1).bind fun v3=>(F3 ([x2.2.1,x2.2.2.1,x2.2.2.2.1,x2.2.2.2.2.1,x2.2.2.2.2.2.1,x2.2.2.2.2.2.2.1,x2.2.2.2.2.2.2.2.1,x2.2.2.2.2.2.2.2.2.1,x2.2.2.2.2.2.2.2.2.2.1,x2.2.2.2.2.2.2.2.2.2.2.1,x2.2.2.2.2.2.2.2.2.2.2.2.1,x2.2.2.2.2.2.2.2.2.2.2.2.2]:List Int) v2).bind fun v4=>(D58 .u32 1 (IntKind.wrap .u64 v2)).bind fun v5=>(F3 ([x2.2.1,x2.2.2.1,x2.2.2.2.1,x2.2.2.2.2.1,x2.2.2.2.2.2.1,x2.2.2.2.2.2.2.1,x2.2.2.2.2.2.2.2.1,x2.2.2.2.2.2.2.2.2.1,x2.2.2.2.2.2.2.2.2.2.1,x2.2.2.2.2.2.2.2.2.2.2.1,x2.2.2.2.2.2.2.2.2.2.2.2.1,x2.2.2.2.2.2.2.2.2.2.2.2.2]:List Int) x1.1).bind fun v6=>(D3k ([x2.2.1,x2.2.2.1,x2.2.2.2.1,x2.2.2.2.2.1,x2.2.2.2.2.2.1,x2.2.2.2.2.2.2.1,x2.2.2.2.2.2.2.2.1,x2.2.2.2.2.2.2.2.2.1,x2.2.2.2.2.2.2.2.2.2.1,x2.2.2.2.2.2.2.2.2.2.2.1,x2.2.2.2.2.2.2.2.2.2.2.2.1,x2.2.2.2.2.2.2.2.2.2.2.2.2]:List Int) x1.1 (IntKind.wrap .u32 (((BitVec.ofInt (IntKind.bits .u32) v3|||(BitVec.ofInt (IntKind.bits .u32) (IntKind.wrap .u32 (((BitVec.ofInt (IntKind.bits .u32) v4|||(BitVec.ofInt (IntKind.bits .u32) v5)).toNat:Nat))))).toNat:Nat)))).bind fun v7=>some (.go ((w64 (x2.1+1)),((v7.getD 0 0),(v7.getD 1 0),(v7.getD 2 0),(v7.getD 3 0),(v7.getD 4 0),(v7.getD 5 0),(v7.getD 6 0),(v7.getD 7 0),(v7.getD 8 0),(v7.getD 9 0),(v7.getD 10 0),(v7.getD 11 0))))) (some (.out x2.2))
theorem B5c (x1:(Int× (Int×Int×Int×Int×Int×Int×Int×Int×Int×Int×Int×Int)))(v1:Lane)(x2:(Int× (Int×Int×Int×Int×Int×Int×Int×Int×Int×Int×Int×Int))):Le (A8j x1 v1 x2) (A4q x1 v1 x2):=by
  unfold A8j A4q
  repeat' first|with_reducible exact Le.refl _|with_reducible refine Le.bind ?_ fun _=> ?_|with_reducible refine Le.cond ?_ ?_|with_reducible refine Le.ite ?_ ?_|with_reducible refine Le.thenS ?_ (fun _=> ?_) (fun _=> ?_)|with_reducible refine Le.loop (fun _=> ?_) _|with_reducible refine Le.loopL (fun _ _=> ?_) _ _|exact Le.refl _
def A8k (p1:Map)(x1:(Int× (Int×Int×Int×Int×Int×Int×Int×Int×Int×Int×Int×Int))):Option (Stp (Int× (Int×Int×Int×Int×Int×Int×Int×Int×Int×Int×Int×Int)) (Int×Int×Int×Int×Int×Int×Int×Int×Int×Int×Int×Int)):=
  cond (decide (x1.1≥0)) ((F3 p1.Lanes x1.1).bind fun v1=>(A1x (A8j x1 v1) (0,x1.2)).bind fun y2=>some (.go ((w64 (x1.1 - 1)),y2))) (some (.out x1.2))
theorem B5d (p1:Map)(x1:(Int× (Int×Int×Int×Int×Int×Int×Int×Int×Int×Int×Int×Int))):Le (A8k p1 x1) (A4r p1 x1):=by
  unfold A8k A4r
  repeat' first|with_reducible exact Le.refl _|with_reducible exact B5c _ _ _|with_reducible refine Le.bind ?_ fun _=> ?_|with_reducible refine Le.cond ?_ ?_|with_reducible refine Le.ite ?_ ?_|with_reducible refine Le.thenS ?_ (fun _=> ?_) (fun _=> ?_)|with_reducible refine Le.loop (fun _=> ?_) _|with_reducible refine Le.loopL (fun _ _=> ?_) _ _|exact Le.refl _
def B1t (p1:Map):Option (Int×Int×Int×Int×Int×Int×Int×Int×Int×Int×Int×Int):=
  (A1x (A8k p1) ((w64 ((p1.Lanes.length:Int) - 1)),(0,0,0,0,0,0,0,0,0,0,0,0))).bind fun y1=>some y1
theorem B93 (p1:Map):Le (B1t p1) (A82 p1):=by
  unfold B1t A82
  repeat' first|with_reducible exact Le.refl _|with_reducible exact B5d _ _|with_reducible refine Le.bind ?_ fun _=> ?_|with_reducible refine Le.cond ?_ ?_|with_reducible refine Le.ite ?_ ?_|with_reducible refine Le.thenS ?_ (fun _=> ?_) (fun _=> ?_)|with_reducible refine Le.loop (fun _=> ?_) _|with_reducible refine Le.loopL (fun _ _=> ?_) _ _|exact Le.refl _
def A9b (p1:Int)(p2:Int):Option Bool:=
  (D59 .u32 p1 (IntKind.wrap .u64 p2)).bind fun v1=>some ((IntKind.wrap .u32 (((BitVec.ofInt (IntKind.bits .u32) v1&&&(BitVec.ofInt (IntKind.bits .u32) 1)).toNat:Nat)))==1)
theorem B61 (p1:Int)(p2:Int):Le (A9b p1 p2) (A5n p1 p2):=by
  unfold A9b A5n
  repeat' first|with_reducible exact Le.refl _|with_reducible refine Le.bind ?_ fun _=> ?_|with_reducible refine Le.cond ?_ ?_|with_reducible refine Le.ite ?_ ?_|with_reducible refine Le.thenS ?_ (fun _=> ?_) (fun _=> ?_)|with_reducible refine Le.loop (fun _=> ?_) _|with_reducible refine Le.loopL (fun _ _=> ?_) _ _|exact Le.refl _
def A5w (p1:Part)(p2:(Int×Int×Int×Int×Int×Int×Int×Int×Int×Int×Int×Int))(p3:Int):Option Bool:=
  (F3 ([p2.1,p2.2.1,p2.2.2.1,p2.2.2.2.1,p2.2.2.2.2.1,p2.2.2.2.2.2.1,p2.2.2.2.2.2.2.1,p2.2.2.2.2.2.2.2.1,p2.2.2.2.2.2.2.2.2.1,p2.2.2.2.2.2.2.2.2.2.1,p2.2.2.2.2.2.2.2.2.2.2.1,p2.2.2.2.2.2.2.2.2.2.2.2]:List Int) p1.Lane_).bind fun v1=>(A9b v1 p3).bind fun v2=>some v2
theorem B2r (p1:Part)(p2:(Int×Int×Int×Int×Int×Int×Int×Int×Int×Int×Int×Int))(p3:Int):Le (A5w p1 p2 p3) (A24 p1 p2 p3):=by
  unfold A5w A24
  repeat' first|with_reducible exact Le.refl _|with_reducible exact B61 _ _|with_reducible refine Le.bind ?_ fun _=> ?_|with_reducible refine Le.cond ?_ ?_|with_reducible refine Le.ite ?_ ?_|with_reducible refine Le.thenS ?_ (fun _=> ?_) (fun _=> ?_)|with_reducible refine Le.loop (fun _=> ?_) _|with_reducible refine Le.loopL (fun _ _=> ?_) _ _|exact Le.refl _
def M6 (p1:(List Part))(p2:(Int×Int×Int×Int×Int×Int×Int×Int×Int×Int×Int×Int))(p3:Int)(x1:Int):Option (Stp Int (Sum Unit Int)):=
  cond (decide (x1< (p1.length:Int))) ((F3 p1 x1).bind fun v1=>(A5w v1 p2 p3).bind fun v2=>cond v2 (some (.out (.inr x1))) (some (.go (w64 (x1+1))))) (some (.out (.inl ())))
theorem A1n (p1:(List Part))(p2:(Int×Int×Int×Int×Int×Int×Int×Int×Int×Int×Int×Int))(p3:Int)(x1:Int):Le (M6 p1 p2 p3 x1) (I0 p1 p2 p3 x1):=by
  unfold M6 I0
  repeat' first|with_reducible exact Le.refl _|with_reducible exact B2r _ _ _|with_reducible refine Le.bind ?_ fun _=> ?_|with_reducible refine Le.cond ?_ ?_|with_reducible refine Le.ite ?_ ?_|with_reducible refine Le.thenS ?_ (fun _=> ?_) (fun _=> ?_)|with_reducible refine Le.loop (fun _=> ?_) _|with_reducible refine Le.loopL (fun _ _=> ?_) _ _|exact Le.refl _
def O4 (p1:(List Part))(p2:(Int×Int×Int×Int×Int×Int×Int×Int×Int×Int×Int×Int))(p3:Int):Option Int:=
  thenS (A1x (M6 p1 p2 p3) 0) (fun _=>some (-1)) (fun r=>some r)
theorem A2i (p1:(List Part))(p2:(Int×Int×Int×Int×Int×Int×Int×Int×Int×Int×Int×Int))(p3:Int):Le (O4 p1 p2 p3) (J2 p1 p2 p3):=by
  unfold O4 J2
  repeat' first|with_reducible exact Le.refl _|with_reducible exact A1n _ _ _ _|with_reducible refine Le.bind ?_ fun _=> ?_|with_reducible refine Le.cond ?_ ?_|with_reducible refine Le.ite ?_ ?_|with_reducible refine Le.thenS ?_ (fun _=> ?_) (fun _=> ?_)|with_reducible refine Le.loop (fun _=> ?_) _|with_reducible refine Le.loopL (fun _ _=> ?_) _ _|exact Le.refl _
def M7 (p1:(List Part))(p2:(Int×Int×Int×Int×Int×Int×Int×Int×Int×Int×Int×Int))(p3:Int):Option Bool:=
  (O4 p1 p2 p3).bind fun v1=>some (decide (v1≥0))
theorem A1o (p1:(List Part))(p2:(Int×Int×Int×Int×Int×Int×Int×Int×Int×Int×Int×Int))(p3:Int):Le (M7 p1 p2 p3) (I3 p1 p2 p3):=by
  unfold M7 I3
  repeat' first|with_reducible exact Le.refl _|with_reducible exact A2i _ _ _|with_reducible refine Le.bind ?_ fun _=> ?_|with_reducible refine Le.cond ?_ ?_|with_reducible refine Le.ite ?_ ?_|with_reducible refine Le.thenS ?_ (fun _=> ?_) (fun _=> ?_)|with_reducible refine Le.loop (fun _=> ?_) _|with_reducible refine Le.loopL (fun _ _=> ?_) _ _|exact Le.refl _
def A74 (p1:Map)(p2:Zone)(p3:Int):Option Bool:=
  (B1t p1).bind fun v1=>(M7 p2.Parts v1 p3).bind fun v2=>some (!v2)
theorem A9c (p1:Map)(p2:Zone)(p3:Int):Le (A74 p1 p2 p3) (A50 p1 p2 p3):=by
  unfold A74 A50
  repeat' first|with_reducible exact Le.refl _|with_reducible exact B93 _|with_reducible exact A1o _ _ _|with_reducible refine Le.bind ?_ fun _=> ?_|with_reducible refine Le.cond ?_ ?_|with_reducible refine Le.ite ?_ ?_|with_reducible refine Le.thenS ?_ (fun _=> ?_) (fun _=> ?_)|with_reducible refine Le.loop (fun _=> ?_) _|with_reducible refine Le.loopL (fun _ _=> ?_) _ _|exact Le.refl _
def A46 (p1:Int)(p2:Map)(p3:Zone):Option Bool:=
  (A74 p2 p3 p1).bind fun v1=>some (!v1)
theorem B0l (p1:Int)(p2:Map)(p3:Zone):Le (A46 p1 p2 p3) (A0b p1 p2 p3):=by
  unfold A46 A0b
  repeat' first|with_reducible exact Le.refl _|with_reducible exact A9c _ _ _|with_reducible refine Le.bind ?_ fun _=> ?_|with_reducible refine Le.cond ?_ ?_|with_reducible refine Le.ite ?_ ?_|with_reducible refine Le.thenS ?_ (fun _=> ?_) (fun _=> ?_)|with_reducible refine Le.loop (fun _=> ?_) _|with_reducible refine Le.loopL (fun _ _=> ?_) _ _|exact Le.refl _
def M3 (p1:(List Int))(p2:Map)(p3:Zone)(x1:Int):Option (Stp Int (Sum Unit Int)):=
  cond (decide (x1< (p1.length:Int))) ((F3 p1 x1).bind fun v1=>(A46 v1 p2 p3).bind fun v2=>cond v2 (some (.out (.inr x1))) (some (.go (w64 (x1+1))))) (some (.out (.inl ())))
theorem A1c (p1:(List Int))(p2:Map)(p3:Zone)(x1:Int):Le (M3 p1 p2 p3 x1) (H6 p1 p2 p3 x1):=by
  unfold M3 H6
  repeat' first|with_reducible exact Le.refl _|with_reducible exact B0l _ _ _|with_reducible refine Le.bind ?_ fun _=> ?_|with_reducible refine Le.cond ?_ ?_|with_reducible refine Le.ite ?_ ?_|with_reducible refine Le.thenS ?_ (fun _=> ?_) (fun _=> ?_)|with_reducible refine Le.loop (fun _=> ?_) _|with_reducible refine Le.loopL (fun _ _=> ?_) _ _|exact Le.refl _
def N4 (p1:(List Int))(p2:Map)(p3:Zone):Option Int:=
  thenS (A1x (M3 p1 p2 p3) 0) (fun _=>some (-1)) (fun r=>some r)
theorem A20 (p1:(List Int))(p2:Map)(p3:Zone):Le (N4 p1 p2 p3) (I8 p1 p2 p3):=by
  unfold N4 I8
  repeat' first|with_reducible exact Le.refl _|with_reducible exact A1c _ _ _ _|with_reducible refine Le.bind ?_ fun _=> ?_|with_reducible refine Le.cond ?_ ?_|with_reducible refine Le.ite ?_ ?_|with_reducible refine Le.thenS ?_ (fun _=> ?_) (fun _=> ?_)|with_reducible refine Le.loop (fun _=> ?_) _|with_reducible refine Le.loopL (fun _ _=> ?_) _ _|exact Le.refl _
def M4 (p1:(List Int))(p2:Map)(p3:Zone):Option Bool:=
  (N4 p1 p2 p3).bind fun v1=>some (decide (v1≥0))
theorem A1d (p1:(List Int))(p2:Map)(p3:Zone):Le (M4 p1 p2 p3) (H7 p1 p2 p3):=by
  unfold M4 H7
  repeat' first|with_reducible exact Le.refl _|with_reducible exact A20 _ _ _|with_reducible refine Le.bind ?_ fun _=> ?_|with_reducible refine Le.cond ?_ ?_|with_reducible refine Le.ite ?_ ?_|with_reducible refine Le.thenS ?_ (fun _=> ?_) (fun _=> ?_)|with_reducible refine Le.loop (fun _=> ?_) _|with_reducible refine Le.loopL (fun _ _=> ?_) _ _|exact Le.refl _
def A47 (p1:Zone)(p2:Map)(p3:Int)(p4:(List Int)):Option Bool:=
  (A7r p2 p1 p3).bind fun v1=>((cond v1 (M4 p4 p2 p1) (some default))).bind fun v2=>some (v1&& (!v2))
theorem B0m (p1:Zone)(p2:Map)(p3:Int)(p4:(List Int)):Le (A47 p1 p2 p3 p4) (A0c p1 p2 p3 p4):=by
  unfold A47 A0c
  repeat' first|with_reducible exact Le.refl _|with_reducible exact B1s _ _ _|with_reducible exact A1d _ _ _|with_reducible refine Le.bind ?_ fun _=> ?_|with_reducible refine Le.cond ?_ ?_|with_reducible refine Le.ite ?_ ?_|with_reducible refine Le.thenS ?_ (fun _=> ?_) (fun _=> ?_)|with_reducible refine Le.loop (fun _=> ?_) _|with_reducible refine Le.loopL (fun _ _=> ?_) _ _|exact Le.refl _
def L6 (p1:(List Zone))(p2:Map)(p3:Int)(p4:(List Int))(x1:Int):Option (Stp Int (Sum Unit Int)):=
  cond (decide (x1< (p1.length:Int))) ((F3 p1 x1).bind fun v1=>(A47 v1 p2 p3 p4).bind fun v2=>cond v2 (some (.out (.inr x1))) (some (.go (w64 (x1+1))))) (some (.out (.inl ())))
theorem A16 (p1:(List Zone))(p2:Map)(p3:Int)(p4:(List Int))(x1:Int):Le (L6 p1 p2 p3 p4 x1) (G7 p1 p2 p3 p4 x1):=by
  unfold L6 G7
  repeat' first|with_reducible exact Le.refl _|with_reducible exact B0m _ _ _ _|with_reducible refine Le.bind ?_ fun _=> ?_|with_reducible refine Le.cond ?_ ?_|with_reducible refine Le.ite ?_ ?_|with_reducible refine Le.thenS ?_ (fun _=> ?_) (fun _=> ?_)|with_reducible refine Le.loop (fun _=> ?_) _|with_reducible refine Le.loopL (fun _ _=> ?_) _ _|exact Le.refl _
def N2 (p1:(List Zone))(p2:Map)(p3:Int)(p4:(List Int)):Option Int:=
  thenS (A1x (L6 p1 p2 p3 p4) 0) (fun _=>some (-1)) (fun r=>some r)
theorem A1w (p1:(List Zone))(p2:Map)(p3:Int)(p4:(List Int)):Le (N2 p1 p2 p3 p4) (I4 p1 p2 p3 p4):=by
  unfold N2 I4
  repeat' first|with_reducible exact Le.refl _|with_reducible exact A16 _ _ _ _ _|with_reducible refine Le.bind ?_ fun _=> ?_|with_reducible refine Le.cond ?_ ?_|with_reducible refine Le.ite ?_ ?_|with_reducible refine Le.thenS ?_ (fun _=> ?_) (fun _=> ?_)|with_reducible refine Le.loop (fun _=> ?_) _|with_reducible refine Le.loopL (fun _ _=> ?_) _ _|exact Le.refl _
def L7 (p1:(List Zone))(p2:Map)(p3:Int)(p4:(List Int)):Option Bool:=
  (N2 p1 p2 p3 p4).bind fun v1=>some (decide (v1≥0))
theorem A17 (p1:(List Zone))(p2:Map)(p3:Int)(p4:(List Int)):Le (L7 p1 p2 p3 p4) (G8 p1 p2 p3 p4):=by
  unfold L7 G8
  repeat' first|with_reducible exact Le.refl _|with_reducible exact A1w _ _ _ _|with_reducible refine Le.bind ?_ fun _=> ?_|with_reducible refine Le.cond ?_ ?_|with_reducible refine Le.ite ?_ ?_|with_reducible refine Le.thenS ?_ (fun _=> ?_) (fun _=> ?_)|with_reducible refine Le.loop (fun _=> ?_) _|with_reducible refine Le.loopL (fun _ _=> ?_) _ _|exact Le.refl _
def A7i (p1:Map)(x1:((List Clash)×Int)):Option (Stp ((List Clash)×Int) (List Clash)):=
  cond (decide (x1.2< (p1.Lanes.length:Int))) ((A5v p1 x1.2).bind fun v1=>(L7 p1.Zones p1 x1.2 v1).bind fun v2=>cond ((decide ((v1.length:Int)>1))&& (!v2)) ((B18 x1.1 [(Clash.mk 1 (-1) x1.2 (-1))]).bind fun v3=>some (.go (v3,(w64 (x1.2+1))))) (some (.go (x1.1,(w64 (x1.2+1)))))) (some (.out x1.1))
theorem B4n (p1:Map)(x1:((List Clash)×Int)):Le (A7i p1 x1) (A3l p1 x1):=by
  unfold A7i A3l
  repeat' first|with_reducible exact Le.refl _|with_reducible exact A8g _ _|with_reducible exact A17 _ _ _ _|with_reducible refine Le.bind ?_ fun _=> ?_|with_reducible refine Le.cond ?_ ?_|with_reducible refine Le.ite ?_ ?_|with_reducible refine Le.thenS ?_ (fun _=> ?_) (fun _=> ?_)|with_reducible refine Le.loop (fun _=> ?_) _|with_reducible refine Le.loopL (fun _ _=> ?_) _ _|exact Le.refl _
def B0n (p1:Map):Option (List Clash):=
  (A1x (A7i p1) ([],0)).bind fun y1=>some y1
theorem B7x (p1:Map):Le (B0n p1) (A6s p1):=by
  unfold B0n A6s
  repeat' first|with_reducible exact Le.refl _|with_reducible exact B4n _ _|with_reducible refine Le.bind ?_ fun _=> ?_|with_reducible refine Le.cond ?_ ?_|with_reducible refine Le.ite ?_ ?_|with_reducible refine Le.thenS ?_ (fun _=> ?_) (fun _=> ?_)|with_reducible refine Le.loop (fun _=> ?_) _|with_reducible refine Le.loopL (fun _ _=> ?_) _ _|exact Le.refl _
def A7j (p1:Map)(x1:((List Clash)×Int))(v1:Zone)(x2:((List Clash)×Int)):Option (Stp ((List Clash)×Int) (List Clash)):=
  cond (decide (x2.2< (v1.Parts.length:Int))) ((F3 v1.Parts x2.2).bind fun v2=>(A74 p1 v1 v2.Lane_).bind fun v3=>((cond (!v3) (A7r p1 v1 v2.Lane_) (some default))).bind fun v4=>cond ((!v3)&& (!v4)) ((B18 x2.1 [(Clash.mk 2 x1.2 v2.Lane_ (-1))]).bind fun v5=>some (.go (v5,(w64 (x2.2+1))))) (some (.go (x2.1,(w64 (x2.2+1)))))) (some (.out x2.1))
theorem B4o (p1:Map)(x1:((List Clash)×Int))(v1:Zone)(x2:((List Clash)×Int)):Le (A7j p1 x1 v1 x2) (A3m p1 x1 v1 x2):=by
  unfold A7j A3m
  repeat' first|with_reducible exact Le.refl _|with_reducible exact A9c _ _ _|with_reducible exact B1s _ _ _|with_reducible refine Le.bind ?_ fun _=> ?_|with_reducible refine Le.cond ?_ ?_|with_reducible refine Le.ite ?_ ?_|with_reducible refine Le.thenS ?_ (fun _=> ?_) (fun _=> ?_)|with_reducible refine Le.loop (fun _=> ?_) _|with_reducible refine Le.loopL (fun _ _=> ?_) _ _|exact Le.refl _
def A7k (p1:Map)(x1:((List Clash)×Int)):Option (Stp ((List Clash)×Int) (List Clash)):=
  cond (decide (x1.2< (p1.Zones.length:Int))) ((F3 p1.Zones x1.2).bind fun v1=>(A1x (A7j p1 x1 v1) (x1.1,0)).bind fun y2=>some (.go (y2,(w64 (x1.2+1))))) (some (.out x1.1))
theorem B4p (p1:Map)(x1:((List Clash)×Int)):Le (A7k p1 x1) (A3n p1 x1):=by
  unfold A7k A3n
  repeat' first|with_reducible exact Le.refl _|with_reducible exact B4o _ _ _ _|with_reducible refine Le.bind ?_ fun _=> ?_|with_reducible refine Le.cond ?_ ?_|with_reducible refine Le.ite ?_ ?_|with_reducible refine Le.thenS ?_ (fun _=> ?_) (fun _=> ?_)|with_reducible refine Le.loop (fun _=> ?_) _|with_reducible refine Le.loopL (fun _ _=> ?_) _ _|exact Le.refl _
def B0o (p1:Map):Option (List Clash):=
  (A1x (A7k p1) ([],0)).bind fun y1=>some y1
theorem B7y (p1:Map):Le (B0o p1) (A6t p1):=by
  unfold B0o A6t
  repeat' first|with_reducible exact Le.refl _|with_reducible exact B4p _ _|with_reducible refine Le.bind ?_ fun _=> ?_|with_reducible refine Le.cond ?_ ?_|with_reducible refine Le.ite ?_ ?_|with_reducible refine Le.thenS ?_ (fun _=> ?_) (fun _=> ?_)|with_reducible refine Le.loop (fun _=> ?_) _|with_reducible refine Le.loopL (fun _ _=> ?_) _ _|exact Le.refl _
def A68 (p1:Map)(p2:Zone)(x1:((List Int)×Int)):Option (Stp ((List Int)×Int) (List Int)):=
  cond (decide (x1.2< (p2.Parts.length:Int))) ((F3 p2.Parts x1.2).bind fun v1=>(A74 p1 p2 v1.Lane_).bind fun v2=>cond v2 ((B18 x1.1 [v1.Lane_]).bind fun v3=>some (.go (v3,(w64 (x1.2+1))))) (some (.go (x1.1,(w64 (x1.2+1)))))) (some (.out x1.1))
theorem B3k (p1:Map)(p2:Zone)(x1:((List Int)×Int)):Le (A68 p1 p2 x1) (A2y p1 p2 x1):=by
  unfold A68 A2y
  repeat' first|with_reducible exact Le.refl _|with_reducible exact A9c _ _ _|with_reducible refine Le.bind ?_ fun _=> ?_|with_reducible refine Le.cond ?_ ?_|with_reducible refine Le.ite ?_ ?_|with_reducible refine Le.thenS ?_ (fun _=> ?_) (fun _=> ?_)|with_reducible refine Le.loop (fun _=> ?_) _|with_reducible refine Le.loopL (fun _ _=> ?_) _ _|exact Le.refl _
def A6i (p1:Map)(p2:Zone):Option (List Int):=
  (A1x (A68 p1 p2) ([],0)).bind fun y1=>some y1
theorem B0y (p1:Map)(p2:Zone):Le (A6i p1 p2) (A2p p1 p2):=by
  unfold A6i A2p
  repeat' first|with_reducible exact Le.refl _|with_reducible exact B3k _ _ _|with_reducible refine Le.bind ?_ fun _=> ?_|with_reducible refine Le.cond ?_ ?_|with_reducible refine Le.ite ?_ ?_|with_reducible refine Le.thenS ?_ (fun _=> ?_) (fun _=> ?_)|with_reducible refine Le.loop (fun _=> ?_) _|with_reducible refine Le.loopL (fun _ _=> ?_) _ _|exact Le.refl _
def A9d (p1:Zone)(p2:Int)(p3:Int):Option Bool:=
  (A67 p1 p2).bind fun v1=>(A67 p1 p3).bind fun v2=>some ((p1.Signal_==0)&& (v1.1.Rank==v2.1.Rank))
theorem B62 (p1:Zone)(p2:Int)(p3:Int):Le (A9d p1 p2 p3) (A5o p1 p2 p3):=by
  unfold A9d A5o
  repeat' first|with_reducible exact Le.refl _|with_reducible exact B0k _ _|with_reducible refine Le.bind ?_ fun _=> ?_|with_reducible refine Le.cond ?_ ?_|with_reducible refine Le.ite ?_ ?_|with_reducible refine Le.thenS ?_ (fun _=> ?_) (fun _=> ?_)|with_reducible refine Le.loop (fun _=> ?_) _|with_reducible refine Le.loopL (fun _ _=> ?_) _ _|exact Le.refl _
def A06 (p2:Int)(x1:((List Clash)×Int))(v1:Zone)(v3:Int)(v4:List Int)(x3:((List Clash)×Int)):Option (Stp ((List Clash)×Int) (List Clash)):=
  cond (decide (x3.2< (v4.length:Int))) ((F3 v4 x3.2).bind fun v5=>(A9d v1 v3 v5).bind fun v6=>cond v6 ((B18 x3.1 [(Clash.mk p2 x1.2 v3 v5)]).bind fun v7=>some (.go (v7,(w64 (x3.2+1))))) (some (.go (x3.1,(w64 (x3.2+1)))))) (some (.out x3.1))
theorem A69 (p2:Int)(x1:((List Clash)×Int))(v1:Zone)(v3:Int)(v4:List Int)(x3:((List Clash)×Int)):Le (A06 p2 x1 v1 v3 v4 x3) (P4 p2 x1 v1 v3 v4 x3):=by
  unfold A06 P4
  repeat' first|with_reducible exact Le.refl _|with_reducible exact B62 _ _ _|with_reducible refine Le.bind ?_ fun _=> ?_|with_reducible refine Le.cond ?_ ?_|with_reducible refine Le.ite ?_ ?_|with_reducible refine Le.thenS ?_ (fun _=> ?_) (fun _=> ?_)|with_reducible refine Le.loop (fun _=> ?_) _|with_reducible refine Le.loopL (fun _ _=> ?_) _ _|exact Le.refl _
def A07 (p2:Int)(x1:((List Clash)×Int))(v1:Zone)(v2:(List Int))(x2:((List Clash)×Int)):Option (Stp ((List Clash)×Int) (List Clash)):=
  cond (decide (x2.2< (v2.length:Int))) ((F3 v2 x2.2).bind fun v3=>(C6k v2 (w64 (x2.2+1)) (v2.length:Int)).bind fun v4=>(A1x (A06 p2 x1 v1 v3 v4) (x2.1,0)).bind fun y3=>some (.go (y3,(w64 (x2.2+1))))) (some (.out x2.1))
theorem A6a (p2:Int)(x1:((List Clash)×Int))(v1:Zone)(v2:(List Int))(x2:((List Clash)×Int)):Le (A07 p2 x1 v1 v2 x2) (P5 p2 x1 v1 v2 x2):=by
  unfold A07 P5
  repeat' first|with_reducible exact Le.refl _|with_reducible exact A69 _ _ _ _ _ _|with_reducible refine Le.bind ?_ fun _=> ?_|with_reducible refine Le.cond ?_ ?_|with_reducible refine Le.ite ?_ ?_|with_reducible refine Le.thenS ?_ (fun _=> ?_) (fun _=> ?_)|with_reducible refine Le.loop (fun _=> ?_) _|with_reducible refine Le.loopL (fun _ _=> ?_) _ _|exact Le.refl _
def A08 (p1:Map)(p2:Int)(x1:((List Clash)×Int)):Option (Stp ((List Clash)×Int) (List Clash)):=
  cond (decide (x1.2< (p1.Zones.length:Int))) ((F3 p1.Zones x1.2).bind fun v1=>(A6i p1 v1).bind fun v2=>(A1x (A07 p2 x1 v1 v2) (x1.1,0)).bind fun y2=>some (.go (y2,(w64 (x1.2+1))))) (some (.out x1.1))
theorem A6b (p1:Map)(p2:Int)(x1:((List Clash)×Int)):Le (A08 p1 p2 x1) (P6 p1 p2 x1):=by
  unfold A08 P6
  repeat' first|with_reducible exact Le.refl _|with_reducible exact B0y _ _|with_reducible exact A6a _ _ _ _ _|with_reducible refine Le.bind ?_ fun _=> ?_|with_reducible refine Le.cond ?_ ?_|with_reducible refine Le.ite ?_ ?_|with_reducible refine Le.thenS ?_ (fun _=> ?_) (fun _=> ?_)|with_reducible refine Le.loop (fun _=> ?_) _|with_reducible refine Le.loopL (fun _ _=> ?_) _ _|exact Le.refl _
def A1e (p1:Map)(p2:Int):Option (List Clash):=
  (A1x (A08 p1 p2) ([],0)).bind fun y1=>some y1
theorem A7s (p1:Map)(p2:Int):Le (A1e p1 p2) (T1 p1 p2):=by
  unfold A1e T1
  repeat' first|with_reducible exact Le.refl _|with_reducible exact A6b _ _ _|with_reducible refine Le.bind ?_ fun _=> ?_|with_reducible refine Le.cond ?_ ?_|with_reducible refine Le.ite ?_ ?_|with_reducible refine Le.thenS ?_ (fun _=> ?_) (fun _=> ?_)|with_reducible refine Le.loop (fun _=> ?_) _|with_reducible refine Le.loopL (fun _ _=> ?_) _ _|exact Le.refl _
def B1u (p1:Map):Option (List Clash):=
  (A1e p1 3).bind fun v1=>some v1
theorem B94 (p1:Map):Le (B1u p1) (A83 p1):=by
  unfold B1u A83
  repeat' first|with_reducible exact Le.refl _|with_reducible exact A7s _ _|with_reducible refine Le.bind ?_ fun _=> ?_|with_reducible refine Le.cond ?_ ?_|with_reducible refine Le.ite ?_ ?_|with_reducible refine Le.thenS ?_ (fun _=> ?_) (fun _=> ?_)|with_reducible refine Le.loop (fun _=> ?_) _|with_reducible refine Le.loopL (fun _ _=> ?_) _ _|exact Le.refl _
def A48 (p1:Phase)(p2:Int)(p3:Int):Option Bool:=
  (Q3 p1.Green p2).bind fun v1=>((cond v1 (Q3 p1.Green p3) (some default))).bind fun v2=>some (v1&&v2)
theorem B0p (p1:Phase)(p2:Int)(p3:Int):Le (A48 p1 p2 p3) (A0d p1 p2 p3):=by
  unfold A48 A0d
  repeat' first|with_reducible exact Le.refl _|with_reducible exact A1b _ _|with_reducible refine Le.bind ?_ fun _=> ?_|with_reducible refine Le.cond ?_ ?_|with_reducible refine Le.ite ?_ ?_|with_reducible refine Le.thenS ?_ (fun _=> ?_) (fun _=> ?_)|with_reducible refine Le.loop (fun _=> ?_) _|with_reducible refine Le.loopL (fun _ _=> ?_) _ _|exact Le.refl _
def K8 (p1:(List Phase))(p2:Int)(p3:Int)(x1:Int):Option (Stp Int (Sum Unit Int)):=
  cond (decide (x1< (p1.length:Int))) ((F3 p1 x1).bind fun v1=>(A48 v1 p2 p3).bind fun v2=>cond v2 (some (.out (.inr x1))) (some (.go (w64 (x1+1))))) (some (.out (.inl ())))
theorem A0l (p1:(List Phase))(p2:Int)(p3:Int)(x1:Int):Le (K8 p1 p2 p3 x1) (F5 p1 p2 p3 x1):=by
  unfold K8 F5
  repeat' first|with_reducible exact Le.refl _|with_reducible exact B0p _ _ _|with_reducible refine Le.bind ?_ fun _=> ?_|with_reducible refine Le.cond ?_ ?_|with_reducible refine Le.ite ?_ ?_|with_reducible refine Le.thenS ?_ (fun _=> ?_) (fun _=> ?_)|with_reducible refine Le.loop (fun _=> ?_) _|with_reducible refine Le.loopL (fun _ _=> ?_) _ _|exact Le.refl _
def L8 (p1:(List Phase))(p2:Int)(p3:Int):Option Int:=
  thenS (A1x (K8 p1 p2 p3) 0) (fun _=>some (-1)) (fun r=>some r)
theorem A18 (p1:(List Phase))(p2:Int)(p3:Int):Le (L8 p1 p2 p3) (G9 p1 p2 p3):=by
  unfold L8 G9
  repeat' first|with_reducible exact Le.refl _|with_reducible exact A0l _ _ _ _|with_reducible refine Le.bind ?_ fun _=> ?_|with_reducible refine Le.cond ?_ ?_|with_reducible refine Le.ite ?_ ?_|with_reducible refine Le.thenS ?_ (fun _=> ?_) (fun _=> ?_)|with_reducible refine Le.loop (fun _=> ?_) _|with_reducible refine Le.loopL (fun _ _=> ?_) _ _|exact Le.refl _
def K9 (p1:(List Phase))(p2:Int)(p3:Int):Option Bool:=
  (L8 p1 p2 p3).bind fun v1=>some (decide (v1≥0))
theorem A0m (p1:(List Phase))(p2:Int)(p3:Int):Le (K9 p1 p2 p3) (F6 p1 p2 p3):=by
  unfold K9 F6
  repeat' first|with_reducible exact Le.refl _|with_reducible exact A18 _ _ _|with_reducible refine Le.bind ?_ fun _=> ?_|with_reducible refine Le.cond ?_ ?_|with_reducible refine Le.ite ?_ ?_|with_reducible refine Le.thenS ?_ (fun _=> ?_) (fun _=> ?_)|with_reducible refine Le.loop (fun _=> ?_) _|with_reducible refine Le.loopL (fun _ _=> ?_) _ _|exact Le.refl _
def A6c (p1:Zone)(p2:Int)(p3:Int)(p4:Map):Option Bool:=
  ((cond (decide (p1.Signal_>0)) (F3 p4.Signals (w64 (p1.Signal_ - 1))) (some default))).bind fun v1=>((cond (decide (p1.Signal_>0)) (K9 v1.Phases p2 p3) (some default))).bind fun v2=>some ((decide (p1.Signal_>0))&&v2)
theorem B3l (p1:Zone)(p2:Int)(p3:Int)(p4:Map):Le (A6c p1 p2 p3 p4) (A1f p1 p2 p3 p4):=by
  unfold A6c A1f
  repeat' first|with_reducible exact Le.refl _|with_reducible exact A0m _ _ _|with_reducible refine Le.bind ?_ fun _=> ?_|with_reducible refine Le.cond ?_ ?_|with_reducible refine Le.ite ?_ ?_|with_reducible refine Le.thenS ?_ (fun _=> ?_) (fun _=> ?_)|with_reducible refine Le.loop (fun _=> ?_) _|with_reducible refine Le.loopL (fun _ _=> ?_) _ _|exact Le.refl _
def W6 (p2:Int)(p3:Map)(x1:((List Clash)×Int))(v1:Zone)(v3:Int)(v4:List Int)(x3:((List Clash)×Int)):Option (Stp ((List Clash)×Int) (List Clash)):=
  cond (decide (x3.2< (v4.length:Int))) ((F3 v4 x3.2).bind fun v5=>(A6c v1 v3 v5 p3).bind fun v6=>cond v6 ((B18 x3.1 [(Clash.mk p2 x1.2 v3 v5)]).bind fun v7=>some (.go (v7,(w64 (x3.2+1))))) (some (.go (x3.1,(w64 (x3.2+1)))))) (some (.out x3.1))
theorem A5x (p2:Int)(p3:Map)(x1:((List Clash)×Int))(v1:Zone)(v3:Int)(v4:List Int)(x3:((List Clash)×Int)):Le (W6 p2 p3 x1 v1 v3 v4 x3) (N9 p2 p3 x1 v1 v3 v4 x3):=by
  unfold W6 N9
  repeat' first|with_reducible exact Le.refl _|with_reducible exact B3l _ _ _ _|with_reducible refine Le.bind ?_ fun _=> ?_|with_reducible refine Le.cond ?_ ?_|with_reducible refine Le.ite ?_ ?_|with_reducible refine Le.thenS ?_ (fun _=> ?_) (fun _=> ?_)|with_reducible refine Le.loop (fun _=> ?_) _|with_reducible refine Le.loopL (fun _ _=> ?_) _ _|exact Le.refl _
def W7 (p2:Int)(p3:Map)(x1:((List Clash)×Int))(v1:Zone)(v2:(List Int))(x2:((List Clash)×Int)):Option (Stp ((List Clash)×Int) (List Clash)):=
  cond (decide (x2.2< (v2.length:Int))) ((F3 v2 x2.2).bind fun v3=>(C6k v2 (w64 (x2.2+1)) (v2.length:Int)).bind fun v4=>(A1x (W6 p2 p3 x1 v1 v3 v4) (x2.1,0)).bind fun y3=>some (.go (y3,(w64 (x2.2+1))))) (some (.out x2.1))
theorem A5y (p2:Int)(p3:Map)(x1:((List Clash)×Int))(v1:Zone)(v2:(List Int))(x2:((List Clash)×Int)):Le (W7 p2 p3 x1 v1 v2 x2) (O0 p2 p3 x1 v1 v2 x2):=by
  unfold W7 O0
  repeat' first|with_reducible exact Le.refl _|with_reducible exact A5x _ _ _ _ _ _ _|with_reducible refine Le.bind ?_ fun _=> ?_|with_reducible refine Le.cond ?_ ?_|with_reducible refine Le.ite ?_ ?_|with_reducible refine Le.thenS ?_ (fun _=> ?_) (fun _=> ?_)|with_reducible refine Le.loop (fun _=> ?_) _|with_reducible refine Le.loopL (fun _ _=> ?_) _ _|exact Le.refl _
def W8 (p1:Map)(p2:Int)(p3:Map)(x1:((List Clash)×Int)):Option (Stp ((List Clash)×Int) (List Clash)):=
  cond (decide (x1.2< (p1.Zones.length:Int))) ((F3 p1.Zones x1.2).bind fun v1=>(A6i p1 v1).bind fun v2=>(A1x (W7 p2 p3 x1 v1 v2) (x1.1,0)).bind fun y2=>some (.go (y2,(w64 (x1.2+1))))) (some (.out x1.1))
theorem A5z (p1:Map)(p2:Int)(p3:Map)(x1:((List Clash)×Int)):Le (W8 p1 p2 p3 x1) (O1 p1 p2 p3 x1):=by
  unfold W8 O1
  repeat' first|with_reducible exact Le.refl _|with_reducible exact B0y _ _|with_reducible exact A5y _ _ _ _ _ _|with_reducible refine Le.bind ?_ fun _=> ?_|with_reducible refine Le.cond ?_ ?_|with_reducible refine Le.ite ?_ ?_|with_reducible refine Le.thenS ?_ (fun _=> ?_) (fun _=> ?_)|with_reducible refine Le.loop (fun _=> ?_) _|with_reducible refine Le.loopL (fun _ _=> ?_) _ _|exact Le.refl _
def A0n (p1:Map)(p2:Int)(p3:Map):Option (List Clash):=
  (A1x (W8 p1 p2 p3) ([],0)).bind fun y1=>some y1
theorem A75 (p1:Map)(p2:Int)(p3:Map):Le (A0n p1 p2 p3) (Q9 p1 p2 p3):=by
  unfold A0n Q9
  repeat' first|with_reducible exact Le.refl _|with_reducible exact A5z _ _ _ _|with_reducible refine Le.bind ?_ fun _=> ?_|with_reducible refine Le.cond ?_ ?_|with_reducible refine Le.ite ?_ ?_|with_reducible refine Le.thenS ?_ (fun _=> ?_) (fun _=> ?_)|with_reducible refine Le.loop (fun _=> ?_) _|with_reducible refine Le.loopL (fun _ _=> ?_) _ _|exact Le.refl _
def B0q (p1:Map):Option (List Clash):=
  (A0n p1 4 p1).bind fun v1=>some v1
theorem B7z (p1:Map):Le (B0q p1) (A6v p1):=by
  unfold B0q A6v
  repeat' first|with_reducible exact Le.refl _|with_reducible exact A75 _ _ _|with_reducible refine Le.bind ?_ fun _=> ?_|with_reducible refine Le.cond ?_ ?_|with_reducible refine Le.ite ?_ ?_|with_reducible refine Le.thenS ?_ (fun _=> ?_) (fun _=> ?_)|with_reducible refine Le.loop (fun _=> ?_) _|with_reducible refine Le.loopL (fun _ _=> ?_) _ _|exact Le.refl _
def B5e (p1:Map):Option Bool:=
  (A5d p1).bind fun v1=>((cond (v1==0) (B0n p1) (some default))).bind fun v2=>((cond (v1==0) (B0o p1) (some default))).bind fun v3=>((cond (v1==0) (B1u p1) (some default))).bind fun v4=>((cond (v1==0) (B0q p1) (some default))).bind fun v5=>some ((v1==0)&& ((w64 ((w64 ((w64 ((v2.length:Int)+ (v3.length:Int)))+ (v4.length:Int)))+ (v5.length:Int)))==0))
theorem C2b (p1:Map):Le (B5e p1) (B1l p1):=by
  unfold B5e B1l
  repeat' first|with_reducible exact Le.refl _|with_reducible exact A6h _|with_reducible exact B7x _|with_reducible exact B7y _|with_reducible exact B94 _|with_reducible exact B7z _|with_reducible refine Le.bind ?_ fun _=> ?_|with_reducible refine Le.cond ?_ ?_|with_reducible refine Le.ite ?_ ?_|with_reducible refine Le.thenS ?_ (fun _=> ?_) (fun _=> ?_)|with_reducible refine Le.loop (fun _=> ?_) _|with_reducible refine Le.loopL (fun _ _=> ?_) _ _|exact Le.refl _
def B4q (p1:Map)(p2:Int):Option Bool:=
  ((cond ((decide (p2≥0))&& (decide (p2< (p1.Lanes.length:Int)))) (A5d p1) (some default))).bind fun v1=>some (((decide (p2≥0))&& (decide (p2< (p1.Lanes.length:Int))))&& (v1==0))
theorem B80 (p1:Map)(p2:Int):Le (B4q p1 p2) (B28 p1 p2):=by
  unfold B4q B28
  repeat' first|with_reducible exact Le.refl _|with_reducible exact A6h _|with_reducible refine Le.bind ?_ fun _=> ?_|with_reducible refine Le.cond ?_ ?_|with_reducible refine Le.ite ?_ ?_|with_reducible refine Le.thenS ?_ (fun _=> ?_) (fun _=> ?_)|with_reducible refine Le.loop (fun _=> ?_) _|with_reducible refine Le.loopL (fun _ _=> ?_) _ _|exact Le.refl _
def B0r (p1:Map)(p2:Int):Option Int:=
  (B4q p1 p2).bind fun v1=>cond (!v1) (some 0) ((A40 p1 p2).bind fun v2=>some v2)
theorem B81 (p1:Map)(p2:Int):Le (B0r p1 p2) (A6w p1 p2):=by
  unfold B0r A6w
  repeat' first|with_reducible exact Le.refl _|with_reducible exact B80 _ _|with_reducible exact A4h _ _|with_reducible refine Le.bind ?_ fun _=> ?_|with_reducible refine Le.cond ?_ ?_|with_reducible refine Le.ite ?_ ?_|with_reducible refine Le.thenS ?_ (fun _=> ?_) (fun _=> ?_)|with_reducible refine Le.loop (fun _=> ?_) _|with_reducible refine Le.loopL (fun _ _=> ?_) _ _|exact Le.refl _
def A8l (p1:Map)(p2:Int)(p3:Int)(p4:Int)(x1:(Int×Int)):Option (Stp (Int×Int) Int):=
  cond (decide (x1.2< (p1.Works.length:Int))) ((F3 p1.Works x1.2).bind fun v5=>((cond (v5.Lane_==p2) (T8 p3 v5.From v5.To) (some default))).bind fun v6=>((cond ((v5.Lane_==p2)&&v6) (T8 p4 v5.Begin (w64 (v5.End - 1))) (some default))).bind fun v7=>cond (((v5.Lane_==p2)&&v6)&&v7) (some (.go ((mm2 false x1.1 v5.Limit),(w64 (x1.2+1))))) (some (.go (x1.1,(w64 (x1.2+1)))))) (some (.out x1.1))
theorem B5f (p1:Map)(p2:Int)(p3:Int)(p4:Int)(x1:(Int×Int)):Le (A8l p1 p2 p3 p4 x1) (A4s p1 p2 p3 p4 x1):=by
  unfold A8l A4s
  repeat' first|with_reducible exact Le.refl _|with_reducible exact Z3 _ _ _|with_reducible refine Le.bind ?_ fun _=> ?_|with_reducible refine Le.cond ?_ ?_|with_reducible refine Le.ite ?_ ?_|with_reducible refine Le.thenS ?_ (fun _=> ?_) (fun _=> ?_)|with_reducible refine Le.loop (fun _=> ?_) _|with_reducible refine Le.loopL (fun _ _=> ?_) _ _|exact Le.refl _
def B1v (p1:Map)(p2:Int)(p3:Int)(p4:Int):Option Int:=
  (B4q p1 p2).bind fun v1=>((cond (!(!v1)) (A40 p1 p2) (some default))).bind fun v2=>((cond (!(!v1)) (T8 p3 0 v2) (some default))).bind fun v3=>cond ((!v1)||(!v3)) (some 0) ((F3 p1.Lanes p2).bind fun v4=>(A1x (A8l p1 p2 p3 p4) (v4.Limit,0)).bind fun y1=>some y1)
theorem B95 (p1:Map)(p2:Int)(p3:Int)(p4:Int):Le (B1v p1 p2 p3 p4) (A85 p1 p2 p3 p4):=by
  unfold B1v A85
  repeat' first|with_reducible exact Le.refl _|with_reducible exact B80 _ _|with_reducible exact A4h _ _|with_reducible exact Z3 _ _ _|with_reducible exact B5f _ _ _ _ _|with_reducible refine Le.bind ?_ fun _=> ?_|with_reducible refine Le.cond ?_ ?_|with_reducible refine Le.ite ?_ ?_|with_reducible refine Le.thenS ?_ (fun _=> ?_) (fun _=> ?_)|with_reducible refine Le.loop (fun _=> ?_) _|with_reducible refine Le.loopL (fun _ _=> ?_) _ _|exact Le.refl _
def B5q:Option Bool:=
  (B57).bind fun v1=>(B1r v1 [0] 60000).bind fun v2=>(A5d v1).bind fun v3=>((cond (v3==0) (B5e v1) (some default))).bind fun v4=>((cond (((((v3==0)&&v4)&& (v2.1==0))&& (v2.2.1==60000))&&v2.2.2) (B0r v1 1) (some default))).bind fun v5=>((cond ((((((v3==0)&&v4)&& (v2.1==0))&& (v2.2.1==60000))&&v2.2.2)&& (v5==100000)) (B1v v1 0 10 5) (some default))).bind fun v6=>some (((((((v3==0)&&v4)&& (v2.1==0))&& (v2.2.1==60000))&&v2.2.2)&& (v5==100000))&& (v6==1500))
theorem B96:Le (B5q) (A3p):=by
  unfold B5q A3p
  repeat' first|with_reducible exact Le.refl _|with_reducible exact C2a|with_reducible exact B92 _ _ _|with_reducible exact A6h _|with_reducible exact C2b _|with_reducible exact B81 _ _|with_reducible exact B95 _ _ _ _|with_reducible refine Le.bind ?_ fun _=> ?_|with_reducible refine Le.cond ?_ ?_|with_reducible refine Le.ite ?_ ?_|with_reducible refine Le.thenS ?_ (fun _=> ?_) (fun _=> ?_)|with_reducible refine Le.loop (fun _=> ?_) _|with_reducible refine Le.loopL (fun _ _=> ?_) _ _|exact Le.refl _
end Go.Abs.Roadsz
namespace Go.Abs.Roadsz
open Go Go.Abs
theorem A49 (n:Int): ∃y,A4b n=some (y,y*y==n)∧0≤y∧y≤67108864∧(∀m,0≤m→m<y→m*m<n)∧(y=67108864∨n≤y*y):=by
  have key:=C4h (f:=A2n n) (fun x=>0≤x.1∧x.1≤x.2∧x.2≤67108864∧(∀m,0≤m→m<x.1→m*m<n)∧(x.2=67108864∨n≤x.2*x.2)) (fun x=>(x.2 - x.1).toNat)
    (fun y=>0≤y∧y≤67108864∧(∀m,0≤m→m<y→m*m<n)∧(y=67108864∨n≤y*y)) (by
      rintro ⟨lo,hi⟩ ⟨h1,h2,h3,h4,h5⟩
      dsimp only at h1 h2 h3 h4 h5
      unfold A2n
      dsimp only
      by_cases hlt:lo<hi
      ·have e1:w64 (lo+hi)=lo+hi:=G1 (by omega)
       have e2:w64 ((lo+hi).tdiv 2)=(lo+hi) / 2:=by rw [Int.tdiv_eq_ediv_of_nonneg (by omega)];exact G1 (by omega)
       have hm:lo≤(lo+hi) / 2∧(lo+hi) / 2<hi:=by omega
       generalize hmid:(lo+hi) / 2=mid at*
       have hmm:mid*mid≤67108864*67108864:=D06 (by omega) (by omega)
       have hmm0:=A9n mid
       have e3:w64 (mid*mid)=mid*mid:=G1 (by omega)
       have e4:w64 (mid+1)=mid+1:=G1 (by omega)
       simp only [e1,e2,e3,e4,hlt,decide_true,cond_true]
       by_cases hc:mid*mid<n
       ·simp only [hc,decide_true,cond_true]
        refine ⟨_,rfl,⟨by omega,by omega,h3,fun m hm0 hm1=> ?_,h5⟩,by dsimp only;omega⟩
        rcases Int.lt_or_le m mid with q|q
        ·have:=Int.mul_le_mul (show m≤mid by omega) (show m≤mid by omega) hm0 (by omega);omega
        ·have:m=mid:=by dsimp only at hm1;omega
         subst this;exact hc
       ·simp only [hc,decide_false,cond_false]
        exact ⟨_,rfl,⟨h1,by dsimp only;omega,by dsimp only;omega,h4, .inr (by dsimp only;omega)⟩,by dsimp only;omega⟩
      ·simp only [hlt,decide_false,cond_false]
       obtain rfl:lo=hi:=by omega
       exact ⟨_,rfl,h1,h3,h4,h5⟩) (0,67108864) ⟨by decide,by decide,by decide,fun m h1 h2=>by dsimp only at h2;omega, .inl rfl⟩
  obtain ⟨y,hy,h1,h2,h3,h4⟩:=key
  refine ⟨y,?_,h1,h2,h3,h4⟩
  have hmm:y*y≤67108864*67108864:=D06 (by omega) (by omega)
  have hmm0:=A9n y
  unfold A4b
  rw [hy,Option.bind_some,G1 (by omega)]
/-- The least number whose square is not less. -/
noncomputable def rt (n:Int):Int:=(A49 n).choose
theorem B4r (n:Int):A4b n=some (rt n,rt n*rt n==n):=(A49 n).choose_spec.1
theorem B82 (n:Int):0≤rt n:=(A49 n).choose_spec.2.1
theorem D4v (n m:Int)(h1:0≤m)(h2:m<rt n):m*m<n:=(A49 n).choose_spec.2.2.2.1 m h1 h2
theorem D4w (n:Int):rt n=67108864∨n≤rt n*rt n:=(A49 n).choose_spec.2.2.2.2
theorem D32 {l:Int}(h0:0≤l)(h1:l≤67108864):rt (l*l)=l:=by
  rcases Int.lt_trichotomy (rt (l*l)) l with q|q|q
  ·rcases D4w (l*l)with h|h
   ·omega
   ·have h2:=B82 (l*l)
    have:=Int.mul_lt_mul' (show rt (l*l)≤l by omega) q h2 (by omega);omega
  ·exact q
  ·have:=D4v (l*l) l h0 q;omega
theorem B83 (n:Int)(h0:0≤n)(h1:n<18014398509481984): ∃r,A59 n=some r∧0≤r∧r<134217728∧r*r≤n∧n< (r+1)* (r+1):=by
  have key:=C4h (f:=A5p n) (fun x=>0≤x.1∧x.1*x.1≤n∧((∃k:Nat,k≤26∧x.2=2^k∧x.1+2*2^k≤134217728∧n< (x.1+2*2^k)* (x.1+2*2^k))∨(x.2=0∧x.1<134217728∧n< (x.1+1)* (x.1+1)))) (fun x=>x.2.toNat)
    (fun r=>0≤r∧r<134217728∧r*r≤n∧n< (r+1)* (r+1)) (by
      rintro ⟨r,bit⟩ ⟨q1,q2,q3⟩
      dsimp only at q1 q2 q3
      unfold A5p
      dsimp only
      rcases q3 with ⟨k,hk,rfl,q4,q5⟩|⟨rfl,q4,q5⟩
      ·have hp:(0:Int)<2^k:=Int.pow_pos (by decide)
       generalize hb:(2:Int)^k=b at*
       have e1:w64 (r+b)=r+b:=G1 (by omega)
       have hmm:(r+b)* (r+b)≤134217728*134217728:=D06 (by omega) (by omega)
       have hmm0:=A9n (r+b)
       have e2:w64 ((r+b)* (r+b))=(r+b)* (r+b):=G1 (by omega)
       have e3:w64 (b.tdiv 2)=b / 2:=by rw [Int.tdiv_eq_ediv_of_nonneg (by omega)];exact G1 (by omega)
       have hb0:b>0:=by omega
       simp only [e1,e2,e3,hb0,decide_true,cond_true]
       have hnext: ∀r',0≤r'→r'*r'≤n→r'+b≤134217728→n< (r'+b)* (r'+b)→(∃j:Nat,j≤26∧b / 2=2^j∧r'+2*2^j≤134217728∧n< (r'+2*2^j)* (r'+2*2^j))∨(b / 2=0∧r'<134217728∧n< (r'+1)* (r'+1)):=by
         intro r' a1 a2 a3 a4
         cases k with
         |zero=>
          have:b=1:=by rw [← hb];rfl
          subst this
          exact .inr ⟨by decide,by omega,a4⟩
         |succ j=>
          have hj:b=2*2^j:=by rw [← hb,Int.pow_succ];omega
          refine .inl ⟨j,by omega,by omega,by omega,by rw [← hj];exact a4⟩
       by_cases hc:(r+b)* (r+b)≤n
       ·simp only [hc,decide_true,cond_true]
        refine ⟨_,rfl,⟨by dsimp only;omega,hc,hnext (r+b) (by omega) hc (by omega) (by rw [show r+b+b=r+2*b by omega];exact q5)⟩,by dsimp only;omega⟩
       ·simp only [hc,decide_false,cond_false]
        exact ⟨_,rfl,⟨q1,q2,hnext r q1 q2 (by omega) (by omega)⟩,by dsimp only;omega⟩
      ·simp only [show ¬(0:Int)>0 by decide,decide_false,cond_false]
       exact ⟨_,rfl,q1,q4,q2,q5⟩) (0,67108864) ⟨by decide,by dsimp only;omega, .inl ⟨26,by decide,by decide,by decide,by dsimp only;omega⟩⟩
  obtain ⟨r,hr,a⟩:=key
  exact ⟨r,by unfold A59;rw [hr];rfl,a⟩
theorem C0r {n:Int}(h0:0≤n)(h1:n≤4503599627370496): ∃r,A59 n=some r∧0≤r∧r<134217728∧(r*r=n↔rt n*rt n=n)∧(r*r=n→r=rt n):=by
  obtain ⟨r,hr,a1,a2,a3,a4⟩:=B83 n h0 (by omega)
  have hr26:r≤67108864:=by
    rcases Int.lt_or_le r 67108865 with q|q
    ·omega
    ·have:=Int.mul_le_mul q q (by decide) (by omega);omega
  refine ⟨r,hr,a1,a2,⟨fun h=> ?_,fun h=> ?_⟩,fun h=> ?_⟩
  ·rw [← h,D32 a1 hr26]
  ·rcases Int.lt_trichotomy r (rt n)with q|q|q
   ·have:=Int.mul_le_mul (show r+1≤rt n by omega) (show r+1≤rt n by omega) (by omega) (B82 n);omega
   ·rw [q];exact h
   ·have h2:=B82 n
    have:=Int.mul_lt_mul' (show rt n≤r by omega) q h2 (by omega);omega
  ·rw [← h,D32 a1 hr26]
end Go.Abs.Roadsz
namespace Go.Abs.Roadsz
open Go Go.Abs
def okS (p:Spot):Bool:=decide (-16777216≤p.X)&&decide (p.X≤16777216)&&decide (-16777216≤p.Y)&&decide (p.Y≤16777216)
theorem okS_iff {p:Spot}:okS p=true↔ -16777216≤p.X∧p.X≤16777216∧ -16777216≤p.Y∧p.Y≤16777216:=by simp [okS,and_assoc]
theorem C88 (p:Spot):((decide ((mm2 false p.X p.Y)< (-16777216)))||(decide ((mm2 true p.X p.Y)>16777216)))= !okS p:=by
  rw [D2o,D2n]
  cases h:okS p with
  |true=>have:=okS_iff.1 h;simp;omega
  |false=>
   have: ¬(-16777216≤p.X∧p.X≤16777216∧ -16777216≤p.Y∧p.Y≤16777216):=fun q=>by rw [okS_iff.2 q]at h;cases h
   simp;omega
theorem C0s (l:List Spot)(hl:l.length≤1000000): ∀(r:List Spot) (i:Nat),l.drop i=r→loop (A0h l) (i:Int)=some (if r.all okS then .inl ()else .inr false):=by
  intro r
  induction r with
  |nil=>
   intro i hi
   have:=T6 hi
   refine D5 ?_
   unfold A0h
   simp only [show ¬(i:Int)<l.length by omega,decide_false,cond_false,List.all_nil,if_true]
  |cons p r ih=>
   intro i hi
   have hlt:=P7 hi
   have hstep:A0h l (i:Int)=if okS p then some (.go ((i+1:Nat):Int))else some (.out (.inr false)):=by
     unfold A0h
     simp only [show (i:Int)<l.length by omega,decide_true,cond_true,A1g hi,Option.bind_some,C88]
     cases h:okS p with
     |true=>simp only [Bool.not_true,cond_false,if_true];rw [G1 (by omega)];rfl
     |false=>simp
   cases h:okS p with
   |true=>
    rw [h,if_pos rfl]at hstep
    rw [L3 hstep,ih (i+1) (L4 hi)]
    simp [h]
   |false=>
    rw [h]at hstep
    rw [D5 hstep]
    simp [h]
theorem C0t (l:List Spot)(hl:l.length≤1000000):A64 l=some (l.all okS):=by
  unfold A64
  have:=C0s l hl l 0 (by simp)
  rw [show ((0:Nat):Int)=0 from rfl]at this
  rw [this]
  cases l.all okS<;>rfl
theorem B97 (p:Spot):A86 p=some (okS p):=by
  unfold A86 okS;rfl
def vec (p q:Spot):CurveVector:=⟨q.X - p.X,q.Y - p.Y⟩
def W2 (v w:CurveVector):Int:=v.x*w.x+v.y*w.y
/-- A vector between valid spots. -/
def okV (v:CurveVector):Prop:= -33554432≤v.x∧v.x≤33554432∧ -33554432≤v.y∧v.y≤33554432
theorem B84 {p q:Spot}(hp:okS p=true)(hq:okS q=true):okV (vec p q):=by
  have:=okS_iff.1 hp;have:=okS_iff.1 hq
  unfold okV vec;dsimp only;omega
theorem B4s {p q:Spot}(hp:okS p=true)(hq:okS q=true):A57 p q=some (vec p q):=by
  have:=okS_iff.1 hp;have:=okS_iff.1 hq
  unfold A57 vec
  rw [G1 (by omega),G1 (by omega)]
theorem C89 {v w:CurveVector}(hv:okV v)(hw:okV w): -2251799813685248≤W2 v w∧W2 v w≤2251799813685248∧(-1125899906842624≤v.x*w.x∧v.x*w.x≤1125899906842624)∧ -1125899906842624≤v.y*w.y∧v.y*w.y≤1125899906842624:=by
  obtain ⟨a1,a2,a3,a4⟩:=hv
  obtain ⟨b1,b2,b3,b4⟩:=hw
  have h1:=D1a ⟨a1,a2⟩ ⟨b1,b2⟩
  have h2:=D1a ⟨a3,a4⟩ ⟨b3,b4⟩
  unfold W2
  omega
theorem B1w {v w:CurveVector}(hv:okV v)(hw:okV w):T7 v w=some (W2 v w):=by
  have h:=C89 hv hw
  unfold T7
  rw [G1 (n:=v.x*w.x) (by omega),G1 (n:=v.y*w.y) (by omega),G1 (by unfold W2 at h;omega)]
  rfl
theorem C61 (v:CurveVector):0≤W2 v v:=by have:=A9n v.x;have:=A9n v.y;unfold W2;omega
def vs (v:CurveVector):Spot:=⟨v.x,v.y⟩
theorem A9e {p q:Spot}(hp:okS p=true)(hq:okS q=true):A51 q p=some (vs (vec p q)):=by
  have:=okS_iff.1 hp;have:=okS_iff.1 hq
  unfold A51 vec vs
  rw [G1 (by omega),G1 (by omega)]
theorem B1x {v w:CurveVector}(hv:okV v)(hw:okV w):A6x (vs v) (vs w)=some (W2 v w):=by
  have h:=C89 hv hw
  unfold A6x vs
  dsimp only
  rw [G1 (n:=v.x*w.x) (by omega),G1 (n:=v.y*w.y) (by omega),G1 (by unfold W2 at h;omega)]
  rfl
/-- The error of a chain of points, from a piece on; the piece ahead of it. -/
noncomputable def goM:Option CurveVector→List Spot→Int
  |last,p::q::r=>
   if rt (W2 (vec p q) (vec p q))*rt (W2 (vec p q) (vec p q))≠W2 (vec p q) (vec p q)then 3
   else if rt (W2 (vec p q) (vec p q))<1000∨rt (W2 (vec p q) (vec p q))>1048576 then 2
   else match last with
     |some u=>if W2 u (vec p q)≤0 then 12 else goM (some (vec p q)) (q::r)
     |none=>goM (some (vec p q)) (q::r)
  |_,_=>0
theorem B6h (last:Option CurveVector)(p q:Spot)(r:List Spot):goM last (p::q::r)=
    if rt (W2 (vec p q) (vec p q))*rt (W2 (vec p q) (vec p q))≠W2 (vec p q) (vec p q)then 3
    else if rt (W2 (vec p q) (vec p q))<1000∨rt (W2 (vec p q) (vec p q))>1048576 then 2
    else match last with
      |some u=>if W2 u (vec p q)≤0 then 12 else goM (some (vec p q)) (q::r)
      |none=>goM (some (vec p q)) (q::r):=by
  conv=>lhs;unfold goM
noncomputable def A30 (l:List Spot):Int:=if l.length<2 then 6 else if l.length>16 then 5 else if l.all okS then goM none l else 2
theorem B98 (c:Curve)(hl:c.Pts.length≤1000000)(hok:c.Pts.all okS=true): ∀(r:List Spot) (p:Spot) (i:Nat) (last:CurveVector),c.Pts.drop i=p::r→okV last→
    loop (X3 c) ((i:Int),last)=some (if goM (if i=0 then none else some last) (p::r)=0 then .inl ()else .inr (goM (if i=0 then none else some last) (p::r))):=by
  intro r
  induction r with
  |nil=>
   intro p i last hi hlast
   have hlt:=P7 hi
   have:=T6 (L4 hi)
   refine D5 ?_
   unfold X3
   dsimp only
   rw [G1 (n:=(c.Pts.length:Int) - 1) (by omega)]
   simp only [show ¬(i:Int)< (c.Pts.length:Int) - 1 by omega,decide_false,cond_false,goM,if_true]
  |cons q r ih=>
   intro p i last hi hlast
   have hlt:=P7 hi
   have hi1:=L4 hi
   have hlt1:=P7 hi1
   have hp:okS p=true:=List.all_eq_true.1 hok p (List.mem_of_mem_drop (i:=i) (by rw [hi];simp))
   have hq:okS q=true:=List.all_eq_true.1 hok q (List.mem_of_mem_drop (i:=i) (by rw [hi];simp))
   have hv:=B84 hp hq
   have hg1:F3 c.Pts ((i:Int)+1)=some q:=by have:=A1g hi1;simpa using this
   have hstep:X3 c ((i:Int),last)=
    if rt (W2 (vec p q) (vec p q))*rt (W2 (vec p q) (vec p q))≠W2 (vec p q) (vec p q)then some (.out (.inr 3))
    else if rt (W2 (vec p q) (vec p q))<1000∨rt (W2 (vec p q) (vec p q))>1048576 then some (.out (.inr 2))
    else if i≠0∧W2 last (vec p q)≤0 then some (.out (.inr 12))else some (.go (((i+1:Nat):Int),vec p q)):=by
     unfold X3
     dsimp only
     rw [G1 (n:=(c.Pts.length:Int) - 1) (by omega),G1 (n:=(i:Int)+1) (by omega)]
     simp only [show (i:Int)< (c.Pts.length:Int) - 1 by omega,decide_true,cond_true,A1g hi,hg1,Option.bind_some,B4s hp hq,B1w hv hv,B4r]
     by_cases h1:rt (W2 (vec p q) (vec p q))*rt (W2 (vec p q) (vec p q))=W2 (vec p q) (vec p q)
     ·simp only [h1,beq_self_eq_true,Bool.not_true,cond_false,ne_eq,not_true_eq_false,if_false]
      by_cases h2:rt (W2 (vec p q) (vec p q))<1000∨rt (W2 (vec p q) (vec p q))>1048576
      ·rw [if_pos h2]
       have:(decide (rt (W2 (vec p q) (vec p q))<1000)||decide (rt (W2 (vec p q) (vec p q))>1048576))=true:=by simpa using h2
       rw [this];rfl
      ·rw [if_neg h2]
       have:(decide (rt (W2 (vec p q) (vec p q))<1000)||decide (rt (W2 (vec p q) (vec p q))>1048576))=false:=by simpa using h2
       rw [this]
       simp only [cond_false]
       by_cases h3:i=0
       ·subst h3
        simp only [Int.natCast_zero,gt_iff_lt,Int.lt_irrefl,decide_false,cond_false,Bool.false_and,Option.bind_some,not_true_eq_false,false_and,if_false]
        rfl
       ·have h4:(i:Int)>0:=by omega
        simp only [h4,decide_true,cond_true,B1w hlast hv,Option.bind_some,Bool.true_and,h3,not_false_eq_true,true_and]
        by_cases h5:W2 last (vec p q)≤0<;>simp [h5]
     ·have:(rt (W2 (vec p q) (vec p q))*rt (W2 (vec p q) (vec p q))==W2 (vec p q) (vec p q))=false:=by simpa using h1
      simp only [this,Bool.not_false,cond_true,ne_eq,h1,not_false_eq_true,if_true]
   rw [B6h]
   by_cases h1:rt (W2 (vec p q) (vec p q))*rt (W2 (vec p q) (vec p q))≠W2 (vec p q) (vec p q)
   ·rw [if_pos h1]at hstep
    rw [D5 hstep,if_pos h1];rfl
   ·rw [if_neg h1]at hstep ⊢
    by_cases h2:rt (W2 (vec p q) (vec p q))<1000∨rt (W2 (vec p q) (vec p q))>1048576
    ·rw [if_pos h2]at hstep
     rw [D5 hstep,if_pos h2];rfl
    ·rw [if_neg h2]at hstep ⊢
     by_cases h3:i=0
     ·subst h3
      rw [if_neg (by simp)]at hstep
      rw [L3 hstep,ih q (0+1) (vec p q) hi1 hv]
      simp
     ·by_cases h5:W2 last (vec p q)≤0
      ·rw [if_pos ⟨h3,h5⟩]at hstep
       rw [D5 hstep]
       simp [h3,h5]
      ·rw [if_neg (fun h=>h5 h.2)]at hstep
       rw [L3 hstep,ih q (i+1) (vec p q) hi1 hv]
       simp [h3,h5]
theorem B35 (c:Curve)(hl:c.Pts.length≤1000000):A3g c=some (A30 c.Pts):=by
  unfold A3g A30
  by_cases h1:c.Pts.length<2
  ·rw [if_pos h1,show decide ((c.Pts.length:Int)<2)=true by simp;omega];rfl
  ·rw [if_neg h1,show decide ((c.Pts.length:Int)<2)=false by simp;omega]
   simp only [cond_false]
   by_cases h2:c.Pts.length>16
   ·rw [if_pos h2,show decide ((c.Pts.length:Int)>16)=true by simp;omega];rfl
   ·rw [if_neg h2,show decide ((c.Pts.length:Int)>16)=false by simp;omega]
    simp only [cond_false,C0t c.Pts hl,Option.bind_some]
    cases h3:c.Pts.all okS with
    |false=>rfl
    |true=>
     simp only [Bool.not_true,cond_false,if_true]
     cases hp:c.Pts with
     |nil=>rw [hp]at h1;simp at h1
     |cons p r=>
      have:=B98 c hl h3 r p 0 ⟨0,0⟩ (by rw [hp];rfl) ⟨by decide,by decide,by decide,by decide⟩
      rw [if_pos rfl,show ((0:Nat):Int)=0 from rfl]at this
      rw [this]
      by_cases h4:goM none (p::r)=0
      ·rw [if_pos h4,h4];rfl
      ·rw [if_neg h4];rfl
end Go.Abs.Roadsz
namespace Go.Abs.Roadsz
open Go Go.Abs
theorem C8a (v w:CurveVector):W2 v w=W2 w v:=by unfold W2;rw [Int.mul_comm v.x,Int.mul_comm v.y]
theorem B85 (c:Curve)(hl:c.Pts.length≤1000000): ∀(r:List Spot) (i:Nat),c.Pts.drop i=r→loop (A1u c) (i:Int)=some (if r.all okS then .inl ()else .inr 2):=by
  intro r
  induction r with
  |nil=>
   intro i hi
   have:=T6 hi
   refine D5 ?_
   unfold A1u
   simp only [show ¬(i:Int)<c.Pts.length by omega,decide_false,cond_false,List.all_nil,if_true]
  |cons p r ih=>
   intro i hi
   have hlt:=P7 hi
   have hstep:A1u c (i:Int)=if okS p then some (.go ((i+1:Nat):Int))else some (.out (.inr 2)):=by
     unfold A1u
     simp only [show (i:Int)<c.Pts.length by omega,decide_true,cond_true,A1g hi,Option.bind_some,B97]
     cases h:okS p with
     |true=>simp only [Bool.not_true,cond_false,if_true];rw [G1 (by omega)];rfl
     |false=>simp
   cases h:okS p with
   |true=>
    rw [h,if_pos rfl]at hstep
    rw [L3 hstep,ih (i+1) (L4 hi)]
    simp [h]
   |false=>
    rw [h]at hstep
    rw [D5 hstep]
    simp [h]
theorem D1e {v:CurveVector}(hv:okV v): ∃l,A59 (W2 v v)=some l∧(w64 (l*l) !=W2 v v)= !(rt (W2 v v)*rt (W2 v v)==W2 v v)∧(rt (W2 v v)*rt (W2 v v)=W2 v v→l=rt (W2 v v)):=by
  have hb:=C89 hv hv
  obtain ⟨l,h1,h2,h3,h4,h5⟩:=C0r (C61 v) (by omega)
  have hmm:l*l≤134217728*134217728:=D06 (by omega) (by omega)
  have hmm0:=A9n l
  refine ⟨l,h1,?_,fun h=>h5 (h4.2 h)⟩
  rw [G1 (by omega)]
  by_cases h:l*l=W2 v v
  ·simp [h,h4.1 h]
  ·have h': ¬rt (W2 v v)*rt (W2 v v)=W2 v v:=fun q=>h (h4.2 q)
   have e1:(l*l !=W2 v v)=true:=bne_iff_ne.2 h
   have e2:(rt (W2 v v)*rt (W2 v v)==W2 v v)=false:=beq_eq_false_iff_ne.2 h'
   rw [e1,e2];rfl
theorem B86 (c:Curve)(hl:c.Pts.length≤1000000)(hok:c.Pts.all okS=true): ∀(r:List Spot) (p:Spot) (i:Nat) (last:Option CurveVector),c.Pts.drop i=p::r→
    (i=0∧last=none∨∃j a,i=j+1∧c.Pts.drop j=a::p::r∧last=some (vec a p))→
    loop (A1t c) (i:Int)=some (if goM last (p::r)=0 then .inl ()else .inr (goM last (p::r))):=by
  intro r
  induction r with
  |nil=>
   intro p i last hi hlast
   have hlt:=P7 hi
   have:=T6 (L4 hi)
   refine D5 ?_
   unfold A1t
   rw [G1 (n:=(i:Int)+1) (by omega)]
   simp only [show ¬(i:Int)+1< (c.Pts.length:Int) by omega,decide_false,cond_false,goM,if_true]
  |cons q r ih=>
   intro p i last hi hlast
   have hlt:=P7 hi
   have hi1:=L4 hi
   have hlt1:=P7 hi1
   have hp:okS p=true:=List.all_eq_true.1 hok p (List.mem_of_mem_drop (i:=i) (by rw [hi];simp))
   have hq:okS q=true:=List.all_eq_true.1 hok q (List.mem_of_mem_drop (i:=i) (by rw [hi];simp))
   have hv:=B84 hp hq
   have hg1:F3 c.Pts ((i:Int)+1)=some q:=by have:=A1g hi1;simpa using this
   obtain ⟨l,hl1,hl2,hl3⟩:=D1e hv
   have hstep:A1t c (i:Int)=
    if rt (W2 (vec p q) (vec p q))*rt (W2 (vec p q) (vec p q))≠W2 (vec p q) (vec p q)then some (.out (.inr 3))
    else if rt (W2 (vec p q) (vec p q))<1000∨rt (W2 (vec p q) (vec p q))>1048576 then some (.out (.inr 2))
    else match last with
      |some u=>if W2 u (vec p q)≤0 then some (.out (.inr 12))else some (.go ((i+1:Nat):Int))
      |none=>some (.go ((i+1:Nat):Int)):=by
     unfold A1t
     rw [G1 (n:=(i:Int)+1) (by omega)]
     simp only [show (i:Int)+1< (c.Pts.length:Int) by omega,decide_true,cond_true,A1g hi,hg1,Option.bind_some,A9e hp hq,B1x hv hv,hl1,hl2]
     by_cases h1:rt (W2 (vec p q) (vec p q))*rt (W2 (vec p q) (vec p q))=W2 (vec p q) (vec p q)
     ·simp only [h1,beq_self_eq_true,Bool.not_true,cond_false,ne_eq,not_true_eq_false,if_false,hl3 h1]
      by_cases h2:rt (W2 (vec p q) (vec p q))<1000∨rt (W2 (vec p q) (vec p q))>1048576
      ·rw [if_pos h2]
       have:(decide (rt (W2 (vec p q) (vec p q))<1000)||decide (rt (W2 (vec p q) (vec p q))>1048576))=true:=by simpa using h2
       rw [this];rfl
      ·rw [if_neg h2]
       have:(decide (rt (W2 (vec p q) (vec p q))<1000)||decide (rt (W2 (vec p q) (vec p q))>1048576))=false:=by simpa using h2
       rw [this]
       simp only [cond_false]
       rcases hlast with ⟨rfl,rfl⟩|⟨j,a,rfl,hj,rfl⟩
       ·simp only [Int.natCast_zero,gt_iff_lt,Int.lt_irrefl,decide_false,cond_false,Bool.false_and,Option.bind_some]
        rfl
       ·have h4:(((j+1:Nat):Int))>0:=by omega
        have ha:okS a=true:=List.all_eq_true.1 hok a (List.mem_of_mem_drop (i:=j) (by rw [hj];simp))
        have hva:=B84 ha hp
        have hgj:F3 c.Pts (w64 (((j+1:Nat):Int) - 1))=some a:=by
          rw [G1 (by omega),show (((j+1:Nat):Int) - 1)=(j:Int) by omega]
          exact A1g hj
        simp only [h4,decide_true,cond_true,hgj,Option.bind_some,A9e ha hp,B1x hv hva,Bool.true_and]
        rw [C8a (vec p q) (vec a p)]
        by_cases h5:W2 (vec a p) (vec p q)≤0
        ·simp [h5]
        ·simp [h5]
     ·have:(rt (W2 (vec p q) (vec p q))*rt (W2 (vec p q) (vec p q))==W2 (vec p q) (vec p q))=false:=by simpa using h1
      simp only [this,Bool.not_false,cond_true,ne_eq,h1,not_false_eq_true,if_true]
   rw [B6h]
   have hrec:=ih q (i+1) (some (vec p q)) hi1 (.inr ⟨i,p,rfl,hi,rfl⟩)
   by_cases h1:rt (W2 (vec p q) (vec p q))*rt (W2 (vec p q) (vec p q))≠W2 (vec p q) (vec p q)
   ·rw [if_pos h1]at hstep
    rw [D5 hstep,if_pos h1];rfl
   ·rw [if_neg h1]at hstep ⊢
    by_cases h2:rt (W2 (vec p q) (vec p q))<1000∨rt (W2 (vec p q) (vec p q))>1048576
    ·rw [if_pos h2]at hstep
     rw [D5 hstep,if_pos h2];rfl
    ·rw [if_neg h2]at hstep ⊢
     cases last with
     |none=>rw [L3 hstep,hrec]
     |some u=>
      dsimp only at hstep ⊢
      by_cases h5:W2 u (vec p q)≤0
      ·rw [if_pos h5]at hstep
       rw [D5 hstep];simp [h5]
      ·rw [if_neg h5]at hstep
       rw [L3 hstep,hrec];simp [h5]
theorem B36 (c:Curve)(hl:c.Pts.length≤1000000):A65 c=some (A30 c.Pts):=by
  unfold A65 A30
  by_cases h1:c.Pts.length<2
  ·rw [if_pos h1,show decide ((c.Pts.length:Int)<2)=true by simp;omega];rfl
  ·rw [if_neg h1,show decide ((c.Pts.length:Int)<2)=false by simp;omega]
   simp only [cond_false]
   by_cases h2:c.Pts.length>16
   ·rw [if_pos h2,show decide ((c.Pts.length:Int)>16)=true by simp;omega];rfl
   ·rw [if_neg h2,show decide ((c.Pts.length:Int)>16)=false by simp;omega]
    have hg:=B85 c hl c.Pts 0 (by simp)
    rw [show ((0:Nat):Int)=0 from rfl]at hg
    simp only [cond_false,hg]
    cases h3:c.Pts.all okS with
    |false=>rfl
    |true=>
     simp only [if_true,thenS]
     cases hp:c.Pts with
     |nil=>rw [hp]at h1;simp at h1
     |cons p r=>
      have:=B86 c hl h3 r p 0 none (by rw [hp];rfl) (.inl ⟨rfl,rfl⟩)
      rw [show ((0:Nat):Int)=0 from rfl]at this
      rw [this]
      by_cases h4:goM none (p::r)=0
      ·rw [if_pos h4,h4]
      ·rw [if_neg h4]
/-- What a valid chain is. -/
inductive Good:Option CurveVector→List Spot→Prop
  |one (last:Option CurveVector) (p:Spot):Good last [p]
  |cons (last:Option CurveVector) (p q:Spot) (r:List Spot) (h1:rt (W2 (vec p q) (vec p q))*rt (W2 (vec p q) (vec p q))=W2 (vec p q) (vec p q)) (h2:1000≤rt (W2 (vec p q) (vec p q))) (h3:rt (W2 (vec p q) (vec p q))≤1048576)
     (h4: ∀u,last=some u→0<W2 u (vec p q)) (h:Good (some (vec p q)) (q::r)):Good last (p::q::r)
theorem C3l: ∀(r:List Spot) (p:Spot) (last:Option CurveVector),goM last (p::r)=0→Good last (p::r):=by
  intro r
  induction r with
  |nil=>intro p last _;exact .one _ _
  |cons q r ih=>
   intro p last h
   rw [B6h]at h
   split at h
   ·cases h
   ·rename_i h1
    split at h
    ·cases h
    ·rename_i h2
     have h1:rt (W2 (vec p q) (vec p q))*rt (W2 (vec p q) (vec p q))=W2 (vec p q) (vec p q):=by simpa using h1
     cases last with
     |none=>exact .cons _ _ _ _ h1 (by omega) (by omega) (fun u hu=>by cases hu) (ih q _ h)
     |some u=>
      dsimp only at h
      split at h
      ·cases h
      ·exact .cons _ _ _ _ h1 (by omega) (by omega) (fun u' hu=>by cases hu;omega) (ih q _ h)
theorem C3m {last:Option CurveVector}{l:List Spot}(h:Good last l):goM last l=0:=by
  induction h with
  |one=>rfl
  |cons last p q r h1 h2 h3 h4 h ih=>
   rw [B6h,if_neg (by simpa using h1),if_neg (by omega)]
   cases last with
   |none=>exact ih
   |some u=>dsimp only;rw [if_neg (by have:=h4 u rfl;omega)];exact ih
structure Valid (l:List Spot):Prop where
  two:2≤l.length
  most:l.length≤16
  ok:l.all okS=true
  good:Good none l
theorem checkM_zero {l:List Spot}:A30 l=0↔Valid l:=by
  unfold A30
  constructor
  ·intro h
   split at h
   ·cases h
   ·rename_i h1
    split at h
    ·cases h
    ·rename_i h2
     split at h
     ·rename_i h3
      cases l with
      |nil=>simp at h1
      |cons p r=>exact ⟨by omega,by omega,h3,C3l r p none h⟩
     ·cases h
  ·rintro ⟨h1,h2,h3,h4⟩
   rw [if_neg (by omega),if_neg (by omega),if_pos h3]
   exact C3m h4
end Go.Abs.Roadsz
namespace Go.Abs.Roadsz
open Go Go.Abs
/-- The pieces of a chain: the number, the piece. -/
noncomputable def B3m:Nat→Int→List Spot→List (Int×CurvePiece)
  |i,s,p::q::r=>((i:Int),⟨p,vec p q,rt (W2 (vec p q) (vec p q)),s⟩)::B3m (i+1) (w64 (s+rt (W2 (vec p q) (vec p q)))) (q::r)
  |_,_,_=> []
theorem B5r (i:Nat)(s:Int)(p q:Spot)(r:List Spot):B3m i s (p::q::r)=((i:Int),⟨p,vec p q,rt (W2 (vec p q) (vec p q)),s⟩)::B3m (i+1) (w64 (s+rt (W2 (vec p q) (vec p q)))) (q::r):=by conv=>lhs;unfold B3m
theorem C3n (pts:List Spot)(hok:pts.all okS=true): ∀(r:List Spot) (p:Spot) (i:Nat) (s:Int),pts.drop i=p::r→A5l pts r.length i s=some (B3m i s (p::r)):=by
  intro r
  induction r with
  |nil=>intro p i s _;rfl
  |cons q r ih=>
   intro p i s hi
   have hi1:=L4 hi
   have hp:okS p=true:=List.all_eq_true.1 hok p (List.mem_of_mem_drop (i:=i) (by rw [hi];simp))
   have hq:okS q=true:=List.all_eq_true.1 hok q (List.mem_of_mem_drop (i:=i) (by rw [hi];simp))
   have hv:=B84 hp hq
   have h0:pts[i]? =some p:=by have:=congrArg (fun z=>z[0]?) hi;simpa using this
   have h1:pts[i+1]? =some q:=by have:=congrArg (fun z=>z[0]?) hi1;simpa using this
   rw [List.length_cons,A5l,h0,h1]
   simp only [Option.bind_some,B4s hp hq,B1w hv hv,B4r]
   rw [ih q (i+1) _ hi1,B5r]
   rfl
theorem C62 {pts:List Spot}(h:Valid pts):B3h pts=some (B3m 0 0 pts):=by
  unfold B3h
  have:=h.most
  rw [if_pos (by omega)]
  cases hp:pts with
  |nil=>have:=h.two;rw [hp]at this;simp at this
  |cons p r=>exact C3n (p::r) (by rw [← hp];exact h.ok) r p 0 0 rfl
/-- The lengths. -/
noncomputable def C2s:List Spot→List Int
  |p::q::r=>rt (W2 (vec p q) (vec p q))::C2s (q::r)
  |_=> []
theorem B1y (p q:Spot)(r:List Spot):C2s (p::q::r)=rt (W2 (vec p q) (vec p q))::C2s (q::r):=by conv=>lhs;unfold C2s
theorem B0s: ∀(r:List Spot) (p:Spot),(C2s (p::r)).length=r.length
  | [],_=>rfl
  |q::r,p=>by rw [B1y,List.length_cons,B0s r q,List.length_cons]
theorem B5s: ∀(r:List Spot) (p:Spot) (i:Nat) (s:Int),(B3m i s (p::r)).map (·.2.l)=C2s (p::r)
  | [],_,_,_=>rfl
  |q::r,p,i,s=>by rw [B5r,B1y,List.map_cons,B5s r q]
theorem C3o: ∀(L:List (Int×CurvePiece)) (out:List Int),out.length+L.length≤1000000000→loopL X9 (fun x=>x) L out=some (out++L.map (·.2.l)):=by
  intro L
  induction L with
  |nil=>intro out _;simp [loopL]
  |cons a L ih=>
   intro out h
   simp only [List.length_cons]at h
   have:X9 out a=some (.go (out++ [a.2.l])):=by
     unfold X9
     rw [A94 (by simp;omega)];rfl
   rw [loopL,this]
   dsimp only
   rw [ih _ (by simp;omega)]
   simp
theorem B87 (c:Curve)(hl:c.Pts.length≤1000000):A3h c=some (if A30 c.Pts=0 then C2s c.Pts else []):=by
  unfold A3h
  rw [B35 c hl,Option.bind_some]
  by_cases h:A30 c.Pts=0
  ·rw [if_pos h,h]
   have hv:=checkM_zero.1 h
   have:=hv.most
   simp only [bne_self_eq_false,cond_false,C62 hv,Option.bind_some]
   cases hp:c.Pts with
   |nil=>have:=hv.two;rw [hp]at this;simp at this
   |cons p r=>
    have e:=B5s r p 0 0
    rw [C3o _ _ (by
     have:=congrArg List.length e
     rw [List.length_map,B0s]at this
     rw [this];rw [hp]at hl;simp at hl ⊢;omega)]
    rw [e];rfl
  ·rw [if_neg h,show (A30 c.Pts !=0)=true from bne_iff_ne.2 h];rfl
theorem B5g (c:Curve)(hl:c.Pts.length≤1000000)(hok:c.Pts.all okS=true): ∀(r:List Spot) (p:Spot) (i:Nat) (out:List Int) (last:Option CurveVector),c.Pts.drop i=p::r→Good last (p::r)→out.length+r.length≤1000000→
    loop (A0x c) (out,(i:Int))=some (out++C2s (p::r)):=by
  intro r
  induction r with
  |nil=>
   intro p i out last hi _ _
   have hlt:=P7 hi
   have:=T6 (L4 hi)
   refine D5 ?_
   unfold A0x
   dsimp only
   rw [G1 (n:=(i:Int)+1) (by omega)]
   simp only [show ¬(i:Int)+1< (c.Pts.length:Int) by omega,decide_false,cond_false,C2s,List.append_nil]
  |cons q r ih=>
   intro p i out last hi hg ho
   have hlt:=P7 hi
   have hi1:=L4 hi
   have hlt1:=P7 hi1
   have hp:okS p=true:=List.all_eq_true.1 hok p (List.mem_of_mem_drop (i:=i) (by rw [hi];simp))
   have hq:okS q=true:=List.all_eq_true.1 hok q (List.mem_of_mem_drop (i:=i) (by rw [hi];simp))
   have hv:=B84 hp hq
   have hg1:F3 c.Pts ((i:Int)+1)=some q:=by have:=A1g hi1;simpa using this
   obtain ⟨l,hl1,hl2,hl3⟩:=D1e hv
   cases hg with
   |cons _ _ _ _ h1 h2 h3 h4 hg=>
    have hll:=hl3 h1
    subst hll
    simp only [List.length_cons]at ho
    have hstep:A0x c (out,(i:Int))=some (.go (out++ [rt (W2 (vec p q) (vec p q))],((i+1:Nat):Int))):=by
      unfold A0x
      dsimp only
      rw [G1 (n:=(i:Int)+1) (by omega)]
      simp only [show (i:Int)+1< (c.Pts.length:Int) by omega,decide_true,cond_true,A1g hi,hg1,Option.bind_some,A9e hp hq,B1x hv hv,hl1]
      rw [A94 (by simp;omega)]
      rfl
    rw [L3 hstep,ih q (i+1) _ _ hi1 hg (by simp;omega),B1y]
    simp
theorem B88 (c:Curve)(hl:c.Pts.length≤1000000):A6y c=some (if A30 c.Pts=0 then C2s c.Pts else []):=by
  unfold A6y
  rw [B36 c hl,Option.bind_some]
  by_cases h:A30 c.Pts=0
  ·rw [if_pos h,h]
   have hv:=checkM_zero.1 h
   simp only [bne_self_eq_false,cond_false]
   cases hp:c.Pts with
   |nil=>have:=hv.two;rw [hp]at this;simp at this
   |cons p r=>
    have:=B5g c hl hv.ok r p 0 [] none (by rw [hp];rfl) (by rw [← hp];exact hv.good) (by rw [hp]at hl;simp at hl ⊢;omega)
    rw [show ((0:Nat):Int)=0 from rfl]at this
    rw [this];rfl
  ·rw [if_neg h,show (A30 c.Pts !=0)=true from bne_iff_ne.2 h];rfl
/-- A sum, as the programs take it. -/
def C3p:Int→List Int→Int
  |s,[]=>s
  |s,a::l=>C3p (w64 (s+a)) l
theorem B5h (l:List Int)(hl:l.length≤1000000): ∀(r:List Int) (i:Nat) (s:Int),l.drop i=r→loop (T0 l) (s,(i:Int))=some (C3p s r):=by
  intro r
  induction r with
  |nil=>
   intro i s hi
   have:=T6 hi
   refine D5 ?_
   unfold T0
   simp only [show ¬(i:Int)<l.length by omega,decide_false,cond_false,C3p]
  |cons a r ih=>
   intro i s hi
   have hlt:=P7 hi
   have hstep:T0 l (s,(i:Int))=some (.go (w64 (s+a),((i+1:Nat):Int))):=by
     unfold T0
     simp only [show (i:Int)<l.length by omega,decide_true,cond_true,A1g hi,Option.bind_some]
     rw [G1 (n:=(i:Int)+1) (by omega)];rfl
   rw [L3 hstep,ih (i+1) _ (L4 hi),C3p]
theorem B5i (l:List Int)(hl:l.length≤1000000): ∀(r:List Int) (i:Nat) (s:Int),l.drop i=r→loop (Y7 l) (s,(i:Int))=some (C3p s r):=by
  intro r
  induction r with
  |nil=>
   intro i s hi
   have:=T6 hi
   refine D5 ?_
   unfold Y7
   simp only [show ¬(i:Int)<l.length by omega,decide_false,cond_false,C3p]
  |cons a r ih=>
   intro i s hi
   have hlt:=P7 hi
   have hstep:Y7 l (s,(i:Int))=some (.go (w64 (s+a),((i+1:Nat):Int))):=by
     unfold Y7
     simp only [show (i:Int)<l.length by omega,decide_true,cond_true,A1g hi,Option.bind_some]
     rw [G1 (n:=(i:Int)+1) (by omega)];rfl
   rw [L3 hstep,ih (i+1) _ (L4 hi),C3p]
noncomputable def A7l (c:Curve):List Int:=if A30 c.Pts=0 then C2s c.Pts else []
theorem D33: ∀l:List Spot,(C2s l).length≤l.length
  | []=>by simp [C2s]
  |p::r=>by rw [B0s];simp
theorem B9u (c:Curve):(A7l c).length≤c.Pts.length:=by
  unfold A7l
  split
  ·exact D33 _
  ·simp
theorem B89 (c:Curve)(hl:c.Pts.length≤1000000):A3i c=some (C3p 0 (A7l c)):=by
  unfold A3i
  rw [B87 c hl,Option.bind_some]
  have:=B9u c
  have h:=B5h (A7l c) (by omega) (A7l c) 0 0 (by simp)
  rw [show ((0:Nat):Int)=0 from rfl]at h
  show (loop (T0 (A7l c)) (0,0)).bind _=_
  rw [h];rfl
theorem B8a (c:Curve)(hl:c.Pts.length≤1000000):A2l c=some (C3p 0 (A7l c)):=by
  unfold A2l
  rw [B88 c hl,Option.bind_some]
  have:=B9u c
  have h:=B5i (A7l c) (by omega) (A7l c) 0 0 (by simp)
  rw [show ((0:Nat):Int)=0 from rfl]at h
  show (loop (Y7 (A7l c)) (0,0)).bind _=_
  rw [h];rfl
end Go.Abs.Roadsz
namespace Go.Abs.Roadsz
open Go Go.Abs
/-- A quarter turn, so many times. -/
def D3l:Nat→CurveVector→CurveVector
  |0,v=>v
  |n+1,v=>D3l n ⟨-v.y,v.x⟩
theorem C3q: ∀(n:Nat) (v w:CurveVector),W2 (D3l n v) (D3l n w)=W2 v w
  |0,_,_=>rfl
  |n+1,v,w=>by rw [D3l,D3l,C3q n];unfold W2;grind
/-- A piece's vector, made of numbers: in one quadrant. -/
def D5o (n:Nat)(v:CurveVector):Prop:= ∃x y L:Int,v=D3l n ⟨x,y⟩∧0<x∧0≤y∧x*x+y*y=L*L∧1000≤L∧L≤3029∧x≤L∧y≤L
inductive Ch (Q:CurveVector→Prop):List Spot→Prop
  |one (p:Spot):Ch Q [p]
  |cons (p q:Spot) (r:List Spot) (h:Q (vec p q)) (hr:Ch Q (q::r)):Ch Q (p::q::r)
theorem B9v {n:Nat}: ∀(r:List Spot) (p:Spot) (last:Option CurveVector),Ch (D5o n) (p::r)→(∀u,last=some u→D5o n u)→Good last (p::r)
  | [],p,last,_,_=> .one _ _
  |q::r,p,last,hc,hl=>by
   cases hc with
   |cons _ _ _ h1 h2=>
    have hq:=h1
    obtain ⟨x,y,L,hv,hx,hy,hsq,hL1,hL2,hxL,hyL⟩:=h1
    have hd:W2 (vec p q) (vec p q)=L*L:=by rw [hv,C3q];unfold W2;exact hsq
    have hrt:rt (W2 (vec p q) (vec p q))=L:=by rw [hd];exact D32 (by omega) (by omega)
    refine .cons _ _ _ _ (by rw [hrt,hd]) (by rw [hrt];exact hL1) (by rw [hrt];omega) (fun u hu=> ?_) (B9v r q _ h2 (fun u hu=>by cases hu;exact hq))
    obtain ⟨x',y',L',hv',hx',hy',_⟩:=hl u hu
    rw [hv,hv',C3q]
    unfold W2
    have:=Int.mul_pos hx' hx
    have:=Int.mul_nonneg hy' hy
    dsimp only
    omega
/-- What the curves made of numbers are like. -/
structure Made (l:List Spot):Prop where
  two:2≤l.length
  six:l.length≤6
  ch: ∃n,Ch (D5o n) l
  bd: ∀p∈l, -50000≤p.X∧p.X≤50000∧ -50000≤p.Y∧p.Y≤50000
theorem Made.valid {l:List Spot}(h:Made l):Valid l:=by
  obtain ⟨n,hc⟩:=h.ch
  have:=h.two;have:=h.six
  refine ⟨h.two,by omega,List.all_eq_true.2 fun p hp=>okS_iff.2 (by have:=h.bd p hp;omega),?_⟩
  match l,h,hc with
  |p::r,_,hc=>exact B9v r p none hc (fun u hu=>by cases hu)
  | [],h,_=>exact absurd h.two (by simp)
end Go.Abs.Roadsz
namespace Go.Abs.Roadsz
open Go Go.Abs
/-! ### Loops that look for the first error -/
def M5 {α β:Type}(g:Nat→α→Option β):Nat→List α→Option β
  |_,[]=>none
  |i,a::r=>match g i a with
   |some e=>some e
   |none=>M5 g (i+1) r
def D34 {β:Type}:Option β→Sum Unit β
  |some e=> .inr e
  |none=> .inl ()
theorem A4v {α β:Type}(l:List α)(F:Int→Option (Stp Int (Sum Unit β)))(g:Nat→α→Option β)(hF: ∀(i:Nat) a,l[i]? =some a→F (i:Int)=some (match g i a with|some e=> .out (.inr e)|none=> .go ((i+1:Nat):Int)))(h0:F (l.length:Int)=some (.out (.inl ()))):
    loop F 0=some (D34 (M5 g 0 l)):=by
  have key: ∀(r:List α) (i:Nat),l.drop i=r→i≤l.length→loop F (i:Int)=some (D34 (M5 g i r)):=by
    intro r
    induction r with
    |nil=>
     intro i hi hil
     have:i=l.length:=by have:=List.drop_eq_nil_iff.1 hi;omega
     subst this
     exact D5 h0
    |cons a r ih=>
     intro i hi hil
     have hlt:i<l.length:=by
       rcases Nat.lt_or_ge i l.length with q|q
       ·exact q
       ·rw [List.drop_eq_nil_of_le q]at hi;cases hi
     have ha:l[i]? =some a:=by have:=congrArg (fun z=>z[0]?) hi;simpa using this
     have hr:l.drop (i+1)=r:=by have:=congrArg (fun z=>z.drop 1) hi;simpa using this
     have hs:=hF i a ha
     unfold M5
     cases hg:g i a with
     |some e=>rw [hg]at hs;exact D5 hs
     |none=>rw [hg]at hs;rw [L3 hs];exact ih (i+1) hr (by omega)
  have:=key l 0 rfl (by omega)
  exact this
theorem firstE_none {α β:Type}{g:Nat→α→Option β}: ∀{l:List α} {i:Nat},M5 g i l=none↔∀(j:Nat) a,l[j]? =some a→g (i+j) a=none
  | [],i=>by simp [M5]
  |a::r,i=>by
   unfold M5
   cases h:g i a with
   |some e=>
    constructor
    ·intro h';cases h'
    ·intro h';have:=h' 0 a rfl;rw [Nat.add_zero,h]at this;cases this
   |none=>
    dsimp only
    rw [firstE_none (l:=r)]
    constructor
    ·intro h' j b hj
     cases j with
     |zero=>cases hj;exact h
     |succ j=>have:=h' j b hj;rwa [show i+1+j=i+ (j+1) by omega]at this
    ·intro h' j b hj
     have:=h' (j+1) b hj
     rwa [show i+ (j+1)=i+1+j by omega]at this
/-! ### Numbers -/
def inR (n a b:Int):Bool:=decide (a≤n)&&decide (n≤b)
theorem A76 (n a b:Int):Q6 n a b=some (inR n a b):=rfl
theorem A9v (n a b:Int):A1l n a b=some (inR n a b):=rfl
def C0u (kind:Int):Int×Int×Int:=if kind=1 then (2000,30,90)else if kind=2 then (1000,20,60)else if kind=3 then (300,100,300)else (0,0,0)
theorem C2c (k:Int):A2k k=some (C0u k):=by
  unfold A2k C0u
  by_cases h:k<0∨k≥4
  ·rw [show ((decide (k<0))||(decide (k≥4)))=true by simpa using h,cond_true,if_neg (by omega),if_neg (by omega),if_neg (by omega)]
  ·rw [show ((decide (k<0))||(decide (k≥4)))=false by rw [Bool.eq_false_iff];simpa using h,cond_false]
   obtain ⟨h1,h2⟩:=not_or.1 h
   rcases (show k=0∨k=1∨k=2∨k=3 by omega)with rfl|rfl|rfl|rfl<;>rfl
theorem B9w (k:Int):A5a k=some (C0u k):=by
  unfold A5a C0u
  by_cases h1:k=1
  ·subst h1;rfl
  ·by_cases h2:k=2
   ·subst h2;rfl
   ·by_cases h3:k=3
    ·subst h3;rfl
    ·rw [if_neg h1,if_neg h2,if_neg h3]
     rw [show (k==1)=false by simpa using h1,show (k==2)=false by simpa using h2,show (k==3)=false by simpa using h3];rfl
end Go.Abs.Roadsz
namespace Go.Abs.Roadsz
open Go Go.Abs
theorem wid {n:Int}(h: -9223372036854775808≤n∧n≤9223372036854775807):w64 n=n:=Go.IntWalk.i64_in n h
theorem G0 {α:Type}{l:List α}{i:Nat}{a:α}(h:l[i]? =some a):F3 l (i:Int)=some a:=by
  unfold F3;rw [if_pos (by omega),Int.toNat_natCast];exact h
theorem Z6 {α:Type}{l:List α}{i:Nat}{a:α}(h:l[i]? =some a):i<l.length:=(List.getElem?_eq_some_iff.1 h).1
theorem C0v {α:Type}(c:Bool)(a b:α):cond c (some a) (some b)=some (cond c a b):=by cases c<;>rfl
def A4p (high:Int):Int→List Int→Bool
  |_,[]=>true
  |low,n::r=>decide (low≤n)&&decide (n<high)&&A4p high (n+1) r
theorem B8b (l:List Int)(low high:Int)(hl:l.length≤1000000)(hh:high≤1000000000)(h0:0≤low):A1i l low high=some (A4p high low l):=by
  have key: ∀(r:List Int) (i:Nat) (lo:Int),0≤lo→l.drop i=r→i≤l.length→loop (V4 l high) (lo,(i:Int))=some (if A4p high lo r then .inl ()else .inr false):=by
    intro r
    induction r with
    |nil=>
     intro i lo _ hi hil
     have:=T6 hi
     refine D5 ?_
     unfold V4
     dsimp only
     rw [show decide ((i:Int)< (l.length:Int))=false from decide_eq_false (by omega)];rfl
    |cons n r ih=>
     intro i lo hlo hi hil
     have hlt:=P7 hi
     have hs:V4 l high (lo,(i:Int))=some (if decide (lo≤n)&&decide (n<high)then .go (n+1,((i+1:Nat):Int))else .out (.inr false)):=by
       unfold V4
       dsimp only
       rw [show decide ((i:Int)< (l.length:Int))=true from decide_eq_true (by omega),A1g hi,cond_true,Option.bind_some,wid (n:=(i:Int)+1) (by omega)]
       by_cases q:lo≤n∧n<high
       ·rw [show ((decide (n<lo))||(decide (n≥high)))=false by rw [Bool.eq_false_iff];simp;omega,cond_false,wid (n:=n+1) (by omega),if_pos (by simpa using q)];rfl
       ·rw [show ((decide (n<lo))||(decide (n≥high)))=true by simp;omega,cond_true,if_neg (by simpa using q)]
     unfold A4p
     cases q:(decide (lo≤n)&&decide (n<high))
     ·rw [q]at hs;rw [D5 hs];rfl
     ·rw [q]at hs
      simp only [Bool.and_eq_true,decide_eq_true_eq]at q
      rw [L3 hs,ih (i+1) (n+1) (by omega) (L4 hi) (by omega)];rfl
  unfold A1i
  have:=key l 0 low h0 rfl (by omega)
  rw [show ((0:Nat):Int)=0 from rfl]at this
  rw [this]
  cases A4p high low l<;>rfl
theorem B5j (l:List Int)(low high:Int)(hl:l.length≤1000000):A2q l low high=some (A4p high low l):=by
  have key: ∀(r:List Int) (i:Nat) (lo:Int),low≤lo→(i=0→lo=low)→(0<i→l[i - 1]? =some (lo - 1))→l.drop i=r→i≤l.length→loop (A05 l low high) (i:Int)=some (if A4p high lo r then .inl ()else .inr false):=by
    intro r
    induction r with
    |nil=>
     intro i lo _ _ _ hi hil
     have:=T6 hi
     refine D5 ?_
     unfold A05
     rw [show decide ((i:Int)< (l.length:Int))=false from decide_eq_false (by omega)];rfl
    |cons n r ih=>
     intro i lo hlo h0 h1 hi hil
     have hlt:=P7 hi
     have hn:l[i]? =some n:=by have:=congrArg (fun z=>z[0]?) hi;simpa using this
     have hs:A05 l low high (i:Int)=some (if decide (lo≤n)&&decide (n<high)then .go ((i+1:Nat):Int)else .out (.inr false)):=by
       unfold A05
       rw [show decide ((i:Int)< (l.length:Int))=true from decide_eq_true (by omega),A1g hi,cond_true,Option.bind_some,C0v,Option.bind_some,C0v,Option.bind_some,wid (n:=(i:Int)+1) (by omega)]
       by_cases q1:n<low
       ·rw [decide_eq_true q1,if_neg (by simp;omega)];rfl
       ·rw [decide_eq_false q1]
        simp only [Bool.not_false,cond_true,Bool.false_or]
        by_cases q2:n≥high
        ·rw [decide_eq_true q2,if_neg (by simp;omega)];rfl
        ·rw [decide_eq_false q2]
         simp only [Bool.not_false,Bool.true_and,Bool.false_or]
         by_cases q3:(i:Int)>0
         ·have e:F3 l (w64 ((i:Int) - 1))=some (lo - 1):=by
            rw [wid (n:=(i:Int) - 1) (by omega),show (i:Int) - 1=((i - 1:Nat):Int) by omega]
            exact G0 (h1 (by omega))
          rw [decide_eq_true q3,cond_true,cond_true,e,Option.bind_some,Bool.true_and]
          by_cases q4:n≤lo - 1
          ·rw [decide_eq_true q4,if_neg (by simp;omega)];rfl
          ·rw [decide_eq_false q4,if_pos (by simp;omega)];rfl
         ·have:lo=low:=h0 (by omega)
          rw [decide_eq_false q3,cond_false,Option.bind_some,Bool.false_and,if_pos (by simp;omega)];rfl
     unfold A4p
     cases q:(decide (lo≤n)&&decide (n<high))
     ·rw [q]at hs;rw [D5 hs];rfl
     ·rw [q]at hs
      simp only [Bool.and_eq_true,decide_eq_true_eq]at q
      rw [L3 hs,ih (i+1) (n+1) (by omega) (fun z=>by omega) (fun _=>by rw [Nat.add_sub_cancel,hn];congr 1;omega) (L4 hi) (by omega)];rfl
  unfold A2q
  have:=key l 0 low (Int.le_refl _) (fun _=>rfl) (fun z=>by omega) rfl (by omega)
  rw [show ((0:Nat):Int)=0 from rfl]at this
  rw [this]
  cases A4p high low l<;>rfl
end Go.Abs.Roadsz
namespace Go.Abs.Roadsz
open Go Go.Abs
noncomputable def D4x (c:Curve):Int:=C3p 0 (A7l c)
theorem D35 {m:Map}{i:Nat}{l:Lane}(h:m.Lanes[i]? =some l)(hl:l.Curve_.Pts.length≤1000000):A0q m (i:Int)=some (D4x l.Curve_):=by
  unfold A0q
  rw [G0 h,Option.bind_some,B89 _ hl];rfl
/-- The lists of a map are of bearable lengths. -/
structure Bear (m:Map):Prop where
  lanes:m.Lanes.length≤1000000
  pts: ∀l∈m.Lanes,l.Curve_.Pts.length≤1000000∧l.Next.length≤1000000
noncomputable def laneE (n:Nat)(i:Nat)(l:Lane):Option Int:=
  if (C0u l.Kind).1=0 then some 4
  else if A30 l.Curve_.Pts≠0 then some (A30 l.Curve_.Pts)
  else if (inR l.Half 200 4000&&inR l.Limit 1 (C0u l.Kind).1)=false then some 2
  else if 3<l.Next.length then some 8
  else if A4p n (i+1) l.Next=false then some 11 else none
theorem D0e {m:Map}(B:Bear m):U5 ⟨m⟩=some ((M5 (laneE m.Lanes.length) 0 m.Lanes).getD 0):=by
  have h:=A4v m.Lanes (O8 ⟨m⟩) (laneE m.Lanes.length) (fun i l hl=>by
    have hi:=Z6 hl
    have hb:=B.lanes
    obtain ⟨p1,p2⟩:=B.pts l (List.mem_of_getElem? hl)
    unfold O8 laneE
    dsimp only
    rw [show decide ((i:Int)< (m.Lanes.length:Int))=true from decide_eq_true (by omega),G0 hl,cond_true,Option.bind_some,C2c,Option.bind_some,B35 _ p1,Option.bind_some,A76,A76,Option.bind_some,C0v,Option.bind_some,wid (n:=(i:Int)+1) (by omega),B8b _ _ _ p2 (by omega) (by omega),Option.bind_some]
    by_cases h1:(C0u l.Kind).1=0
    ·rw [if_pos h1,show ((C0u l.Kind).1==0)=true by simpa using h1];rfl
    ·rw [if_neg h1,show ((C0u l.Kind).1==0)=false by simpa using h1,cond_false]
     by_cases h2:A30 l.Curve_.Pts≠0
     ·rw [if_pos h2,show (A30 l.Curve_.Pts !=0)=true by simpa using h2];rfl
     ·rw [if_neg h2,show (A30 l.Curve_.Pts !=0)=false by simpa using h2,cond_false]
      cases inR l.Half 200 4000
      ·rfl
      ·cases inR l.Limit 1 (C0u l.Kind).1
       ·rfl
       ·simp only [Bool.not_true,Bool.not_false,cond_true,cond_false,Bool.false_or,Bool.and_self]
        rw [if_neg (by decide)]
        by_cases h3:3<l.Next.length
        ·rw [if_pos h3,show decide ((l.Next.length:Int)>3)=true from decide_eq_true (by omega)];rfl
        ·rw [if_neg h3,show decide ((l.Next.length:Int)>3)=false from decide_eq_false (by omega),cond_false]
         cases A4p (m.Lanes.length:Int) ((i:Int)+1) l.Next<;>rfl) (by
    unfold O8
    dsimp only
    rw [show decide ((m.Lanes.length:Int)< (m.Lanes.length:Int))=false from decide_eq_false (by omega)];rfl)
  unfold U5
  rw [h]
  cases M5 (laneE m.Lanes.length) 0 m.Lanes<;>rfl
end Go.Abs.Roadsz
namespace Go.Abs.Roadsz
open Go Go.Abs
theorem D0f (k:Int):((decide (k<1))||(decide (k>3)))=decide ((C0u k).1=0):=by
  unfold C0u
  by_cases h1:k=1
  ·subst h1;rfl
  ·by_cases h2:k=2
   ·subst h2;rfl
   ·by_cases h3:k=3
    ·subst h3;rfl
    ·rw [if_neg h1,if_neg h2,if_neg h3]
     simp only [decide_true,Bool.or_eq_true,decide_eq_true_eq]
     omega
theorem D0g {m:Map}(B:Bear m){i:Nat}{l:Lane}(hl:m.Lanes[i]? =some l):A3q m (i:Int)=some ((laneE m.Lanes.length i l).getD 0):=by
  have hi:=Z6 hl
  have hb:=B.lanes
  obtain ⟨p1,p2⟩:=B.pts l (List.mem_of_getElem? hl)
  unfold A3q laneE
  rw [G0 hl,Option.bind_some,D0f,B36 _ p1,Option.bind_some,B9w,Option.bind_some,A9v,A9v,Option.bind_some,C0v,Option.bind_some,wid (n:=(i:Int)+1) (by omega),B5j _ _ _ p2,Option.bind_some]
  by_cases h1:(C0u l.Kind).1=0
  ·rw [if_pos h1,decide_eq_true h1];rfl
  ·rw [if_neg h1,decide_eq_false h1,cond_false]
   by_cases h2:A30 l.Curve_.Pts≠0
   ·rw [if_pos h2,show (A30 l.Curve_.Pts !=0)=true by simpa using h2];rfl
   ·rw [if_neg h2,show (A30 l.Curve_.Pts !=0)=false by simpa using h2,cond_false]
    cases inR l.Half 200 4000
    ·rfl
    ·cases inR l.Limit 1 (C0u l.Kind).1
     ·rfl
     ·simp only [Bool.not_true,Bool.not_false,cond_true,cond_false,Bool.false_or,Bool.and_self]
      rw [if_neg (by decide)]
      by_cases h3:3<l.Next.length
      ·rw [if_pos h3,show decide ((l.Next.length:Int)>3)=true from decide_eq_true (by omega)];rfl
      ·rw [if_neg h3,show decide ((l.Next.length:Int)>3)=false from decide_eq_false (by omega),cond_false]
       cases A4p (m.Lanes.length:Int) ((i:Int)+1) l.Next<;>rfl
theorem C0w {n i:Nat}{l:Lane}{e:Int}(h:laneE n i l=some e):e≠0:=by
  unfold laneE at h
  split at h
  ·cases h;decide
  ·split at h
   ·rename_i h2;cases h;exact h2
   ·split at h
    ·cases h;decide
    ·split at h
     ·cases h;decide
     ·split at h
      ·cases h;decide
      ·cases h
theorem C3r {m:Map}(B:Bear m):loop (A1v m) 0=some (D34 (M5 (laneE m.Lanes.length) 0 m.Lanes)):=
  A4v m.Lanes (A1v m) (laneE m.Lanes.length) (fun i l hl=>by
    have hi:=Z6 hl
    have hb:=B.lanes
    unfold A1v
    rw [show decide ((i:Int)< (m.Lanes.length:Int))=true from decide_eq_true (by omega),D0g B hl,cond_true,Option.bind_some,wid (n:=(i:Int)+1) (by omega)]
    cases h:laneE m.Lanes.length i l with
    |none=>rfl
    |some e=>
     rw [Option.getD_some,show (e !=0)=true by simpa using C0w h];rfl) (by
    unfold A1v
    rw [show decide ((m.Lanes.length:Int)< (m.Lanes.length:Int))=false from decide_eq_false (by omega)];rfl)
end Go.Abs.Roadsz
namespace Go.Abs.Roadsz
open Go Go.Abs
theorem A60 {high:Int}: ∀{l:List Int} {low:Int},A4p high low l=true→∀k∈l,low≤k∧k<high
  | [],_,_,k,hk=>by cases hk
  |n::r,low,h,k,hk=>by
   unfold A4p at h
   simp only [Bool.and_eq_true,decide_eq_true_eq]at h
   rcases List.mem_cons.1 hk with rfl|hk
   ·exact h.1
   ·have:=A60 h.2 k hk
    omega
/-- What a lane is that has no error of its own. -/
structure LaneOK (n i:Nat)(l:Lane):Prop where
  kind:(C0u l.Kind).1≠0
  curve:A30 l.Curve_.Pts=0
  half:inR l.Half 200 4000=true
  limit:inR l.Limit 1 (C0u l.Kind).1=true
  few:l.Next.length≤3
  next:A4p n (i+1) l.Next=true
theorem C63 {n i:Nat}{l:Lane}(h:laneE n i l=none):LaneOK n i l:=by
  unfold laneE at h
  split at h
  ·cases h
  ·rename_i h1
   split at h
   ·cases h
   ·rename_i h2
    split at h
    ·cases h
    ·rename_i h3
     split at h
     ·cases h
     ·rename_i h4
      split at h
      ·cases h
      ·rename_i h5
       simp only [Bool.not_eq_false,Bool.and_eq_true]at h3
       exact ⟨h1,Decidable.not_not.1 h2,h3.1,h3.2,by omega,by simpa using h5⟩
theorem B4t {m:Map}(h:M5 (laneE m.Lanes.length) 0 m.Lanes=none){i:Nat}{l:Lane}(hl:m.Lanes[i]? =some l):LaneOK m.Lanes.length i l:=by
  have:=firstE_none.1 h i l hl
  rw [Nat.zero_add]at this
  exact C63 this
end Go.Abs.Roadsz
namespace Go.Abs.Roadsz
open Go Go.Abs
theorem B8c {l:List Spot}(h:A30 l=0):2≤l.length:=by
  unfold A30 at h
  split at h
  ·cases h
  ·omega
def B99 (l:List Spot):Spot:=l.headD ⟨0,0⟩
def B63 (l:List Spot):Spot:=l.getLastD ⟨0,0⟩
theorem C2d {l:List Spot}(h:2≤l.length):F3 l 0=some (B99 l):=by
  cases l with
  |nil=>simp at h
  |cons a r=>rfl
theorem C2e {l:List Spot}(h:2≤l.length)(hl:l.length≤1000000):F3 l (w64 ((l.length:Int) - 1))=some (B63 l):=by
  rw [wid (by omega),show (l.length:Int) - 1=((l.length - 1:Nat):Int) by omega]
  refine G0 ?_
  unfold B63
  rw [List.getLastD_eq_getLast?,List.getLast?_eq_getElem?]
  rw [List.getElem?_eq_getElem (by omega)];rfl
def C8b (a b:Spot):Bool:=a.X==b.X&& (a.Y==b.Y&&true)
def B8d (m:Map)(l:Lane)(_:Nat)(k:Int):Option Int:=
  match m.Lanes[k.toNat]? with
  |some n=>if n.Kind≠l.Kind then some 4 else if C8b (B99 n.Curve_.Pts) (B63 l.Curve_.Pts)=false then some 3 else none
  |none=>none
def B16 (m:Map)(_:Nat)(l:Lane):Option Int:=M5 (B8d m l) 0 l.Next
theorem B9x {m:Map}(B:Bear m)(H:M5 (laneE m.Lanes.length) 0 m.Lanes=none){i:Nat}{l:Lane}(hl:m.Lanes[i]? =some l){j:Nat}{k:Int}(hk:l.Next[j]? =some k):
    ∃n,F3 m.Lanes k=some n∧m.Lanes[k.toNat]? =some n∧2≤n.Curve_.Pts.length∧n.Curve_.Pts.length≤1000000:=by
  have L:=B4t H hl
  have hb:=A60 L.next k (List.mem_of_getElem? hk)
  have hlt:k.toNat<m.Lanes.length:=by omega
  refine ⟨m.Lanes[k.toNat],?_,List.getElem?_eq_getElem hlt,B8c (B4t H (List.getElem?_eq_getElem hlt)).curve,(B.pts _ (List.getElem_mem hlt)).1⟩
  unfold F3
  rw [if_pos (by omega),List.getElem?_eq_getElem hlt]
end Go.Abs.Roadsz
namespace Go.Abs.Roadsz
open Go Go.Abs
theorem C8c {m:Map}{l:Lane}{j:Nat}{k e:Int}(h:B8d m l j k=some e):e≠0:=by
  unfold B8d at h
  split at h
  ·split at h
   ·cases h;decide
   ·split at h
    ·cases h;decide
    ·cases h
  ·cases h
theorem C2f {m:Map}(B:Bear m)(H:M5 (laneE m.Lanes.length) 0 m.Lanes=none){i:Nat}{l:Lane}(hl:m.Lanes[i]? =some l):
    loop (N7 ⟨m⟩ l (B63 l.Curve_.Pts)) 0=some (D34 (B16 m i l))∧loop (A02 m l) 0=some (D34 (B16 m i l)):=by
  have L:=B4t H hl
  obtain ⟨p1,p2⟩:=B.pts l (List.mem_of_getElem? hl)
  constructor
  ·refine A4v l.Next _ (B8d m l) (fun j k hk=> ?_) ?_
   ·have hj:=Z6 hk
    obtain ⟨n,g1,g2,g3,g4⟩:=B9x B H hl hk
    unfold N7 B8d
    dsimp only
    rw [show decide ((j:Int)< (l.Next.length:Int))=true from decide_eq_true (by omega),G0 hk,cond_true,Option.bind_some,g1,Option.bind_some,Option.bind_some,C2d g3,Option.bind_some,wid (n:=(j:Int)+1) (by omega),g2]
    dsimp only
    rw [show ((B99 n.Curve_.Pts).X==(B63 l.Curve_.Pts).X&& ((B99 n.Curve_.Pts).Y==(B63 l.Curve_.Pts).Y&&true))=C8b (B99 n.Curve_.Pts) (B63 l.Curve_.Pts) from rfl]
    by_cases h1:n.Kind≠l.Kind
    ·rw [if_pos h1,show (n.Kind !=l.Kind)=true by simpa using h1];rfl
    ·rw [if_neg h1,show (n.Kind !=l.Kind)=false by simpa using h1]
     cases C8b (B99 n.Curve_.Pts) (B63 l.Curve_.Pts)<;>rfl
   ·unfold N7
    rw [show decide ((l.Next.length:Int)< (l.Next.length:Int))=false from decide_eq_false (by omega)];rfl
  ·refine A4v l.Next _ (B8d m l) (fun j k hk=> ?_) ?_
   ·have hj:=Z6 hk
    obtain ⟨n,g1,g2,g3,g4⟩:=B9x B H hl hk
    unfold A02 B8d
    rw [show decide ((j:Int)< (l.Next.length:Int))=true from decide_eq_true (by omega),G0 hk,cond_true,Option.bind_some,g1,Option.bind_some,C2d g3,Option.bind_some,C2e (B8c L.curve) p1,Option.bind_some,wid (n:=(j:Int)+1) (by omega),g2]
    dsimp only
    rw [show ((B99 n.Curve_.Pts).X==(B63 l.Curve_.Pts).X&& ((B99 n.Curve_.Pts).Y==(B63 l.Curve_.Pts).Y&&true))=C8b (B99 n.Curve_.Pts) (B63 l.Curve_.Pts) from rfl]
    by_cases h1:n.Kind≠l.Kind
    ·rw [if_pos h1,show (n.Kind !=l.Kind)=true by simpa using h1];rfl
    ·rw [if_neg h1,show (n.Kind !=l.Kind)=false by simpa using h1]
     cases C8b (B99 n.Curve_.Pts) (B63 l.Curve_.Pts)<;>rfl
   ·unfold A02
    rw [show decide ((l.Next.length:Int)< (l.Next.length:Int))=false from decide_eq_false (by omega)];rfl
end Go.Abs.Roadsz
namespace Go.Abs.Roadsz
open Go Go.Abs
theorem C2g {m:Map}(B:Bear m)(H:M5 (laneE m.Lanes.length) 0 m.Lanes=none):
    S6 ⟨m⟩=some ((M5 (B16 m) 0 m.Lanes).getD 0)∧A3r m=some ((M5 (B16 m) 0 m.Lanes).getD 0):=by
  have hb:=B.lanes
  constructor
  ·have h:=A4v m.Lanes (N8 ⟨m⟩) (B16 m) (fun i l hl=>by
     have hi:=Z6 hl
     have L:=B4t H hl
     obtain ⟨p1,p2⟩:=B.pts l (List.mem_of_getElem? hl)
     unfold N8
     dsimp only
     rw [show decide ((i:Int)< (m.Lanes.length:Int))=true from decide_eq_true (by omega),G0 hl,cond_true,Option.bind_some,C2e (B8c L.curve) p1,Option.bind_some,(C2f B H hl).1,wid (n:=(i:Int)+1) (by omega)]
     cases B16 m i l<;>rfl) (by
     unfold N8
     dsimp only
     rw [show decide ((m.Lanes.length:Int)< (m.Lanes.length:Int))=false from decide_eq_false (by omega)];rfl)
   unfold S6
   rw [h]
   cases M5 (B16 m) 0 m.Lanes<;>rfl
  ·have h:=A4v m.Lanes (A03 m) (B16 m) (fun i l hl=>by
     have hi:=Z6 hl
     unfold A03
     rw [show decide ((i:Int)< (m.Lanes.length:Int))=true from decide_eq_true (by omega),G0 hl,cond_true,Option.bind_some,(C2f B H hl).2,wid (n:=(i:Int)+1) (by omega)]
     cases B16 m i l<;>rfl) (by
     unfold A03
     rw [show decide ((m.Lanes.length:Int)< (m.Lanes.length:Int))=false from decide_eq_false (by omega)];rfl)
   unfold A3r
   rw [h]
   cases M5 (B16 m) 0 m.Lanes<;>rfl
end Go.Abs.Roadsz
namespace Go.Abs.Roadsz
open Go Go.Abs
/-- The place of the first element with a property. -/
theorem C64 {α:Type}{f:Int→Option (Stp Int (Sum Unit Int))}(l:List α)(P:α→Bool)(hl:l.length≤1000000000)(hf: ∀(i:Nat) a,l[i]? =some a→f (i:Int)=some (if P a then .out (.inr (i:Int))else .go (w64 ((i:Int)+1))))(he:f (l.length:Int)=some (.out (.inl ()))):
    loop f 0=some (match l.findIdx? P with|some i=> .inr (i:Int)|none=> .inl ()):=by
  have key: ∀(r:List α) (i:Nat),l.drop i=r→i≤l.length→loop f (i:Int)=some (match r.findIdx? P with|some j=> .inr ((i+j:Nat):Int)|none=> .inl ()):=by
    intro r
    induction r with
    |nil=>
     intro i hi hil
     have:=T6 hi
     obtain rfl:i=l.length:=by omega
     rw [D5 he];rfl
    |cons a r ih=>
     intro i hi _
     have hlt:=P7 hi
     have h0:l[i]? =some a:=by have:=congrArg (fun z=>z[0]?) hi;simpa using this
     have hs:=hf i a h0
     rw [List.findIdx?_cons]
     by_cases hp:P a=true
     ·rw [if_pos hp]at hs
      rw [D5 hs,if_pos hp];simp
     ·rw [if_neg hp]at hs
      rw [G1 (by omega)]at hs
      rw [L3 hs,show ((i:Int)+1)=((i+1:Nat):Int) by omega,ih (i+1) (L4 hi) (by omega),if_neg hp]
      cases r.findIdx? P with
      |none=>rfl
      |some j=>simp only [Option.map_some];congr 3;omega
  have:=key l 0 rfl (by omega)
  rw [show ((0:Nat):Int)=0 from rfl]at this
  rw [this]
  cases l.findIdx? P<;>simp
/-- -1, or the place. -/
def D36 {α:Type}(P:α→Bool)(l:List α):Int:=match l.findIdx? P with|some i=>(i:Int)|none=> -1
theorem C0x {α:Type}(P:α→Bool)(l:List α):decide (D36 P l≥0)=l.any P:=by
  unfold D36
  cases h:l.findIdx? P with
  |none=>
   have:=List.findIdx?_eq_none_iff.1 h
   rw [show l.any P=false by rw [List.any_eq_false];intro x hx;simpa using this x hx]
   decide
  |some i=>
   have:=List.findIdx?_isSome (xs:=l) (p:=P)
   rw [h]at this
   rw [← this]
   simp
/-- What both twins compute of a list. -/
theorem B2a {α:Type}{f:Int→Option (Stp Int (Sum Unit Int))}(l:List α)(P:α→Bool)(hl:l.length≤1000000000)(hf: ∀(i:Nat) a,l[i]? =some a→f (i:Int)=some (if P a then .out (.inr (i:Int))else .go (w64 ((i:Int)+1))))(he:f (l.length:Int)=some (.out (.inl ()))):
    thenS (loop f 0) (fun _=>some (-1)) (fun r=>some r)=some (D36 P l):=by
  rw [C64 l P hl hf he]
  unfold D36
  cases l.findIdx? P<;>rfl
end Go.Abs.Roadsz
namespace Go.Abs.Roadsz
open Go Go.Abs
theorem C8d (l:List Phase)(hl:l.length≤1000000):D0 l=some (l.any fun p=> !inR p.Ticks 1 10000):=by
  unfold D0 E2
  rw [B2a l (fun p=> !inR p.Ticks 1 10000) (by omega) (fun i a h=>by
   have:=Z6 h
   unfold C9 U6
   rw [show decide ((i:Int)< (l.length:Int))=true from decide_eq_true (by omega),G0 h,cond_true,Option.bind_some,A76,Option.bind_some,Option.bind_some]
   cases inR a.Ticks 1 10000<;>rfl) (by
   unfold C9
   simp)]
  rw [Option.bind_some,C0x]
theorem C65 (m:Map)(l:List Phase)(hl:l.length≤1000000)(hm:m.Lanes.length≤1000000)(hg: ∀p∈l,p.Green.length≤1000000):C8 l ⟨m⟩=some (l.any fun p=> !A4p m.Lanes.length 0 p.Green):=by
  unfold C8 D9
  rw [B2a l (fun p=> !A4p m.Lanes.length 0 p.Green) (by omega) (fun i a h=>by
   have:=Z6 h
   unfold C7 R4
   dsimp only
   rw [show decide ((i:Int)< (l.length:Int))=true from decide_eq_true (by omega),G0 h,cond_true,Option.bind_some,B8b _ _ _ (hg a (List.mem_of_getElem? h)) (by omega) (by omega),Option.bind_some,Option.bind_some]
   cases A4p (m.Lanes.length:Int) 0 a.Green<;>rfl) (by
   unfold C7
   simp)]
  rw [Option.bind_some,C0x]
end Go.Abs.Roadsz
namespace Go.Abs.Roadsz
open Go Go.Abs
structure BearS (m:Map):Prop where
  many:m.Signals.length≤1000000
  phases: ∀s∈m.Signals,s.Phases.length≤1000000∧∀p∈s.Phases,p.Green.length≤1000000
def signalE (m:Map)(_:Nat)(s:Signal):Option Int:=
  if s.Phases.length=0 then some 6
  else if 6<s.Phases.length then some 8
  else if inR s.Offset 0 1099511627776=false then some 2
  else if (s.Phases.any fun p=> !inR p.Ticks 1 10000)=true then some 2
  else if (s.Phases.any fun p=> !A4p m.Lanes.length 0 p.Green)=true then some 11 else none
theorem C66 {m:Map}(B:Bear m)(S:BearS m):Q8 ⟨m⟩=some ((M5 (signalE m) 0 m.Signals).getD 0):=by
  have h:=A4v m.Signals (M9 ⟨m⟩) (signalE m) (fun i s hs=>by
    have hi:=Z6 hs
    have hb:=S.many
    obtain ⟨p1,p2⟩:=S.phases s (List.mem_of_getElem? hs)
    unfold M9 signalE
    dsimp only
    rw [show decide ((i:Int)< (m.Signals.length:Int))=true from decide_eq_true (by omega),G0 hs,cond_true,Option.bind_some,A76,Option.bind_some,C8d _ p1,Option.bind_some,C65 m _ p1 B.lanes p2,Option.bind_some,wid (n:=(i:Int)+1) (by omega)]
    by_cases h1:s.Phases.length=0
    ·rw [if_pos h1,h1];rfl
    ·rw [if_neg h1,show ((s.Phases.length:Int)==0)=false by simp only [beq_eq_false_iff_ne];omega,cond_false]
     by_cases h2:6<s.Phases.length
     ·rw [if_pos h2,show decide ((s.Phases.length:Int)>6)=true from decide_eq_true (by omega)];rfl
     ·rw [if_neg h2,show decide ((s.Phases.length:Int)>6)=false from decide_eq_false (by omega),cond_false]
      cases inR s.Offset 0 1099511627776
      ·rfl
      ·cases (s.Phases.any fun p=> !inR p.Ticks 1 10000)
       ·cases (s.Phases.any fun p=> !A4p m.Lanes.length 0 p.Green)<;>rfl
       ·rfl) (by
    unfold M9
    dsimp only
    rw [show decide ((m.Signals.length:Int)< (m.Signals.length:Int))=false from decide_eq_false (by omega)];rfl)
  unfold Q8
  rw [h]
  cases M5 (signalE m) 0 m.Signals<;>rfl
end Go.Abs.Roadsz
namespace Go.Abs.Roadsz
open Go Go.Abs
theorem C3s (s:Signal)(hl:s.Phases.length≤1000000): ∀(r:List Phase) (i:Nat) (b:Bool),s.Phases.drop i=r→i≤s.Phases.length→loop (R9 s) (b,(i:Int))=some (b&& !(r.any fun p=> !inR p.Ticks 1 10000)):=by
  intro r
  induction r with
  |nil=>
   intro i b hi hil
   have:=T6 hi
   refine D5 ?_
   unfold R9
   dsimp only
   rw [show decide ((i:Int)< (s.Phases.length:Int))=false from decide_eq_false (by omega)]
   simp
  |cons p r ih=>
   intro i b hi hil
   have hlt:=P7 hi
   have hs:R9 s (b,(i:Int))=some (.go (b&&inR p.Ticks 1 10000,((i+1:Nat):Int))):=by
     unfold R9
     dsimp only
     rw [show decide ((i:Int)< (s.Phases.length:Int))=true from decide_eq_true (by omega),A1g hi,wid (n:=(i:Int)+1) (by omega)]
     cases b<;>rfl
   rw [L3 hs,ih (i+1) _ (L4 hi) (by omega),List.any_cons]
   cases b<;>cases inR p.Ticks 1 10000<;>simp
end Go.Abs.Roadsz
namespace Go.Abs.Roadsz
open Go Go.Abs
theorem C2h (m:Map)(s:Signal)(hl:s.Phases.length≤1000000)(hg: ∀p∈s.Phases,p.Green.length≤1000000):loop (R8 m s) 0=some (if (s.Phases.any fun p=> !A4p m.Lanes.length 0 p.Green)=true then .inr 11 else .inl ()):=by
  have h:=A4v s.Phases (R8 m s) (fun _ p=>if A4p m.Lanes.length 0 p.Green then none else some 11) (fun i p hp=>by
    have:=Z6 hp
    unfold R8
    rw [show decide ((i:Int)< (s.Phases.length:Int))=true from decide_eq_true (by omega),G0 hp,cond_true,Option.bind_some,B5j _ _ _ (hg p (List.mem_of_getElem? hp)),Option.bind_some,wid (n:=(i:Int)+1) (by omega)]
    cases A4p (m.Lanes.length:Int) 0 p.Green<;>rfl) (by
    unfold R8
    rw [show decide ((s.Phases.length:Int)< (s.Phases.length:Int))=false from decide_eq_false (by omega)];rfl)
  rw [h]
  have key: ∀(l:List Phase) (i:Nat),D34 (M5 (fun (_:Nat) (p:Phase)=>if A4p (m.Lanes.length:Int) 0 p.Green=true then none else some (11:Int)) i l)=if (l.any fun p=> !A4p m.Lanes.length 0 p.Green)=true then .inr 11 else .inl ():=by
    intro l
    induction l with
    |nil=>intro i;rfl
    |cons p r ih=>
     intro i
     unfold M5
     rw [List.any_cons]
     cases hq:A4p (m.Lanes.length:Int) 0 p.Green
     ·rfl
     ·exact ih (i+1)
  rw [key]
end Go.Abs.Roadsz
/-! Loops over lists, as functions on lists. -/
namespace Go.Abs
open Go
section
variable {α β σ S τ:Type}
/-- What a loop over a list makes, with a state, and with a way out. -/
def C3t (step:Nat→σ→α→Sum σ τ)(fin:σ→τ):Nat→σ→List α→τ
  |_,s,[]=>fin s
  |i,s,a::r=>match step i s a with
   | .inl s'=>C3t step fin (i+1) s' r
   | .inr t=>t
theorem A4i {l:List α}{i:Nat}{a:α}{r:List α}(h:l.drop i=a::r):l[i]? =some a:=by
  have:=congrArg (fun z=>z[0]?) h
  simpa using this
theorem D4y {F:S→Option (Stp S τ)}(pk:Nat→σ→S)(l:List α)(inv:Nat→σ→Prop)(step:Nat→σ→α→Sum σ τ)(fin:σ→τ){s0:σ}{S0:S}(hS:pk 0 s0=S0)(hi:inv 0 s0)
    (hF: ∀i a s,l[i]? =some a→inv i s→F (pk i s)=some (match step i s a with| .inl s'=> .go (pk (i+1) s')| .inr t=> .out t))
    (hI: ∀i a s s',l[i]? =some a→inv i s→step i s a= .inl s'→inv (i+1) s')
    (h0: ∀s,inv l.length s→F (pk l.length s)=some (.out (fin s))):loop F S0=some (C3t step fin 0 s0 l):=by
  have key: ∀(r:List α) (i:Nat) (s:σ),l.drop i=r→i≤l.length→inv i s→loop F (pk i s)=some (C3t step fin i s r):=by
    intro r
    induction r with
    |nil=>
     intro i s hi hil hv
     have:=T6 hi
     obtain rfl:i=l.length:=by omega
     exact D5 (h0 s hv)
    |cons a r ih=>
     intro i s hi hil hv
     have hlt:=P7 hi
     have ha:=A4i hi
     have hs:=hF i a s ha hv
     unfold C3t
     cases h:step i s a with
     |inl s'=>rw [h]at hs;rw [L3 hs];exact ih (i+1) s' (L4 hi) (by omega) (hI i a s s' ha hv h)
     |inr t=>rw [h]at hs;exact D5 hs
  rw [← hS]
  exact key l 0 s0 rfl (by omega) hi
/-- The same without a way out. -/
def C67 (step:Nat→σ→α→σ):Nat→σ→List α→σ
  |_,s,[]=>s
  |i,s,a::r=>C67 step (i+1) (step i s a) r
theorem B8e (step:Nat→σ→α→σ)(fin:σ→τ): ∀(l:List α) (i:Nat) (s:σ),C3t (fun i s a=> .inl (step i s a)) fin i s l=fin (C67 step i s l)
  | [],_,_=>rfl
  |_::r,i,_=>B8e step fin r (i+1) _
theorem D5p {F:S→Option (Stp S τ)}(pk:Nat→σ→S)(l:List α)(inv:Nat→σ→Prop)(step:Nat→σ→α→σ)(fin:σ→τ){s0:σ}{S0:S}(hS:pk 0 s0=S0)(hi:inv 0 s0)
    (hF: ∀i a s,l[i]? =some a→inv i s→F (pk i s)=some (.go (pk (i+1) (step i s a))))
    (hI: ∀i a s,l[i]? =some a→inv i s→inv (i+1) (step i s a))
    (h0: ∀s,inv l.length s→F (pk l.length s)=some (.out (fin s))):loop F S0=some (fin (C67 step 0 s0 l)):=by
  rw [← B8e step fin]
  exact D4y pk l inv _ fin hS hi hF (fun i a s s' h1 h2 h3=>by cases h3;exact hI i a s h1 h2) h0
/-- The elements that a loop gathers. -/
def B9a (g:Nat→α→Option β):Nat→List α→List β
  |_,[]=> []
  |i,a::r=>match g i a with
   |some b=>b::B9a g (i+1) r
   |none=>B9a g (i+1) r
theorem B9y (g:Nat→α→Option β): ∀(l:List α) (i:Nat) (s:List β),C67 (fun i s a=>match g i a with|some b=>s++ [b]|none=>s) i s l=s++B9a g i l
  | [],_,s=>by simp [C67,B9a]
  |a::r,i,s=>by
   unfold C67 B9a
   rw [B9y g r (i+1)]
   cases g i a<;>simp
theorem D4z {F:S→Option (Stp S τ)}(pk:Nat→List β→S)(l:List α)(g:Nat→α→Option β)(fin:List β→τ){S0:S}(hS:pk 0 []=S0)
    (hF: ∀i a (s:List β),l[i]? =some a→s.length≤i→F (pk i s)=some (.go (pk (i+1) (match g i a with|some b=>s++ [b]|none=>s))))
    (h0: ∀s,F (pk l.length s)=some (.out (fin s))):loop F S0=some (fin (B9a g 0 l)):=by
  have:=D5p pk l (fun i s=>s.length≤i) (fun i s a=>match g i a with|some b=>s++ [b]|none=>s) fin hS (by simp) hF (fun i a s _ hs=>by
    cases g i a<;>simp<;>omega) (fun s _=>h0 s)
  rw [this,B9y,List.nil_append]
theorem D1f {F:List β×Int→Option (Stp (List β×Int) τ)}(l:List α)(g:Nat→α→Option β)(fin:List β→τ)
    (hF: ∀(i:Nat) a (s:List β),l[i]? =some a→s.length≤i→F (s,(i:Int))=some (.go ((match g i a with|some b=>s++ [b]|none=>s),((i+1:Nat):Int))))
    (h0: ∀s,F (s,(l.length:Int))=some (.out (fin s))):loop F ([],0)=some (fin (B9a g 0 l)):=D4z (fun i s=>(s,(i:Int))) l g fin rfl hF h0
/-- Is there one? -/
theorem B9b {F:Int→Option (Stp Int (Sum Unit β))}(l:List α)(p:α→Bool)(v:β)(hF: ∀(i:Nat) a,l[i]? =some a→F (i:Int)=some (if p a then .out (.inr v)else .go ((i+1:Nat):Int)))(h0:F (l.length:Int)=some (.out (.inl ()))):
    loop F 0=some (if l.any p then .inr v else .inl ()):=by
  have key: ∀(l:List α) (i:Nat),C3t (fun _ _ a=>if p a then Sum.inr (Sum.inr v)else Sum.inl ()) (fun _=>(Sum.inl ():Sum Unit β)) i () l=if l.any p then .inr v else .inl ():=by
    intro l
    induction l with
    |nil=>intro i;rfl
    |cons a r ih=>
     intro i
     unfold C3t
     rw [List.any_cons]
     cases h:p a
     ·exact ih (i+1)
     ·rfl
  rw [← key l 0]
  exact D4y (F:=F) (σ:=Unit) (fun i _=>(i:Int)) l (fun _ _=>True) _ _ (s0:=()) rfl trivial (fun i a _ h _=>by rw [hF i a h];cases p a<;>rfl) (fun _ _ _ _ _ _ _=>trivial) (fun _ _=>h0)
end
theorem Z7 {i:Nat}{n:Nat}(h:i<n):decide ((i:Int)< (n:Int))=true:=decide_eq_true (by omega)
theorem S3 (n:Nat):decide ((n:Int)< (n:Int))=false:=decide_eq_false (by omega)
theorem O7 {i:Nat}{n:Nat}(h:i<n)(hn:n≤1000000000000):w64 ((i:Int)+1)=((i+1:Nat):Int):=by rw [G1 (by omega)];omega
end Go.Abs
namespace Go.Abs.Roadsz
open Go Go.Abs
structure BearZ (m:Map):Prop where
  many:m.Zones.length≤1000000
  parts: ∀z∈m.Zones,z.Parts.length≤1000000
noncomputable def W3 (m:Map)(k:Int):Int:=((m.Lanes[k.toNat]?).map fun l=>D4x l.Curve_).getD 0
noncomputable def B1z (m:Map)(p:Part):Bool:=decide (p.From<0)||decide (p.From≥p.To)||decide (p.To>W3 m p.Lane_)||decide (p.Rank<0)||decide (p.Rank>100)
noncomputable def zoneE (m:Map)(_:Nat)(z:Zone):Option Int:=
  if z.Parts.length<2 then some 6
  else if 6<z.Parts.length then some 8
  else if z.Signal_<0∨(m.Signals.length:Int)<z.Signal_ then some 2
  else if A4p m.Lanes.length 0 (z.Parts.map (·.Lane_))=false then some 11
  else if z.Parts.any (B1z m)=true then some 2 else none
theorem B3n {m:Map}{k:Int}(h0:0≤k)(h1:k<m.Lanes.length): ∃l,m.Lanes[k.toNat]? =some l∧F3 m.Lanes k=some l:=by
  have hlt:k.toNat<m.Lanes.length:=by omega
  refine ⟨m.Lanes[k.toNat],List.getElem?_eq_getElem hlt,?_⟩
  unfold F3
  rw [if_pos h0,List.getElem?_eq_getElem hlt]
theorem C3u {m:Map}(B:Bear m){k:Int}(h0:0≤k)(h1:k<m.Lanes.length):A0q m k=some (W3 m k):=by
  obtain ⟨l,e1,e2⟩:=B3n h0 h1
  have:=D35 (m:=m) e1 (B.pts l (List.mem_of_getElem? e1)).1
  rw [show ((k.toNat:Nat):Int)=k by omega]at this
  rw [this,W3,e1];rfl
theorem C0y {m:Map}(B:Bear m){k:Int}(h0:0≤k)(h1:k<m.Lanes.length): ∃l,F3 m.Lanes k=some l∧A2l l.Curve_=some (W3 m k):=by
  obtain ⟨l,e1,e2⟩:=B3n h0 h1
  refine ⟨l,e2,?_⟩
  rw [B8a _ (B.pts l (List.mem_of_getElem? e1)).1,W3,e1];rfl
theorem C4w {α β:Type}(f:α→β): ∀(l:List α) (i:Nat),B9a (fun _ a=>some (f a)) i l=l.map f
  | [],_=>rfl
  |a::r,i=>by rw [B9a,C4w f r];rfl
theorem D1g {z:Zone}{F:List Int×Int→Option (Stp (List Int×Int) (List Int))}(hl:z.Parts.length≤1000000)
    (hF: ∀x,F x=cond (decide (x.2< (z.Parts.length:Int))) ((F3 z.Parts x.2).bind fun v=>(B18 x.1 [v.Lane_]).bind fun w=>some (.go (w,w64 (x.2+1)))) (some (.out x.1))):
    loop F ([],0)=some (z.Parts.map (·.Lane_)):=by
  rw [← C4w (fun p:Part=>p.Lane_) z.Parts 0]
  refine D4z (fun i s=>(s,(i:Int))) z.Parts (fun _ p=>some p.Lane_) id rfl (fun i a s ha hs=> ?_) (fun s=> ?_)
  ·have hi:=Z6 ha
   rw [hF,Z7 hi,G0 ha,cond_true,Option.bind_some,A94 (by simp;omega),Option.bind_some,O7 hi (by omega)]
  ·rw [hF,S3];rfl
theorem D0h {m:Map}(B:Bear m)(Z:BearZ m):U7 ⟨m⟩=some ((M5 (zoneE m) 0 m.Zones).getD 0):=by
  have hb:=B.lanes
  have h:=A4v m.Zones (P0 ⟨m⟩) (zoneE m) (fun i z hz=>by
    have hi:=Z6 hz
    have hm:=Z.many
    have p1:=Z.parts z (List.mem_of_getElem? hz)
    unfold P0 zoneE
    dsimp only
    rw [Z7 hi,G0 hz,cond_true,Option.bind_some,D1g p1 (F:=V7 z) (fun x=>rfl),Option.bind_some,B8b _ _ _ (by simpa using p1) (by omega) (by omega),Option.bind_some,O7 hi (by omega)]
    by_cases h1:z.Parts.length<2
    ·rw [if_pos h1,show decide ((z.Parts.length:Int)<2)=true from decide_eq_true (by omega)];rfl
    ·rw [if_neg h1,show decide ((z.Parts.length:Int)<2)=false from decide_eq_false (by omega),cond_false]
     by_cases h2:6<z.Parts.length
     ·rw [if_pos h2,show decide ((z.Parts.length:Int)>6)=true from decide_eq_true (by omega)];rfl
     ·rw [if_neg h2,show decide ((z.Parts.length:Int)>6)=false from decide_eq_false (by omega),cond_false]
      by_cases h3:z.Signal_<0∨(m.Signals.length:Int)<z.Signal_
      ·rw [if_pos h3,show ((decide (z.Signal_<0))||(decide (z.Signal_>(m.Signals.length:Int))))=true by simpa using h3];rfl
      ·rw [if_neg h3,show ((decide (z.Signal_<0))||(decide (z.Signal_>(m.Signals.length:Int))))=false by rw [Bool.eq_false_iff];simpa using h3,cond_false]
       cases h4:A4p (m.Lanes.length:Int) 0 (z.Parts.map (·.Lane_))
       ·rfl
       ·rw [if_neg (by decide)]
        have:=B9b (F:=O9 ⟨m⟩ z) z.Parts (B1z m) (2:Int) (fun j p hp=>by
          have hj:=Z6 hp
          have hk:=A60 h4 p.Lane_ (List.mem_map.2 ⟨p,List.mem_of_getElem? hp,rfl⟩)
          unfold O9 B1z
          dsimp only
          rw [Z7 hj,G0 hp,cond_true,Option.bind_some,C3u B hk.1 hk.2,O7 hj (by omega)]
          cases h5:(decide (p.From<0)||decide (p.From≥p.To))
          ·simp only [Bool.not_false,cond_true,Option.bind_some]
           cases (false||decide (p.To>W3 m p.Lane_)||decide (p.Rank<0)||decide (p.Rank>100))<;>rfl
          ·rfl) (by unfold O9;rw [S3];rfl)
        rw [this]
        cases z.Parts.any (B1z m)<;>rfl) (by
    unfold P0
    dsimp only
    rw [S3];rfl)
  unfold U7
  rw [h]
  cases M5 (zoneE m) 0 m.Zones<;>rfl
theorem D0i {m:Map}(B:Bear m)(Z:BearZ m){i:Nat}{z:Zone}(hz:m.Zones[i]? =some z):A3s m z=some ((zoneE m i z).getD 0):=by
  have hb:=B.lanes
  have p1:=Z.parts z (List.mem_of_getElem? hz)
  unfold A3s zoneE
  rw [D1g p1 (F:=A3c z) (fun x=>rfl),Option.bind_some,B5j _ _ _ (by simpa using p1),Option.bind_some]
  by_cases h1:z.Parts.length<2
  ·rw [if_pos h1,show decide ((z.Parts.length:Int)<2)=true from decide_eq_true (by omega)];rfl
  ·rw [if_neg h1,show decide ((z.Parts.length:Int)<2)=false from decide_eq_false (by omega),cond_false]
   by_cases h2:6<z.Parts.length
   ·rw [if_pos h2,show decide ((z.Parts.length:Int)>6)=true from decide_eq_true (by omega)];rfl
   ·rw [if_neg h2,show decide ((z.Parts.length:Int)>6)=false from decide_eq_false (by omega),cond_false]
    by_cases h3:z.Signal_<0∨(m.Signals.length:Int)<z.Signal_
    ·rw [if_pos h3,show ((decide (z.Signal_<0))||(decide (z.Signal_>(m.Signals.length:Int))))=true by simpa using h3];rfl
    ·rw [if_neg h3,show ((decide (z.Signal_<0))||(decide (z.Signal_>(m.Signals.length:Int))))=false by rw [Bool.eq_false_iff];simpa using h3,cond_false]
     cases h4:A4p (m.Lanes.length:Int) 0 (z.Parts.map (·.Lane_))
     ·rfl
     ·rw [if_neg (by decide)]
      have:=B9b (F:=A04 m z) z.Parts (B1z m) (2:Int) (fun j p hp=>by
        have hj:=Z6 hp
        have hk:=A60 h4 p.Lane_ (List.mem_map.2 ⟨p,List.mem_of_getElem? hp,rfl⟩)
        obtain ⟨l,e1,e2⟩:=C0y B hk.1 hk.2
        unfold A04 B1z
        rw [Z7 hj,G0 hp,cond_true,Option.bind_some,e1,O7 hj (by omega)]
        cases h5:(decide (p.From<0)||decide (p.From≥p.To))
        ·simp only [Bool.not_false,cond_true,Option.bind_some,e2]
         cases (false||decide (p.To>W3 m p.Lane_)||decide (p.Rank<0)||decide (p.Rank>100))<;>rfl
        ·rfl) (by unfold A04;rw [S3];rfl)
      rw [this]
      cases z.Parts.any (B1z m)<;>rfl
end Go.Abs.Roadsz
namespace Go.Abs.Roadsz
open Go Go.Abs
structure BearW (m:Map):Prop where
  many:m.Works.length≤1000000
noncomputable def B5k (m:Map)(_:Nat)(w:Work):Option Int:=
  if w.Lane_<0∨(m.Lanes.length:Int)≤w.Lane_ then some 7
  else if (decide (w.From<0)||decide (w.From>w.To)||decide (w.To>W3 m w.Lane_)||decide (w.Begin<0)||decide (w.Begin≥w.End)||decide (w.End>1099511627776)|| !inR w.Limit 0 ((m.Lanes[w.Lane_.toNat]?).map fun l=>(C0u l.Kind).1).get!)=true then some 2 else none
theorem D0j {m:Map}(B:Bear m)(W:BearW m):U8 ⟨m⟩=some ((M5 (B5k m) 0 m.Works).getD 0):=by
  have hb:=B.lanes
  have h:=A4v m.Works (P1 ⟨m⟩) (B5k m) (fun i w hw=>by
    have hi:=Z6 hw
    have hm:=W.many
    unfold P1 B5k
    dsimp only
    rw [Z7 hi,G0 hw,cond_true,Option.bind_some,O7 hi (by omega)]
    by_cases h1:w.Lane_<0∨(m.Lanes.length:Int)≤w.Lane_
    ·rw [if_pos h1,show ((decide (w.Lane_<0))||(decide (w.Lane_≥(m.Lanes.length:Int))))=true by simpa using h1];rfl
    ·rw [if_neg h1,show ((decide (w.Lane_<0))||(decide (w.Lane_≥(m.Lanes.length:Int))))=false by rw [Bool.eq_false_iff];simpa using h1,cond_false]
     obtain ⟨l,e1,e2⟩:=B3n (m:=m) (k:=w.Lane_) (by omega) (by omega)
     rw [e2,Option.bind_some,C2c,Option.bind_some,C3u B (by omega) (by omega),A76,e1]
     simp only [Option.map_some,Option.get!_some]
     cases (decide (w.From<0)||decide (w.From>w.To))
     ·simp only [Bool.not_false,cond_true,Option.bind_some]
      cases (false||decide (w.To>W3 m w.Lane_)||decide (w.Begin<0)||decide (w.Begin≥w.End)||decide (w.End>1099511627776))
      ·simp only [Bool.not_false,cond_true,Option.bind_some]
       by_cases hq:inR w.Limit 0 (C0u l.Kind).1=true<;>simp [hq]
      ·rfl
     ·rfl) (by
    unfold P1
    dsimp only
    rw [S3];rfl)
  unfold U8
  rw [h]
  cases M5 (B5k m) 0 m.Works<;>rfl
theorem D0k {m:Map}(B:Bear m){i:Nat}(w:Work):A3t m w=some ((B5k m i w).getD 0):=by
  have hb:=B.lanes
  unfold A3t B5k
  by_cases h1:w.Lane_<0∨(m.Lanes.length:Int)≤w.Lane_
  ·rw [if_pos h1,show ((decide (w.Lane_<0))||(decide (w.Lane_≥(m.Lanes.length:Int))))=true by simpa using h1];rfl
  ·rw [if_neg h1,show ((decide (w.Lane_<0))||(decide (w.Lane_≥(m.Lanes.length:Int))))=false by rw [Bool.eq_false_iff];simpa using h1,cond_false]
   obtain ⟨l,e1,e2⟩:=B3n (m:=m) (k:=w.Lane_) (by omega) (by omega)
   obtain ⟨l',e3,e4⟩:=C0y B (k:=w.Lane_) (by omega) (by omega)
   rw [e2]at e3
   cases e3
   rw [e2,Option.bind_some,B9w,Option.bind_some,e4,A9v,e1]
   simp only [Option.map_some,Option.get!_some]
   cases (decide (w.From<0)||decide (w.From>w.To))
   ·simp only [Bool.not_false,cond_true,Option.bind_some]
    cases (false||decide (w.To>W3 m w.Lane_)||decide (w.Begin<0)||decide (w.Begin≥w.End)||decide (w.End>1099511627776))
    ·simp only [Bool.not_false,cond_true,Option.bind_some]
     by_cases hq:inR w.Limit 0 (C0u l.Kind).1=true<;>simp [hq]
    ·rfl
   ·rfl
theorem C68 {m:Map}(S:BearS m)(i:Nat){s:Signal}(hs:s∈m.Signals):A27 m s=some ((signalE m i s).getD 0):=by
  obtain ⟨p1,p2⟩:=S.phases s hs
  unfold A27 signalE
  rw [A9v,Option.bind_some,show (0:Int)=((0:Nat):Int) from rfl,C3s s p1 s.Phases 0 _ rfl (by omega),Option.bind_some]
  rw [show ((0:Nat):Int)=0 from rfl,C2h m s p1 p2]
  by_cases h1:s.Phases.length=0
  ·rw [if_pos h1,h1];rfl
  ·rw [if_neg h1,show ((s.Phases.length:Int)==0)=false by simp only [beq_eq_false_iff_ne];omega,cond_false]
   by_cases h2:6<s.Phases.length
   ·rw [if_pos h2,show decide ((s.Phases.length:Int)>6)=true from decide_eq_true (by omega)];rfl
   ·rw [if_neg h2,show decide ((s.Phases.length:Int)>6)=false from decide_eq_false (by omega),cond_false]
    cases inR s.Offset 0 1099511627776
    ·rfl
    ·cases (s.Phases.any fun p=> !inR p.Ticks 1 10000)
     ·cases (s.Phases.any fun p=> !A4p m.Lanes.length 0 p.Green)<;>rfl
     ·rfl
end Go.Abs.Roadsz
