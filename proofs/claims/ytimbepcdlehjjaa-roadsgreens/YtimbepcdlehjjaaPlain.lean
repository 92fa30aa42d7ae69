/-
  Plain facts on the functions: what they compute, and that the law holds of it.
-/
import Derived.Test.YtimbepcdlehjjaaFns2
set_option maxRecDepth 100000
set_option linter.unusedVariables false
namespace Go.Abs.Roads
open Go Go.Abs
noncomputable def A0b (p1:Map)(v1:Lane)(x2:Int):Option (Stp Int (Sum Unit Int)):=
  cond (decide (x2< (v1.Next.length:Int))) ((F1 v1.Next x2).bind fun v2=>(F1 p1.Lanes v2).bind fun v3=>cond (v3.Kind !=v1.Kind) (some (.out (.inr 4))) ((F1 v3.Curve_.Pts 0).bind fun v4=>(F1 v1.Curve_.Pts (w64 ((v1.Curve_.Pts.length:Int) - 1))).bind fun v5=>cond (!(v4.X==v5.X&& (v4.Y==v5.Y&&true))) (some (.out (.inr 3))) (some (.go (w64 (x2+1)))))) (some (.out (.inl ())))
noncomputable def A0c (p1:Map)(x1:Int):Option (Stp Int (Sum Unit Int)):=
  cond (decide (x1< (p1.Lanes.length:Int))) ((F1 p1.Lanes x1).bind fun v1=>thenS (loop (A0b p1 v1) 0) (fun _=>some (.go (w64 (x1+1)))) (fun r=>some (.out (.inr r)))) (some (.out (.inl ())))
noncomputable def A7r (p1:Map):Option Int:=
  thenS (loop (A0c p1) 0) (fun _=>some 0) (fun r=>some r)
end Go.Abs.Roads
namespace Go.Abs.Roads
open Go Go.Abs
def A7s (p4:(List Int))(x1:(Int×Lane)):Option (Stp (Int×Lane) Lane):=
  cond (decide ((w64 (x1.1+1))< (p4.length:Int))) ((F1 p4 x1.1).bind fun v1=>(F1 p4 (w64 (x1.1+1))).bind fun v2=>(A9u x1.2.Curve_.Pts [(Spot.mk v1 v2)]).bind fun v3=>some (.go ((w64 (x1.1+2)),(Lane.mk x1.2.Kind (Curve.mk v3) x1.2.Half x1.2.Limit x1.2.Next)))) (some (.out x1.2))
theorem B40 (p4:(List Int))(x1:(Int×Lane)):Le (A7s p4 x1) (A4l p4 x1):=by
  unfold A7s A4l
  repeat' first|with_reducible exact Le.refl _|with_reducible refine Le.bind ?_ fun _=> ?_|with_reducible refine Le.cond ?_ ?_|with_reducible refine Le.ite ?_ ?_|with_reducible refine Le.thenS ?_ (fun _=> ?_) (fun _=> ?_)|with_reducible refine Le.loop (fun _=> ?_) _|with_reducible refine Le.loopL (fun _ _=> ?_) _ _|exact Le.refl _
def B03 (p1:Int)(p2:Int)(p3:(List Int))(p4:(List Int)):Option Lane:=
  (X6 (A7s p4) (0,(Lane.mk p1 (Curve.mk []) 1500 p2 p3))).bind fun y1=>cond (p1==3) (some (Lane.mk y1.Kind y1.Curve_ 500 y1.Limit y1.Next)) (some y1)
theorem B86 (p1:Int)(p2:Int)(p3:(List Int))(p4:(List Int)):Le (B03 p1 p2 p3 p4) (P6 p1 p2 p3 p4):=by
  unfold B03 P6
  repeat' first|with_reducible exact Le.refl _|with_reducible exact B40 _ _|with_reducible refine Le.bind ?_ fun _=> ?_|with_reducible refine Le.cond ?_ ?_|with_reducible refine Le.ite ?_ ?_|with_reducible refine Le.thenS ?_ (fun _=> ?_) (fun _=> ?_)|with_reducible refine Le.loop (fun _=> ?_) _|with_reducible refine Le.loopL (fun _ _=> ?_) _ _|exact Le.refl _
def B11:Option Map:=
  (B03 1 1500 [] [0,0,100000,0]).bind fun v1=>(B03 1 1500 [] [50000,(-50000),50000,50000]).bind fun v2=>some (Map.mk 0 [v1,v2] [(Zone.mk [(Part.mk 0 48000 52000 1),(Part.mk 1 48000 52000 0)] 0)] [] [])
theorem B70:Le (B11) (A7o):=by
  unfold B11 A7o
  repeat' first|with_reducible exact Le.refl _|with_reducible exact B86 _ _ _ _|with_reducible refine Le.bind ?_ fun _=> ?_|with_reducible refine Le.cond ?_ ?_|with_reducible refine Le.ite ?_ ?_|with_reducible refine Le.thenS ?_ (fun _=> ?_) (fun _=> ?_)|with_reducible refine Le.loop (fun _=> ?_) _|with_reducible refine Le.loopL (fun _ _=> ?_) _ _|exact Le.refl _
def O7 (p1:Int)(p2:Int)(p3:Int):Option Bool:=
  some ((decide (p2≤p1))&& (decide (p1≤p3)))
theorem S3 (p1:Int)(p2:Int)(p3:Int):Le (O7 p1 p2 p3) (L9 p1 p2 p3):=by
  unfold O7 L9
  repeat' first|with_reducible exact Le.refl _|with_reducible refine Le.bind ?_ fun _=> ?_|with_reducible refine Le.cond ?_ ?_|with_reducible refine Le.ite ?_ ?_|with_reducible refine Le.thenS ?_ (fun _=> ?_) (fun _=> ?_)|with_reducible refine Le.loop (fun _=> ?_) _|with_reducible refine Le.loopL (fun _ _=> ?_) _ _|exact Le.refl _
def A1e (p1:RoadsCheck):Option Int:=
  (O7 p1.Map_.Version 0 1099511627776).bind fun v1=>cond (!v1) (some 2) (cond ((p1.Map_.Lanes.length:Int)==0) (some 6) (cond ((((decide ((p1.Map_.Lanes.length:Int)>12))||(decide ((p1.Map_.Zones.length:Int)>12)))||(decide ((p1.Map_.Signals.length:Int)>4)))||(decide ((p1.Map_.Works.length:Int)>8))) (some 8) (some 0)))
theorem A79 (p1:RoadsCheck):Le (A1e p1) (M0 p1):=by
  unfold A1e M0
  repeat' first|with_reducible exact Le.refl _|with_reducible exact S3 _ _ _|with_reducible refine Le.bind ?_ fun _=> ?_|with_reducible refine Le.cond ?_ ?_|with_reducible refine Le.ite ?_ ?_|with_reducible refine Le.thenS ?_ (fun _=> ?_) (fun _=> ?_)|with_reducible refine Le.loop (fun _=> ?_) _|with_reducible refine Le.loopL (fun _ _=> ?_) _ _|exact Le.refl _
def A4d (p1:Int):Option (Int×Int×Int):=
  cond ((decide (p1<0))||(decide (p1≥4))) (some (0,0,0)) ((F1 ([(0,0,0),(2000,30,90),(1000,20,60),(300,100,300)]:List (Int×Int×Int)) p1).bind fun v1=>some (v1.1,v1.2.1,v1.2.2))
theorem A7t (p1:Int):Le (A4d p1) (Y9 p1):=by
  unfold A4d Y9
  repeat' first|with_reducible exact Le.refl _|with_reducible refine Le.bind ?_ fun _=> ?_|with_reducible refine Le.cond ?_ ?_|with_reducible refine Le.ite ?_ ?_|with_reducible refine Le.thenS ?_ (fun _=> ?_) (fun _=> ?_)|with_reducible refine Le.loop (fun _=> ?_) _|with_reducible refine Le.loopL (fun _ _=> ?_) _ _|exact Le.refl _
def A5l (p1:(List Spot))(x1:Int):Option (Stp Int (Sum Unit Bool)):=
  cond (decide (x1< (p1.length:Int))) ((F1 p1 x1).bind fun v1=>cond ((decide ((mm2 false v1.X v1.Y)< (-16777216)))||(decide ((mm2 true v1.X v1.Y)>16777216))) (some (.out (.inr false))) (some (.go (w64 (x1+1))))) (some (.out (.inl ())))
theorem B1r (p1:(List Spot))(x1:Int):Le (A5l p1 x1) (U1 p1 x1):=by
  unfold A5l U1
  repeat' first|with_reducible exact Le.refl _|with_reducible refine Le.bind ?_ fun _=> ?_|with_reducible refine Le.cond ?_ ?_|with_reducible refine Le.ite ?_ ?_|with_reducible refine Le.thenS ?_ (fun _=> ?_) (fun _=> ?_)|with_reducible refine Le.loop (fun _=> ?_) _|with_reducible refine Le.loopL (fun _ _=> ?_) _ _|exact Le.refl _
def A9d (p1:(List Spot)):Option Bool:=
  thenS (X6 (A5l p1) 0) (fun _=>some true) (fun r=>some r)
theorem B5l (p1:(List Spot)):Le (A9d p1) (A2w p1):=by
  unfold A9d A2w
  repeat' first|with_reducible exact Le.refl _|with_reducible exact B1r _ _|with_reducible refine Le.bind ?_ fun _=> ?_|with_reducible refine Le.cond ?_ ?_|with_reducible refine Le.ite ?_ ?_|with_reducible refine Le.thenS ?_ (fun _=> ?_) (fun _=> ?_)|with_reducible refine Le.loop (fun _=> ?_) _|with_reducible refine Le.loopL (fun _ _=> ?_) _ _|exact Le.refl _
def A6j (p1:Spot)(p2:Spot):Option CurveVector:=
  some (CurveVector.mk (w64 (p2.X - p1.X)) (w64 (p2.Y - p1.Y)))
theorem B04 (p1:Spot)(p2:Spot):Le (A6j p1 p2) (A22 p1 p2):=by
  unfold A6j A22
  repeat' first|with_reducible exact Le.refl _|with_reducible refine Le.bind ?_ fun _=> ?_|with_reducible refine Le.cond ?_ ?_|with_reducible refine Le.ite ?_ ?_|with_reducible refine Le.thenS ?_ (fun _=> ?_) (fun _=> ?_)|with_reducible refine Le.loop (fun _=> ?_) _|with_reducible refine Le.loopL (fun _ _=> ?_) _ _|exact Le.refl _
def Y5 (p1:CurveVector)(p2:CurveVector):Option Int:=
  some (w64 ((w64 (p1.x*p2.x))+ (w64 (p1.y*p2.y))))
theorem A4u (p1:CurveVector)(p2:CurveVector):Le (Y5 p1 p2) (O4 p1 p2):=by
  unfold Y5 O4
  repeat' first|with_reducible exact Le.refl _|with_reducible refine Le.bind ?_ fun _=> ?_|with_reducible refine Le.cond ?_ ?_|with_reducible refine Le.ite ?_ ?_|with_reducible refine Le.thenS ?_ (fun _=> ?_) (fun _=> ?_)|with_reducible refine Le.loop (fun _=> ?_) _|with_reducible refine Le.loopL (fun _ _=> ?_) _ _|exact Le.refl _
def A5m (p1:Int)(x1:(Int×Int)):Option (Stp (Int×Int) Int):=
  cond (decide (x1.1<x1.2)) (cond (decide ((w64 ((w64 ((w64 (x1.1+x1.2)).tdiv 2))* (w64 ((w64 (x1.1+x1.2)).tdiv 2))))<p1)) (some (.go ((w64 ((w64 ((w64 (x1.1+x1.2)).tdiv 2))+1)),x1.2))) (some (.go (x1.1,(w64 ((w64 (x1.1+x1.2)).tdiv 2)))))) (some (.out x1.1))
theorem B1s (p1:Int)(x1:(Int×Int)):Le (A5m p1 x1) (Z3 p1 x1):=by
  unfold A5m Z3
  repeat' first|with_reducible exact Le.refl _|with_reducible refine Le.bind ?_ fun _=> ?_|with_reducible refine Le.cond ?_ ?_|with_reducible refine Le.ite ?_ ?_|with_reducible refine Le.thenS ?_ (fun _=> ?_) (fun _=> ?_)|with_reducible refine Le.loop (fun _=> ?_) _|with_reducible refine Le.loopL (fun _ _=> ?_) _ _|exact Le.refl _
def A6k (p1:Int):Option (Int×Bool):=
  (X6 (A5m p1) (0,67108864)).bind fun y1=>some (y1,((w64 (y1*y1))==p1))
theorem B05 (p1:Int):Le (A6k p1) (A14 p1):=by
  unfold A6k A14
  repeat' first|with_reducible exact Le.refl _|with_reducible exact B1s _ _|with_reducible refine Le.bind ?_ fun _=> ?_|with_reducible refine Le.cond ?_ ?_|with_reducible refine Le.ite ?_ ?_|with_reducible refine Le.thenS ?_ (fun _=> ?_) (fun _=> ?_)|with_reducible refine Le.loop (fun _=> ?_) _|with_reducible refine Le.loopL (fun _ _=> ?_) _ _|exact Le.refl _
def A4v (p1:Curve)(x1:(Int×CurveVector)):Option (Stp (Int×CurveVector) (Sum Unit Int)):=
  cond (decide (x1.1< (w64 ((p1.Pts.length:Int) - 1)))) ((F1 p1.Pts x1.1).bind fun v2=>(F1 p1.Pts (w64 (x1.1+1))).bind fun v3=>(A6j v2 v3).bind fun v4=>(Y5 v4 v4).bind fun v5=>(A6k v5).bind fun v6=>cond (!v6.2) (some (.out (.inr 3))) (cond ((decide (v6.1<1000))||(decide (v6.1>1048576))) (some (.out (.inr 2))) (((cond (decide (x1.1>0)) (Y5 x1.2 v4) (some default))).bind fun v7=>cond ((decide (x1.1>0))&& (decide (v7≤0))) (some (.out (.inr 12))) (some (.go ((w64 (x1.1+1)),v4)))))) (some (.out (.inl ())))
theorem B12 (p1:Curve)(x1:(Int×CurveVector)):Le (A4v p1 x1) (R2 p1 x1):=by
  unfold A4v R2
  repeat' first|with_reducible exact Le.refl _|with_reducible exact B04 _ _|with_reducible exact A4u _ _|with_reducible exact B05 _|with_reducible refine Le.bind ?_ fun _=> ?_|with_reducible refine Le.cond ?_ ?_|with_reducible refine Le.ite ?_ ?_|with_reducible refine Le.thenS ?_ (fun _=> ?_) (fun _=> ?_)|with_reducible refine Le.loop (fun _=> ?_) _|with_reducible refine Le.loopL (fun _ _=> ?_) _ _|exact Le.refl _
def A5d (p1:Curve):Option Int:=
  cond (decide ((p1.Pts.length:Int)<2)) (some 6) (cond (decide ((p1.Pts.length:Int)>16)) (some 5) ((A9d p1.Pts).bind fun v1=>cond (!v1) (some 2) (thenS (X6 (A4v p1) (0,(CurveVector.mk 0 0))) (fun _=>some 0) (fun r=>some r))))
theorem A8w (p1:Curve):Le (A5d p1) (A0e p1):=by
  unfold A5d A0e
  repeat' first|with_reducible exact Le.refl _|with_reducible exact B5l _|with_reducible exact B12 _ _|with_reducible refine Le.bind ?_ fun _=> ?_|with_reducible refine Le.cond ?_ ?_|with_reducible refine Le.ite ?_ ?_|with_reducible refine Le.thenS ?_ (fun _=> ?_) (fun _=> ?_)|with_reducible refine Le.loop (fun _=> ?_) _|with_reducible refine Le.loopL (fun _ _=> ?_) _ _|exact Le.refl _
def A3y (p1:(List Int))(p3:Int)(x1:(Int×Int)):Option (Stp (Int×Int) (Sum Unit Bool)):=
  cond (decide (x1.2< (p1.length:Int))) ((F1 p1 x1.2).bind fun v1=>cond ((decide (v1<x1.1))||(decide (v1≥p3))) (some (.out (.inr false))) (some (.go ((w64 (v1+1)),(w64 (x1.2+1)))))) (some (.out (.inl ())))
theorem B06 (p1:(List Int))(p3:Int)(x1:(Int×Int)):Le (A3y p1 p3 x1) (Q0 p1 p3 x1):=by
  unfold A3y Q0
  repeat' first|with_reducible exact Le.refl _|with_reducible refine Le.bind ?_ fun _=> ?_|with_reducible refine Le.cond ?_ ?_|with_reducible refine Le.ite ?_ ?_|with_reducible refine Le.thenS ?_ (fun _=> ?_) (fun _=> ?_)|with_reducible refine Le.loop (fun _=> ?_) _|with_reducible refine Le.loopL (fun _ _=> ?_) _ _|exact Le.refl _
def A2f (p1:(List Int))(p2:Int)(p3:Int):Option Bool:=
  thenS (X6 (A3y p1 p3) (p2,0)) (fun _=>some true) (fun r=>some r)
theorem A4w (p1:(List Int))(p2:Int)(p3:Int):Le (A2f p1 p2 p3) (W9 p1 p2 p3):=by
  unfold A2f W9
  repeat' first|with_reducible exact Le.refl _|with_reducible exact B06 _ _ _|with_reducible refine Le.bind ?_ fun _=> ?_|with_reducible refine Le.cond ?_ ?_|with_reducible refine Le.ite ?_ ?_|with_reducible refine Le.thenS ?_ (fun _=> ?_) (fun _=> ?_)|with_reducible refine Le.loop (fun _=> ?_) _|with_reducible refine Le.loopL (fun _ _=> ?_) _ _|exact Le.refl _
def A0p (p1:RoadsCheck)(x1:Int):Option (Stp Int (Sum Unit Int)):=
  cond (decide (x1< (p1.Map_.Lanes.length:Int))) ((F1 p1.Map_.Lanes x1).bind fun v1=>(A4d v1.Kind).bind fun v2=>cond (v2.1==0) (some (.out (.inr 4))) ((A5d v1.Curve_).bind fun v3=>cond (v3 !=0) (some (.out (.inr v3))) ((O7 v1.Half 200 4000).bind fun v4=>((cond (!(!v4)) (O7 v1.Limit 1 v2.1) (some default))).bind fun v5=>cond ((!v4)||(!v5)) (some (.out (.inr 2))) (cond (decide ((v1.Next.length:Int)>3)) (some (.out (.inr 8))) ((A2f v1.Next (w64 (x1+1)) (p1.Map_.Lanes.length:Int)).bind fun v6=>cond (!v6) (some (.out (.inr 11))) (some (.go (w64 (x1+1))))))))) (some (.out (.inl ())))
theorem A6l (p1:RoadsCheck)(x1:Int):Le (A0p p1 x1) (J9 p1 x1):=by
  unfold A0p J9
  repeat' first|with_reducible exact Le.refl _|with_reducible exact A7t _|with_reducible exact A8w _|with_reducible exact S3 _ _ _|with_reducible exact A4w _ _ _|with_reducible refine Le.bind ?_ fun _=> ?_|with_reducible refine Le.cond ?_ ?_|with_reducible refine Le.ite ?_ ?_|with_reducible refine Le.thenS ?_ (fun _=> ?_) (fun _=> ?_)|with_reducible refine Le.loop (fun _=> ?_) _|with_reducible refine Le.loopL (fun _ _=> ?_) _ _|exact Le.refl _
def A2g (p1:RoadsCheck):Option Int:=
  thenS (X6 (A0p p1) 0) (fun _=>some 0) (fun r=>some r)
theorem A8i (p1:RoadsCheck):Le (A2g p1) (P2 p1):=by
  unfold A2g P2
  repeat' first|with_reducible exact Le.refl _|with_reducible exact A6l _ _|with_reducible refine Le.bind ?_ fun _=> ?_|with_reducible refine Le.cond ?_ ?_|with_reducible refine Le.ite ?_ ?_|with_reducible refine Le.thenS ?_ (fun _=> ?_) (fun _=> ?_)|with_reducible refine Le.loop (fun _=> ?_) _|with_reducible refine Le.loopL (fun _ _=> ?_) _ _|exact Le.refl _
def A06 (p1:RoadsCheck)(v1:Lane)(v2:Spot)(x2:Int):Option (Stp Int (Sum Unit Int)):=
  cond (decide (x2< (v1.Next.length:Int))) ((F1 v1.Next x2).bind fun v3=>(F1 p1.Map_.Lanes v3).bind fun v4=>cond (v4.Kind !=v1.Kind) (some (.out (.inr 4))) ((F1 p1.Map_.Lanes v3).bind fun v5=>(F1 v5.Curve_.Pts 0).bind fun v6=>cond (!(v6.X==v2.X&& (v6.Y==v2.Y&&true))) (some (.out (.inr 3))) (some (.go (w64 (x2+1)))))) (some (.out (.inl ())))
theorem A62 (p1:RoadsCheck)(v1:Lane)(v2:Spot)(x2:Int):Le (A06 p1 v1 v2 x2) (I9 p1 v1 v2 x2):=by
  unfold A06 I9
  repeat' first|with_reducible exact Le.refl _|with_reducible refine Le.bind ?_ fun _=> ?_|with_reducible refine Le.cond ?_ ?_|with_reducible refine Le.ite ?_ ?_|with_reducible refine Le.thenS ?_ (fun _=> ?_) (fun _=> ?_)|with_reducible refine Le.loop (fun _=> ?_) _|with_reducible refine Le.loopL (fun _ _=> ?_) _ _|exact Le.refl _
def A07 (p1:RoadsCheck)(x1:Int):Option (Stp Int (Sum Unit Int)):=
  cond (decide (x1< (p1.Map_.Lanes.length:Int))) ((F1 p1.Map_.Lanes x1).bind fun v1=>(F1 v1.Curve_.Pts (w64 ((v1.Curve_.Pts.length:Int) - 1))).bind fun v2=>thenS (X6 (A06 p1 v1 v2) 0) (fun _=>some (.go (w64 (x1+1)))) (fun r=>some (.out (.inr r)))) (some (.out (.inl ())))
theorem A63 (p1:RoadsCheck)(x1:Int):Le (A07 p1 x1) (J0 p1 x1):=by
  unfold A07 J0
  repeat' first|with_reducible exact Le.refl _|with_reducible exact A62 _ _ _ _|with_reducible refine Le.bind ?_ fun _=> ?_|with_reducible refine Le.cond ?_ ?_|with_reducible refine Le.ite ?_ ?_|with_reducible refine Le.thenS ?_ (fun _=> ?_) (fun _=> ?_)|with_reducible refine Le.loop (fun _=> ?_) _|with_reducible refine Le.loopL (fun _ _=> ?_) _ _|exact Le.refl _
def A1y (p1:RoadsCheck):Option Int:=
  thenS (X6 (A07 p1) 0) (fun _=>some 0) (fun r=>some r)
theorem A7u (p1:RoadsCheck):Le (A1y p1) (N5 p1):=by
  unfold A1y N5
  repeat' first|with_reducible exact Le.refl _|with_reducible exact A63 _ _|with_reducible refine Le.bind ?_ fun _=> ?_|with_reducible refine Le.cond ?_ ?_|with_reducible refine Le.ite ?_ ?_|with_reducible refine Le.thenS ?_ (fun _=> ?_) (fun _=> ?_)|with_reducible refine Le.loop (fun _=> ?_) _|with_reducible refine Le.loopL (fun _ _=> ?_) _ _|exact Le.refl _
def A08 (p1:Phase):Option Bool:=
  (O7 p1.Ticks 1 10000).bind fun v1=>some (!v1)
theorem A64 (p1:Phase):Le (A08 p1) (P3 p1):=by
  unfold A08 P3
  repeat' first|with_reducible exact Le.refl _|with_reducible exact S3 _ _ _|with_reducible refine Le.bind ?_ fun _=> ?_|with_reducible refine Le.cond ?_ ?_|with_reducible refine Le.ite ?_ ?_|with_reducible refine Le.thenS ?_ (fun _=> ?_) (fun _=> ?_)|with_reducible refine Le.loop (fun _=> ?_) _|with_reducible refine Le.loopL (fun _ _=> ?_) _ _|exact Le.refl _
def E9 (p1:(List Phase))(x1:Int):Option (Stp Int (Sum Unit Int)):=
  cond (decide (x1< (p1.length:Int))) ((F1 p1 x1).bind fun v1=>(A08 v1).bind fun v2=>cond v2 (some (.out (.inr x1))) (some (.go (w64 (x1+1))))) (some (.out (.inl ())))
theorem S7 (p1:(List Phase))(x1:Int):Le (E9 p1 x1) (B1 p1 x1):=by
  unfold E9 B1
  repeat' first|with_reducible exact Le.refl _|with_reducible exact A64 _|with_reducible refine Le.bind ?_ fun _=> ?_|with_reducible refine Le.cond ?_ ?_|with_reducible refine Le.ite ?_ ?_|with_reducible refine Le.thenS ?_ (fun _=> ?_) (fun _=> ?_)|with_reducible refine Le.loop (fun _=> ?_) _|with_reducible refine Le.loopL (fun _ _=> ?_) _ _|exact Le.refl _
def F4 (p1:(List Phase)):Option Int:=
  thenS (X6 (E9 p1) 0) (fun _=>some (-1)) (fun r=>some r)
theorem U4 (p1:(List Phase)):Le (F4 p1) (B6 p1):=by
  unfold F4 B6
  repeat' first|with_reducible exact Le.refl _|with_reducible exact S7 _ _|with_reducible refine Le.bind ?_ fun _=> ?_|with_reducible refine Le.cond ?_ ?_|with_reducible refine Le.ite ?_ ?_|with_reducible refine Le.thenS ?_ (fun _=> ?_) (fun _=> ?_)|with_reducible refine Le.loop (fun _=> ?_) _|with_reducible refine Le.loopL (fun _ _=> ?_) _ _|exact Le.refl _
def F0 (p1:(List Phase)):Option Bool:=
  (F4 p1).bind fun v1=>some (decide (v1≥0))
theorem S8 (p1:(List Phase)):Le (F0 p1) (B2 p1):=by
  unfold F0 B2
  repeat' first|with_reducible exact Le.refl _|with_reducible exact U4 _|with_reducible refine Le.bind ?_ fun _=> ?_|with_reducible refine Le.cond ?_ ?_|with_reducible refine Le.ite ?_ ?_|with_reducible refine Le.thenS ?_ (fun _=> ?_) (fun _=> ?_)|with_reducible refine Le.loop (fun _=> ?_) _|with_reducible refine Le.loopL (fun _ _=> ?_) _ _|exact Le.refl _
def Y6 (p1:Phase)(p2:RoadsCheck):Option Bool:=
  (A2f p1.Green 0 (p2.Map_.Lanes.length:Int)).bind fun v1=>some (!v1)
theorem A57 (p1:Phase)(p2:RoadsCheck):Le (Y6 p1 p2) (M6 p1 p2):=by
  unfold Y6 M6
  repeat' first|with_reducible exact Le.refl _|with_reducible exact A4w _ _ _|with_reducible refine Le.bind ?_ fun _=> ?_|with_reducible refine Le.cond ?_ ?_|with_reducible refine Le.ite ?_ ?_|with_reducible refine Le.thenS ?_ (fun _=> ?_) (fun _=> ?_)|with_reducible refine Le.loop (fun _=> ?_) _|with_reducible refine Le.loopL (fun _ _=> ?_) _ _|exact Le.refl _
def E6 (p1:(List Phase))(p2:RoadsCheck)(x1:Int):Option (Stp Int (Sum Unit Int)):=
  cond (decide (x1< (p1.length:Int))) ((F1 p1 x1).bind fun v1=>(Y6 v1 p2).bind fun v2=>cond v2 (some (.out (.inr x1))) (some (.go (w64 (x1+1))))) (some (.out (.inl ())))
theorem S4 (p1:(List Phase))(p2:RoadsCheck)(x1:Int):Le (E6 p1 p2 x1) (A9 p1 p2 x1):=by
  unfold E6 A9
  repeat' first|with_reducible exact Le.refl _|with_reducible exact A57 _ _|with_reducible refine Le.bind ?_ fun _=> ?_|with_reducible refine Le.cond ?_ ?_|with_reducible refine Le.ite ?_ ?_|with_reducible refine Le.thenS ?_ (fun _=> ?_) (fun _=> ?_)|with_reducible refine Le.loop (fun _=> ?_) _|with_reducible refine Le.loopL (fun _ _=> ?_) _ _|exact Le.refl _
def F3 (p1:(List Phase))(p2:RoadsCheck):Option Int:=
  thenS (X6 (E6 p1 p2) 0) (fun _=>some (-1)) (fun r=>some r)
theorem T9 (p1:(List Phase))(p2:RoadsCheck):Le (F3 p1 p2) (B5 p1 p2):=by
  unfold F3 B5
  repeat' first|with_reducible exact Le.refl _|with_reducible exact S4 _ _ _|with_reducible refine Le.bind ?_ fun _=> ?_|with_reducible refine Le.cond ?_ ?_|with_reducible refine Le.ite ?_ ?_|with_reducible refine Le.thenS ?_ (fun _=> ?_) (fun _=> ?_)|with_reducible refine Le.loop (fun _=> ?_) _|with_reducible refine Le.loopL (fun _ _=> ?_) _ _|exact Le.refl _
def E7 (p1:(List Phase))(p2:RoadsCheck):Option Bool:=
  (F3 p1 p2).bind fun v1=>some (decide (v1≥0))
theorem S5 (p1:(List Phase))(p2:RoadsCheck):Le (E7 p1 p2) (B0 p1 p2):=by
  unfold E7 B0
  repeat' first|with_reducible exact Le.refl _|with_reducible exact T9 _ _|with_reducible refine Le.bind ?_ fun _=> ?_|with_reducible refine Le.cond ?_ ?_|with_reducible refine Le.ite ?_ ?_|with_reducible refine Le.thenS ?_ (fun _=> ?_) (fun _=> ?_)|with_reducible refine Le.loop (fun _=> ?_) _|with_reducible refine Le.loopL (fun _ _=> ?_) _ _|exact Le.refl _
def Z6 (p1:RoadsCheck)(x1:Int):Option (Stp Int (Sum Unit Int)):=
  cond (decide (x1< (p1.Map_.Signals.length:Int))) ((F1 p1.Map_.Signals x1).bind fun v1=>cond ((v1.Phases.length:Int)==0) (some (.out (.inr 6))) (cond (decide ((v1.Phases.length:Int)>6)) (some (.out (.inr 8))) ((O7 v1.Offset 0 1099511627776).bind fun v2=>cond (!v2) (some (.out (.inr 2))) ((F0 v1.Phases).bind fun v3=>cond v3 (some (.out (.inr 2))) ((E7 v1.Phases p1).bind fun v4=>cond v4 (some (.out (.inr 11))) (some (.go (w64 (x1+1))))))))) (some (.out (.inl ())))
theorem A5n (p1:RoadsCheck)(x1:Int):Le (Z6 p1 x1) (H8 p1 x1):=by
  unfold Z6 H8
  repeat' first|with_reducible exact Le.refl _|with_reducible exact S3 _ _ _|with_reducible exact S8 _|with_reducible exact S5 _ _|with_reducible refine Le.bind ?_ fun _=> ?_|with_reducible refine Le.cond ?_ ?_|with_reducible refine Le.ite ?_ ?_|with_reducible refine Le.thenS ?_ (fun _=> ?_) (fun _=> ?_)|with_reducible refine Le.loop (fun _=> ?_) _|with_reducible refine Le.loopL (fun _ _=> ?_) _ _|exact Le.refl _
def A1f (p1:RoadsCheck):Option Int:=
  thenS (X6 (Z6 p1) 0) (fun _=>some 0) (fun r=>some r)
theorem A7a (p1:RoadsCheck):Le (A1f p1) (M1 p1):=by
  unfold A1f M1
  repeat' first|with_reducible exact Le.refl _|with_reducible exact A5n _ _|with_reducible refine Le.bind ?_ fun _=> ?_|with_reducible refine Le.cond ?_ ?_|with_reducible refine Le.ite ?_ ?_|with_reducible refine Le.thenS ?_ (fun _=> ?_) (fun _=> ?_)|with_reducible refine Le.loop (fun _=> ?_) _|with_reducible refine Le.loopL (fun _ _=> ?_) _ _|exact Le.refl _
def B07 (pts:List Spot):Nat→Nat→Int→Option (List (Int×CurvePiece))
  |0,_,_=>some []
  |n+1,i,start=>(pts[i]?).bind fun p=>(pts[i+1]?).bind fun q=>(A6j p q).bind fun v=>(Y5 v v).bind fun d=>(A6k d).bind fun r=>
   (B07 pts n (i+1) (w64 (start+r.1))).bind fun l=>some (((i:Int),CurvePiece.mk p v r.1 start)::l)
theorem B3c (pts:List Spot): ∀(n i:Nat) (s:Int),Le (B07 pts n i s) (A2c pts n i s)
  |0,i,s=>Le.refl _
  |n+1,i,s=>by
   rw [A2c,B07]
   exact Le.bind (Le.refl _) fun _=>Le.bind (Le.refl _) fun _=>Le.bind (B04 _ _) fun _=>Le.bind (A4u _ _) fun _=>Le.bind (B05 _) fun _=>Le.bind (B3c pts n _ _) fun _=>Le.refl _
def B5m (pts:List Spot):Option (List (Int×CurvePiece)):=if pts.length≤1000000 then B07 pts (pts.length - 1) 0 0 else none
theorem C0o (pts:List Spot):Le (B5m pts) (A9b pts):=by
  unfold B5m A9b
  repeat' first|with_reducible exact Le.refl _|with_reducible exact B3c _ _ _ _|with_reducible refine Le.bind ?_ fun _=> ?_|with_reducible refine Le.cond ?_ ?_|with_reducible refine Le.ite ?_ ?_|with_reducible refine Le.thenS ?_ (fun _=> ?_) (fun _=> ?_)|with_reducible refine Le.loop (fun _=> ?_) _|with_reducible refine Le.loopL (fun _ _=> ?_) _ _|exact Le.refl _
def A3z (x1:(List Int))(a1:(Int×CurvePiece)):Option (Stp (List Int) (List Int)):=
  (A9u x1 [a1.2.l]).bind fun v3=>some (.go v3)
theorem B08 (x1:(List Int))(a1:(Int×CurvePiece)):Le (A3z x1 a1) (R6 x1 a1):=by
  unfold A3z R6
  repeat' first|with_reducible exact Le.refl _|with_reducible refine Le.bind ?_ fun _=> ?_|with_reducible refine Le.cond ?_ ?_|with_reducible refine Le.ite ?_ ?_|with_reducible refine Le.thenS ?_ (fun _=> ?_) (fun _=> ?_)|with_reducible refine Le.loop (fun _=> ?_) _|with_reducible refine Le.loopL (fun _ _=> ?_) _ _|exact Le.refl _
def A6m (p1:Curve):Option (List Int):=
  (A5d p1).bind fun v1=>cond (v1 !=0) (some []) (((B5m p1.Pts).bind fun v2=>loopL (A3z) (fun (x1:(List Int))=>x1) v2 []).bind fun y1=>some y1)
theorem B3d (p1:Curve):Le (A6m p1) (A0f p1):=by
  unfold A6m A0f
  repeat' first|with_reducible exact Le.refl _|with_reducible exact A8w _|with_reducible exact C0o _|with_reducible exact B08 _ _|with_reducible refine Le.bind ?_ fun _=> ?_|with_reducible refine Le.cond ?_ ?_|with_reducible refine Le.ite ?_ ?_|with_reducible refine Le.thenS ?_ (fun _=> ?_) (fun _=> ?_)|with_reducible refine Le.loop (fun _=> ?_) _|with_reducible refine Le.loopL (fun _ _=> ?_) _ _|exact Le.refl _
def A40 (v1:(List Int))(x1:(Int×Int)):Option (Stp (Int×Int) Int):=
  cond (decide (x1.2< (v1.length:Int))) ((F1 v1 x1.2).bind fun v2=>some (.go ((w64 (x1.1+v2)),(w64 (x1.2+1))))) (some (.out x1.1))
theorem B09 (v1:(List Int))(x1:(Int×Int)):Le (A40 v1 x1) (N9 v1 x1):=by
  unfold A40 N9
  repeat' first|with_reducible exact Le.refl _|with_reducible refine Le.bind ?_ fun _=> ?_|with_reducible refine Le.cond ?_ ?_|with_reducible refine Le.ite ?_ ?_|with_reducible refine Le.thenS ?_ (fun _=> ?_) (fun _=> ?_)|with_reducible refine Le.loop (fun _=> ?_) _|with_reducible refine Le.loopL (fun _ _=> ?_) _ _|exact Le.refl _
def A4e (p1:Curve):Option Int:=
  (A6m p1).bind fun v1=>(X6 (A40 v1) (0,0)).bind fun y1=>some y1
theorem A7v (p1:Curve):Le (A4e p1) (A0g p1):=by
  unfold A4e A0g
  repeat' first|with_reducible exact Le.refl _|with_reducible exact B3d _|with_reducible exact B09 _ _|with_reducible refine Le.bind ?_ fun _=> ?_|with_reducible refine Le.cond ?_ ?_|with_reducible refine Le.ite ?_ ?_|with_reducible refine Le.thenS ?_ (fun _=> ?_) (fun _=> ?_)|with_reducible refine Le.loop (fun _=> ?_) _|with_reducible refine Le.loopL (fun _ _=> ?_) _ _|exact Le.refl _
def A0q (p1:Map)(p2:Int):Option Int:=
  (F1 p1.Lanes p2).bind fun v1=>(A4e v1.Curve_).bind fun v2=>some v2
theorem A1a (p1:Map)(p2:Int):Le (A0q p1 p2) (U9 p1 p2):=by
  unfold A0q U9
  repeat' first|with_reducible exact Le.refl _|with_reducible exact A7v _|with_reducible refine Le.bind ?_ fun _=> ?_|with_reducible refine Le.cond ?_ ?_|with_reducible refine Le.ite ?_ ?_|with_reducible refine Le.thenS ?_ (fun _=> ?_) (fun _=> ?_)|with_reducible refine Le.loop (fun _=> ?_) _|with_reducible refine Le.loopL (fun _ _=> ?_) _ _|exact Le.refl _
def A0r (p1:RoadsCheck)(v1:Zone)(x3:Int):Option (Stp Int (Sum Unit Int)):=
  cond (decide (x3< (v1.Parts.length:Int))) ((F1 v1.Parts x3).bind fun v5=>((cond (!((decide (v5.From<0))||(decide (v5.From≥v5.To)))) (A0q p1.Map_ v5.Lane_) (some default))).bind fun v6=>cond (((((decide (v5.From<0))||(decide (v5.From≥v5.To)))||(decide (v5.To>v6)))||(decide (v5.Rank<0)))||(decide (v5.Rank>100))) (some (.out (.inr 2))) (some (.go (w64 (x3+1))))) (some (.out (.inl ())))
theorem A6n (p1:RoadsCheck)(v1:Zone)(x3:Int):Le (A0r p1 v1 x3) (K0 p1 v1 x3):=by
  unfold A0r K0
  repeat' first|with_reducible exact Le.refl _|with_reducible exact A1a _ _|with_reducible refine Le.bind ?_ fun _=> ?_|with_reducible refine Le.cond ?_ ?_|with_reducible refine Le.ite ?_ ?_|with_reducible refine Le.thenS ?_ (fun _=> ?_) (fun _=> ?_)|with_reducible refine Le.loop (fun _=> ?_) _|with_reducible refine Le.loopL (fun _ _=> ?_) _ _|exact Le.refl _
def A0s (v1:Zone)(x2:((List Int)×Int)):Option (Stp ((List Int)×Int) (List Int)):=
  cond (decide (x2.2< (v1.Parts.length:Int))) ((F1 v1.Parts x2.2).bind fun v2=>(A9u x2.1 [v2.Lane_]).bind fun v3=>some (.go (v3,(w64 (x2.2+1))))) (some (.out x2.1))
theorem A6o (v1:Zone)(x2:((List Int)×Int)):Le (A0s v1 x2) (Q3 v1 x2):=by
  unfold A0s Q3
  repeat' first|with_reducible exact Le.refl _|with_reducible refine Le.bind ?_ fun _=> ?_|with_reducible refine Le.cond ?_ ?_|with_reducible refine Le.ite ?_ ?_|with_reducible refine Le.thenS ?_ (fun _=> ?_) (fun _=> ?_)|with_reducible refine Le.loop (fun _=> ?_) _|with_reducible refine Le.loopL (fun _ _=> ?_) _ _|exact Le.refl _
def A0t (p1:RoadsCheck)(x1:Int):Option (Stp Int (Sum Unit Int)):=
  cond (decide (x1< (p1.Map_.Zones.length:Int))) ((F1 p1.Map_.Zones x1).bind fun v1=>cond (decide ((v1.Parts.length:Int)<2)) (some (.out (.inr 6))) (cond (decide ((v1.Parts.length:Int)>6)) (some (.out (.inr 8))) (cond ((decide (v1.Signal_<0))||(decide (v1.Signal_>(p1.Map_.Signals.length:Int)))) (some (.out (.inr 2))) ((X6 (A0s v1) ([],0)).bind fun y2=>(A2f y2 0 (p1.Map_.Lanes.length:Int)).bind fun v4=>cond (!v4) (some (.out (.inr 11))) (thenS (X6 (A0r p1 v1) 0) (fun _=>some (.go (w64 (x1+1)))) (fun r=>some (.out (.inr r)))))))) (some (.out (.inl ())))
theorem A6p (p1:RoadsCheck)(x1:Int):Le (A0t p1 x1) (K1 p1 x1):=by
  unfold A0t K1
  repeat' first|with_reducible exact Le.refl _|with_reducible exact A6o _ _|with_reducible exact A4w _ _ _|with_reducible exact A6n _ _ _|with_reducible refine Le.bind ?_ fun _=> ?_|with_reducible refine Le.cond ?_ ?_|with_reducible refine Le.ite ?_ ?_|with_reducible refine Le.thenS ?_ (fun _=> ?_) (fun _=> ?_)|with_reducible refine Le.loop (fun _=> ?_) _|with_reducible refine Le.loopL (fun _ _=> ?_) _ _|exact Le.refl _
def A2h (p1:RoadsCheck):Option Int:=
  thenS (X6 (A0t p1) 0) (fun _=>some 0) (fun r=>some r)
theorem A8j (p1:RoadsCheck):Le (A2h p1) (P4 p1):=by
  unfold A2h P4
  repeat' first|with_reducible exact Le.refl _|with_reducible exact A6p _ _|with_reducible refine Le.bind ?_ fun _=> ?_|with_reducible refine Le.cond ?_ ?_|with_reducible refine Le.ite ?_ ?_|with_reducible refine Le.thenS ?_ (fun _=> ?_) (fun _=> ?_)|with_reducible refine Le.loop (fun _=> ?_) _|with_reducible refine Le.loopL (fun _ _=> ?_) _ _|exact Le.refl _
def A0u (p1:RoadsCheck)(x1:Int):Option (Stp Int (Sum Unit Int)):=
  cond (decide (x1< (p1.Map_.Works.length:Int))) ((F1 p1.Map_.Works x1).bind fun v1=>cond ((decide (v1.Lane_<0))||(decide (v1.Lane_≥(p1.Map_.Lanes.length:Int)))) (some (.out (.inr 7))) ((F1 p1.Map_.Lanes v1.Lane_).bind fun v2=>(A4d v2.Kind).bind fun v3=>((cond (!((decide (v1.From<0))||(decide (v1.From>v1.To)))) (A0q p1.Map_ v1.Lane_) (some default))).bind fun v4=>((cond (!((((((decide (v1.From<0))||(decide (v1.From>v1.To)))||(decide (v1.To>v4)))||(decide (v1.Begin<0)))||(decide (v1.Begin≥v1.End)))||(decide (v1.End>1099511627776)))) (O7 v1.Limit 0 v3.1) (some default))).bind fun v5=>cond (((((((decide (v1.From<0))||(decide (v1.From>v1.To)))||(decide (v1.To>v4)))||(decide (v1.Begin<0)))||(decide (v1.Begin≥v1.End)))||(decide (v1.End>1099511627776)))||(!v5)) (some (.out (.inr 2))) (some (.go (w64 (x1+1)))))) (some (.out (.inl ())))
theorem A6q (p1:RoadsCheck)(x1:Int):Le (A0u p1 x1) (K2 p1 x1):=by
  unfold A0u K2
  repeat' first|with_reducible exact Le.refl _|with_reducible exact A7t _|with_reducible exact A1a _ _|with_reducible exact S3 _ _ _|with_reducible refine Le.bind ?_ fun _=> ?_|with_reducible refine Le.cond ?_ ?_|with_reducible refine Le.ite ?_ ?_|with_reducible refine Le.thenS ?_ (fun _=> ?_) (fun _=> ?_)|with_reducible refine Le.loop (fun _=> ?_) _|with_reducible refine Le.loopL (fun _ _=> ?_) _ _|exact Le.refl _
def A2i (p1:RoadsCheck):Option Int:=
  thenS (X6 (A0u p1) 0) (fun _=>some 0) (fun r=>some r)
theorem A8k (p1:RoadsCheck):Le (A2i p1) (P5 p1):=by
  unfold A2i P5
  repeat' first|with_reducible exact Le.refl _|with_reducible exact A6q _ _|with_reducible refine Le.bind ?_ fun _=> ?_|with_reducible refine Le.cond ?_ ?_|with_reducible refine Le.ite ?_ ?_|with_reducible refine Le.thenS ?_ (fun _=> ?_) (fun _=> ?_)|with_reducible refine Le.loop (fun _=> ?_) _|with_reducible refine Le.loopL (fun _ _=> ?_) _ _|exact Le.refl _
def V5 (v:Nat)(p1:RoadsCheck):Option Int:=
  cond (Nat.beq v 43) (A1e p1) (cond (Nat.beq v 44) (A2g p1) (cond (Nat.beq v 45) (A1y p1) (cond (Nat.beq v 46) (A1f p1) (cond (Nat.beq v 47) (A2h p1) (cond (Nat.beq v 48) (A2i p1) (none))))))
theorem A41 (v:Nat)(p1:RoadsCheck):Le (V5 v p1) (N0 v p1):=by
  unfold V5 N0
  repeat' first|with_reducible exact Le.refl _|with_reducible exact A79 _|with_reducible exact A8i _|with_reducible exact A7u _|with_reducible exact A7a _|with_reducible exact A8j _|with_reducible exact A8k _|with_reducible refine Le.bind ?_ fun _=> ?_|with_reducible refine Le.cond ?_ ?_|with_reducible refine Le.ite ?_ ?_|with_reducible refine Le.thenS ?_ (fun _=> ?_) (fun _=> ?_)|with_reducible refine Le.loop (fun _=> ?_) _|with_reducible refine Le.loopL (fun _ _=> ?_) _ _|exact Le.refl _
def A4x (p1:Map)(x1:Int):Option (Stp Int (Sum Unit Int)):=
  cond (decide (x1< ([43,44,45,46,47,48].length:Int))) ((F1 [43,44,45,46,47,48] x1).bind fun v1=>(V5 v1 (RoadsCheck.mk p1)).bind fun v2=>cond (v2 !=0) (some (.out (.inr v2))) (some (.go (w64 (x1+1))))) (some (.out (.inl ())))
theorem B13 (p1:Map)(x1:Int):Le (A4x p1 x1) (G6 p1 x1):=by
  unfold A4x G6
  repeat' first|with_reducible exact Le.refl _|with_reducible exact A41 _ _|with_reducible refine Le.bind ?_ fun _=> ?_|with_reducible refine Le.cond ?_ ?_|with_reducible refine Le.ite ?_ ?_|with_reducible refine Le.thenS ?_ (fun _=> ?_) (fun _=> ?_)|with_reducible refine Le.loop (fun _=> ?_) _|with_reducible refine Le.loopL (fun _ _=> ?_) _ _|exact Le.refl _
def A0v (p1:Map):Option Int:=
  thenS (X6 (A4x p1) 0) (fun _=>some 0) (fun r=>some r)
theorem A1p (p1:Map):Le (A0v p1) (X3 p1):=by
  unfold A0v X3
  repeat' first|with_reducible exact Le.refl _|with_reducible exact B13 _ _|with_reducible refine Le.bind ?_ fun _=> ?_|with_reducible refine Le.cond ?_ ?_|with_reducible refine Le.ite ?_ ?_|with_reducible refine Le.thenS ?_ (fun _=> ?_) (fun _=> ?_)|with_reducible refine Le.loop (fun _=> ?_) _|with_reducible refine Le.loopL (fun _ _=> ?_) _ _|exact Le.refl _
def Y7 (p1:(List Int))(p2:Int)(x1:Int):Option (Stp Int (Sum Unit Int)):=
  cond (decide (x1< (p1.length:Int))) ((F1 p1 x1).bind fun v1=>cond (p2==v1) (some (.out (.inr x1))) (some (.go (w64 (x1+1))))) (some (.out (.inl ())))
theorem A58 (p1:(List Int))(p2:Int)(x1:Int):Le (Y7 p1 p2 x1) (J4 p1 p2 x1):=by
  unfold Y7 J4
  repeat' first|with_reducible exact Le.refl _|with_reducible refine Le.bind ?_ fun _=> ?_|with_reducible refine Le.cond ?_ ?_|with_reducible refine Le.ite ?_ ?_|with_reducible refine Le.thenS ?_ (fun _=> ?_) (fun _=> ?_)|with_reducible refine Le.loop (fun _=> ?_) _|with_reducible refine Le.loopL (fun _ _=> ?_) _ _|exact Le.refl _
def A0w (p1:(List Int))(p2:Int):Option Int:=
  thenS (X6 (Y7 p1 p2) 0) (fun _=>some (-1)) (fun r=>some r)
theorem A6r (p1:(List Int))(p2:Int):Le (A0w p1 p2) (Q4 p1 p2):=by
  unfold A0w Q4
  repeat' first|with_reducible exact Le.refl _|with_reducible exact A58 _ _ _|with_reducible refine Le.bind ?_ fun _=> ?_|with_reducible refine Le.cond ?_ ?_|with_reducible refine Le.ite ?_ ?_|with_reducible refine Le.thenS ?_ (fun _=> ?_) (fun _=> ?_)|with_reducible refine Le.loop (fun _=> ?_) _|with_reducible refine Le.loopL (fun _ _=> ?_) _ _|exact Le.refl _
def L5 (p1:(List Int))(p2:Int):Option Bool:=
  (A0w p1 p2).bind fun v1=>some (decide (v1≥0))
theorem W2 (p1:(List Int))(p2:Int):Le (L5 p1 p2) (D8 p1 p2):=by
  unfold L5 D8
  repeat' first|with_reducible exact Le.refl _|with_reducible exact A6r _ _|with_reducible refine Le.bind ?_ fun _=> ?_|with_reducible refine Le.cond ?_ ?_|with_reducible refine Le.ite ?_ ?_|with_reducible refine Le.thenS ?_ (fun _=> ?_) (fun _=> ?_)|with_reducible refine Le.loop (fun _=> ?_) _|with_reducible refine Le.loopL (fun _ _=> ?_) _ _|exact Le.refl _
def A42 (p1:Map)(p2:Int)(x1:((List Int)×Int)):Option (Stp ((List Int)×Int) (List Int)):=
  cond (decide (x1.2< (p1.Lanes.length:Int))) ((F1 p1.Lanes x1.2).bind fun v1=>(L5 v1.Next p2).bind fun v2=>cond v2 ((A9u x1.1 [x1.2]).bind fun v3=>some (.go (v3,(w64 (x1.2+1))))) (some (.go (x1.1,(w64 (x1.2+1)))))) (some (.out x1.1))
theorem B0a (p1:Map)(p2:Int)(x1:((List Int)×Int)):Le (A42 p1 p2 x1) (A0h p1 p2 x1):=by
  unfold A42 A0h
  repeat' first|with_reducible exact Le.refl _|with_reducible exact W2 _ _|with_reducible refine Le.bind ?_ fun _=> ?_|with_reducible refine Le.cond ?_ ?_|with_reducible refine Le.ite ?_ ?_|with_reducible refine Le.thenS ?_ (fun _=> ?_) (fun _=> ?_)|with_reducible refine Le.loop (fun _=> ?_) _|with_reducible refine Le.loopL (fun _ _=> ?_) _ _|exact Le.refl _
def A2j (p1:Map)(p2:Int):Option (List Int):=
  (X6 (A42 p1 p2) ([],0)).bind fun y1=>some y1
theorem A4y (p1:Map)(p2:Int):Le (A2j p1 p2) (A0i p1 p2):=by
  unfold A2j A0i
  repeat' first|with_reducible exact Le.refl _|with_reducible exact B0a _ _ _|with_reducible refine Le.bind ?_ fun _=> ?_|with_reducible refine Le.cond ?_ ?_|with_reducible refine Le.ite ?_ ?_|with_reducible refine Le.thenS ?_ (fun _=> ?_) (fun _=> ?_)|with_reducible refine Le.loop (fun _=> ?_) _|with_reducible refine Le.loopL (fun _ _=> ?_) _ _|exact Le.refl _
def A1g (p1:Map)(v7:List Int)(x1:(Int×Int)):Option (Stp (Int×Int) (Sum Unit Int)):=
  cond (decide (x1.2< (v7.length:Int))) ((F1 v7 x1.2).bind fun v8=>(F1 p1.Lanes x1.1).bind fun v9=>(L5 v9.Next v8).bind fun v10=>cond (!v10) (some (.out (.inr 13))) (some (.go (v8,(w64 (x1.2+1)))))) (some (.out (.inl ())))
theorem A7b (p1:Map)(v7:List Int)(x1:(Int×Int)):Le (A1g p1 v7 x1) (V4 p1 v7 x1):=by
  unfold A1g V4
  repeat' first|with_reducible exact Le.refl _|with_reducible exact W2 _ _|with_reducible refine Le.bind ?_ fun _=> ?_|with_reducible refine Le.cond ?_ ?_|with_reducible refine Le.ite ?_ ?_|with_reducible refine Le.thenS ?_ (fun _=> ?_) (fun _=> ?_)|with_reducible refine Le.loop (fun _=> ?_) _|with_reducible refine Le.loopL (fun _ _=> ?_) _ _|exact Le.refl _
def A2z (p1:Map)(p2:(List Int)):Option Int:=
  (A0v p1).bind fun v1=>cond (v1 !=0) (some v1) (((cond (!(((p2.length:Int)==0)||(decide ((p2.length:Int)>8)))) (F1 p2 0) (some default))).bind fun v2=>((cond (!((((p2.length:Int)==0)||(decide ((p2.length:Int)>8)))||(decide (v2<0)))) (F1 p2 0) (some default))).bind fun v3=>((cond (!(((((p2.length:Int)==0)||(decide ((p2.length:Int)>8)))||(decide (v2<0)))||(decide (v3≥(p1.Lanes.length:Int))))) (F1 p2 0) (some default))).bind fun v4=>((cond (!(((((p2.length:Int)==0)||(decide ((p2.length:Int)>8)))||(decide (v2<0)))||(decide (v3≥(p1.Lanes.length:Int))))) (A2j p1 v4) (some default))).bind fun v5=>cond ((((((p2.length:Int)==0)||(decide ((p2.length:Int)>8)))||(decide (v2<0)))||(decide (v3≥(p1.Lanes.length:Int))))||(decide ((v5.length:Int)>0))) (some 13) ((F1 p2 0).bind fun v6=>(C39 p2 1 (p2.length:Int)).bind fun v7=>thenS (X6 (A1g p1 v7) (v6,0)) (fun _=>some 0) (fun r=>some r)))
theorem A9e (p1:Map)(p2:(List Int)):Le (A2z p1 p2) (A01 p1 p2):=by
  unfold A2z A01
  repeat' first|with_reducible exact Le.refl _|with_reducible exact A1p _|with_reducible exact A4y _ _|with_reducible exact A7b _ _ _|with_reducible refine Le.bind ?_ fun _=> ?_|with_reducible refine Le.cond ?_ ?_|with_reducible refine Le.ite ?_ ?_|with_reducible refine Le.thenS ?_ (fun _=> ?_) (fun _=> ?_)|with_reducible refine Le.loop (fun _=> ?_) _|with_reducible refine Le.loopL (fun _ _=> ?_) _ _|exact Le.refl _
def A43 (p1:Map)(p2:(List Int))(x1:(Int×RoadsWay)):Option (Stp (Int×RoadsWay) RoadsWay):=
  cond (decide (x1.1< (p2.length:Int))) ((F1 p2 x1.1).bind fun v2=>(A9u x1.2.starts [x1.2.length]).bind fun v3=>(A0q p1 v2).bind fun v4=>some (.go ((w64 (x1.1+1)),(RoadsWay.mk x1.2.Map_ x1.2.lanes v3 (w64 (x1.2.length+v4)))))) (some (.out x1.2))
theorem B0b (p1:Map)(p2:(List Int))(x1:(Int×RoadsWay)):Le (A43 p1 p2 x1) (A0j p1 p2 x1):=by
  unfold A43 A0j
  repeat' first|with_reducible exact Le.refl _|with_reducible exact A1a _ _|with_reducible refine Le.bind ?_ fun _=> ?_|with_reducible refine Le.cond ?_ ?_|with_reducible refine Le.ite ?_ ?_|with_reducible refine Le.thenS ?_ (fun _=> ?_) (fun _=> ?_)|with_reducible refine Le.loop (fun _=> ?_) _|with_reducible refine Le.loopL (fun _ _=> ?_) _ _|exact Le.refl _
def A6s (p1:Map)(p2:(List Int)):Option RoadsWay:=
  (A2z p1 p2).bind fun v1=>cond (v1 !=0) (some (RoadsWay.mk (Map.mk 0 [] [] [] []) [] [] 0)) ((X6 (A43 p1 p2) (0,(RoadsWay.mk p1 p2 [] 0))).bind fun y1=>some y1)
theorem B3e (p1:Map)(p2:(List Int)):Le (A6s p1 p2) (A3j p1 p2):=by
  unfold A6s A3j
  repeat' first|with_reducible exact Le.refl _|with_reducible exact A9e _ _|with_reducible exact B0b _ _ _|with_reducible refine Le.bind ?_ fun _=> ?_|with_reducible refine Le.cond ?_ ?_|with_reducible refine Le.ite ?_ ?_|with_reducible refine Le.thenS ?_ (fun _=> ?_) (fun _=> ?_)|with_reducible refine Le.loop (fun _=> ?_) _|with_reducible refine Le.loopL (fun _ _=> ?_) _ _|exact Le.refl _
def A4z (p3:Int)(v1:RoadsWay)(x1:Int):Option (Stp Int Int):=
  (F1 v1.starts x1).bind fun v3=>cond (decide (v3>p3)) (some (.go (w64 (x1 - 1)))) (some (.out x1))
theorem B14 (p3:Int)(v1:RoadsWay)(x1:Int):Le (A4z p3 v1 x1) (A1k p3 v1 x1):=by
  unfold A4z A1k
  repeat' first|with_reducible exact Le.refl _|with_reducible refine Le.bind ?_ fun _=> ?_|with_reducible refine Le.cond ?_ ?_|with_reducible refine Le.ite ?_ ?_|with_reducible refine Le.thenS ?_ (fun _=> ?_) (fun _=> ?_)|with_reducible refine Le.loop (fun _=> ?_) _|with_reducible refine Le.loopL (fun _ _=> ?_) _ _|exact Le.refl _
def A7w (p1:Map)(p2:(List Int))(p3:Int):Option (Int×Int×Bool):=
  (A6s p1 p2).bind fun v1=>((cond (!((v1.lanes.length:Int)==0)) (O7 p3 0 v1.length) (some default))).bind fun v2=>cond (((v1.lanes.length:Int)==0)||(!v2)) (some (0,0,false)) ((X6 (A4z p3 v1) (w64 ((v1.lanes.length:Int) - 1))).bind fun y1=>(F1 v1.lanes y1).bind fun v4=>(F1 v1.starts y1).bind fun v5=>some (v4,(w64 (p3 - v5)),true))
theorem B41 (p1:Map)(p2:(List Int))(p3:Int):Le (A7w p1 p2 p3) (A4p p1 p2 p3):=by
  unfold A7w A4p
  repeat' first|with_reducible exact Le.refl _|with_reducible exact B3e _ _|with_reducible exact S3 _ _ _|with_reducible exact B14 _ _ _|with_reducible refine Le.bind ?_ fun _=> ?_|with_reducible refine Le.cond ?_ ?_|with_reducible refine Le.ite ?_ ?_|with_reducible refine Le.thenS ?_ (fun _=> ?_) (fun _=> ?_)|with_reducible refine Le.loop (fun _=> ?_) _|with_reducible refine Le.loopL (fun _ _=> ?_) _ _|exact Le.refl _
def A50 (p1:Part)(p2:Int):Option Bool:=
  some (p1.Lane_==p2)
theorem B15 (p1:Part)(p2:Int):Le (A50 p1 p2) (A1l p1 p2):=by
  unfold A50 A1l
  repeat' first|with_reducible exact Le.refl _|with_reducible refine Le.bind ?_ fun _=> ?_|with_reducible refine Le.cond ?_ ?_|with_reducible refine Le.ite ?_ ?_|with_reducible refine Le.thenS ?_ (fun _=> ?_) (fun _=> ?_)|with_reducible refine Le.loop (fun _=> ?_) _|with_reducible refine Le.loopL (fun _ _=> ?_) _ _|exact Le.refl _
def I5 (p1:(List Part))(p2:Int)(x1:Int):Option (Stp Int (Sum Unit Int)):=
  cond (decide (x1< (p1.length:Int))) ((F1 p1 x1).bind fun v1=>(A50 v1 p2).bind fun v2=>cond v2 (some (.out (.inr x1))) (some (.go (w64 (x1+1))))) (some (.out (.inl ())))
theorem X8 (p1:(List Part))(p2:Int)(x1:Int):Le (I5 p1 p2 x1) (D9 p1 p2 x1):=by
  unfold I5 D9
  repeat' first|with_reducible exact Le.refl _|with_reducible exact B15 _ _|with_reducible refine Le.bind ?_ fun _=> ?_|with_reducible refine Le.cond ?_ ?_|with_reducible refine Le.ite ?_ ?_|with_reducible refine Le.thenS ?_ (fun _=> ?_) (fun _=> ?_)|with_reducible refine Le.loop (fun _=> ?_) _|with_reducible refine Le.loopL (fun _ _=> ?_) _ _|exact Le.refl _
def K8 (p1:(List Part))(p2:Int):Option Int:=
  thenS (X6 (I5 p1 p2) 0) (fun _=>some (-1)) (fun r=>some r)
theorem Z7 (p1:(List Part))(p2:Int):Le (K8 p1 p2) (E5 p1 p2):=by
  unfold K8 E5
  repeat' first|with_reducible exact Le.refl _|with_reducible exact X8 _ _ _|with_reducible refine Le.bind ?_ fun _=> ?_|with_reducible refine Le.cond ?_ ?_|with_reducible refine Le.ite ?_ ?_|with_reducible refine Le.thenS ?_ (fun _=> ?_) (fun _=> ?_)|with_reducible refine Le.loop (fun _=> ?_) _|with_reducible refine Le.loopL (fun _ _=> ?_) _ _|exact Le.refl _
def A30 (p1:Zone)(p2:Int):Option (Part×Bool):=
  (K8 p1.Parts p2).bind fun v1=>cond (decide (v1<0)) (some ((Part.mk 0 0 0 0),false)) ((F1 p1.Parts v1).bind fun v2=>some (v2,true))
theorem A6t (p1:Zone)(p2:Int):Le (A30 p1 p2) (A23 p1 p2):=by
  unfold A30 A23
  repeat' first|with_reducible exact Le.refl _|with_reducible exact Z7 _ _|with_reducible refine Le.bind ?_ fun _=> ?_|with_reducible refine Le.cond ?_ ?_|with_reducible refine Le.ite ?_ ?_|with_reducible refine Le.thenS ?_ (fun _=> ?_) (fun _=> ?_)|with_reducible refine Le.loop (fun _=> ?_) _|with_reducible refine Le.loopL (fun _ _=> ?_) _ _|exact Le.refl _
def A44 (p1:Map)(p2:Zone)(v2:(List Int))(x1:Int):Option (Stp Int (Sum Unit Bool)):=
  cond (decide (x1< (v2.length:Int))) ((F1 v2 x1).bind fun v3=>(A30 p2 v3).bind fun v4=>((cond (!(!v4.2)) (A0q p1 v3) (some default))).bind fun v5=>cond ((!v4.2)||(v4.1.To !=v5)) (some (.out (.inr false))) (some (.go (w64 (x1+1))))) (some (.out (.inl ())))
theorem B0c (p1:Map)(p2:Zone)(v2:(List Int))(x1:Int):Le (A44 p1 p2 v2 x1) (A0k p1 p2 v2 x1):=by
  unfold A44 A0k
  repeat' first|with_reducible exact Le.refl _|with_reducible exact A6t _ _|with_reducible exact A1a _ _|with_reducible refine Le.bind ?_ fun _=> ?_|with_reducible refine Le.cond ?_ ?_|with_reducible refine Le.ite ?_ ?_|with_reducible refine Le.thenS ?_ (fun _=> ?_) (fun _=> ?_)|with_reducible refine Le.loop (fun _=> ?_) _|with_reducible refine Le.loopL (fun _ _=> ?_) _ _|exact Le.refl _
def A4f (p1:Map)(p2:Zone)(p3:Int):Option Bool:=
  (A30 p2 p3).bind fun v1=>cond ((!v1.2)||(v1.1.From !=0)) (some false) ((A2j p1 p3).bind fun v2=>thenS (X6 (A44 p1 p2 v2) 0) (fun _=>some true) (fun r=>some r))
theorem A7x (p1:Map)(p2:Zone)(p3:Int):Le (A4f p1 p2 p3) (A24 p1 p2 p3):=by
  unfold A4f A24
  repeat' first|with_reducible exact Le.refl _|with_reducible exact A6t _ _|with_reducible exact A4y _ _|with_reducible exact B0c _ _ _ _|with_reducible refine Le.bind ?_ fun _=> ?_|with_reducible refine Le.cond ?_ ?_|with_reducible refine Le.ite ?_ ?_|with_reducible refine Le.thenS ?_ (fun _=> ?_) (fun _=> ?_)|with_reducible refine Le.loop (fun _=> ?_) _|with_reducible refine Le.loopL (fun _ _=> ?_) _ _|exact Le.refl _
def A51 (x1:(Int× (Int×Int×Int×Int×Int×Int×Int×Int×Int×Int×Int×Int)))(v1:Lane)(x2:(Int× (Int×Int×Int×Int×Int×Int×Int×Int×Int×Int×Int×Int))):Option (Stp (Int× (Int×Int×Int×Int×Int×Int×Int×Int×Int×Int×Int×Int)) (Int×Int×Int×Int×Int×Int×Int×Int×Int×Int×Int×Int)):=
  cond (decide (x2.1< (v1.Next.length:Int))) ((F1 v1.Next x2.1).bind fun v2=>(F1 ([x2.2.1,x2.2.2.1,x2.2.2.2.1,x2.2.2.2.2.1,x2.2.2.2.2.2.1,x2.2.2.2.2.2.2.1,x2.2.2.2.2.2.2.2.1,x2.2.2.2.2.2.2.2.2.1,x2.2.2.2.2.2.2.2.2.2.1,x2.2.2.2.2.2.2.2.2.2.2.1,x2.2.2.2.2.2.2.2.2.2.2.2.1,x2.2.2.2.2.2.2.2.2.2.2.2.2]:List Int) x1.1).bind fun v3=>(F1 ([x2.2.1,x2.2.2.1,x2.2.2.2.1,x2.2.2.2.2.1,x2.2.2.2.2.2.1,x2.2.2.2.2.2.2.1,x2.2.2.2.2.2.2.2.1,x2.2.2.2.2.2.2.2.2.1,x2.2.2.2.2.2.2.2.2.2.1,x2.2.2.2.2.2.2.2.2.2.2.1,x2.2.2.2.2.2.2.2.2.2.2.2.1,x2.2.2.2.2.2.2.2.2.2.2.2.2]:List Int) v2).bind fun v4=>(C99 .u32 1 (IntKind.wrap .u64 v2)).bind fun v5=>(F1 ([x2.2.1,x2.2.2.1,x2.2.2.2.1,x2.2.2.2.2.1,x2.2.2.2.2.2.1,x2.2.2.2.2.2.2.1,x2.2.2.2.2.2.2.2.1,x2.2.2.2.2.2.2.2.2.1,x2.2.2.2.2.2.2.2.2.2.1,x2.2.2.2.2.2.2.2.2.2.2.1,x2.2.2.2.2.2.2.2.2.2.2.2.1,x2.2.2.2.2.2.2.2.2.2.2.2.2]:List Int) x1.1).bind fun v6=>(C7j ([x2.2.1,x2.2.2.1,x2.2.2.2.1,x2.2.2.2.2.1,x2.2.2.2.2.2.1,x2.2.2.2.2.2.2.1,x2.2.2.2.2.2.2.2.1,x2.2.2.2.2.2.2.2.2.1,x2.2.2.2.2.2.2.2.2.2.1,x2.2.2.2.2.2.2.2.2.2.2.1,x2.2.2.2.2.2.2.2.2.2.2.2.1,x2.2.2.2.2.2.2.2.2.2.2.2.2]:List Int) x1.1 (IntKind.wrap .u32 (((BitVec.ofInt (IntKind.bits .u32) v3|||(BitVec.ofInt (IntKind.bits .u32) (IntKind.wrap .u32 (((BitVec.ofInt (IntKind.bits .u32) v4|||(BitVec.ofInt (IntKind.bits .u32) v5)).toNat:Nat))))).toNat:Nat)))).bind fun v7=>some (.go ((w64 (x2.1+1)),((v7.getD 0 0),(v7.getD 1 0),(v7.getD 2 0),(v7.getD 3 0),(v7.getD 4 0),(v7.getD 5 0),(v7.getD 6 0),(v7.getD 7 0),(v7.getD 8 0),(v7.getD 9 0),(v7.getD 10 0),(v7.getD 11 0))))) (some (.out x2.2))
theorem B16 (x1:(Int× (Int×Int×Int×Int×Int×Int×Int×Int×Int×Int×Int×Int)))(v1:Lane)(x2:(Int× (Int×Int×Int×Int×Int×Int×Int×Int×Int×Int×Int×Int))):Le (A51 x1 v1 x2) (A1m x1 v1 x2):=by
  unfold A51 A1m
  repeat' first|with_reducible exact Le.refl _|with_reducible refine Le.bind ?_ fun _=> ?_|with_reducible refine Le.cond ?_ ?_|with_reducible refine Le.ite ?_ ?_|with_reducible refine Le.thenS ?_ (fun _=> ?_) (fun _=> ?_)|with_reducible refine Le.loop (fun _=> ?_) _|with_reducible refine Le.loopL (fun _ _=> ?_) _ _|exact Le.refl _
def A52 (p1:Map)(x1:(Int× (Int×Int×Int×Int×Int×Int×Int×Int×Int×Int×Int×Int))):Option (Stp (Int× (Int×Int×Int×Int×Int×Int×Int×Int×Int×Int×Int×Int)) (Int×Int×Int×Int×Int×Int×Int×Int×Int×Int×Int×Int)):=
  cond (decide (x1.1≥0)) ((F1 p1.Lanes x1.1).bind fun v1=>(X6 (A51 x1 v1) (0,x1.2)).bind fun y2=>some (.go ((w64 (x1.1 - 1)),y2))) (some (.out x1.2))
theorem B17 (p1:Map)(x1:(Int× (Int×Int×Int×Int×Int×Int×Int×Int×Int×Int×Int×Int))):Le (A52 p1 x1) (A1n p1 x1):=by
  unfold A52 A1n
  repeat' first|with_reducible exact Le.refl _|with_reducible exact B16 _ _ _|with_reducible refine Le.bind ?_ fun _=> ?_|with_reducible refine Le.cond ?_ ?_|with_reducible refine Le.ite ?_ ?_|with_reducible refine Le.thenS ?_ (fun _=> ?_) (fun _=> ?_)|with_reducible refine Le.loop (fun _=> ?_) _|with_reducible refine Le.loopL (fun _ _=> ?_) _ _|exact Le.refl _
def A7y (p1:Map):Option (Int×Int×Int×Int×Int×Int×Int×Int×Int×Int×Int×Int):=
  (X6 (A52 p1) ((w64 ((p1.Lanes.length:Int) - 1)),(0,0,0,0,0,0,0,0,0,0,0,0))).bind fun y1=>some y1
theorem B42 (p1:Map):Le (A7y p1) (A4q p1):=by
  unfold A7y A4q
  repeat' first|with_reducible exact Le.refl _|with_reducible exact B17 _ _|with_reducible refine Le.bind ?_ fun _=> ?_|with_reducible refine Le.cond ?_ ?_|with_reducible refine Le.ite ?_ ?_|with_reducible refine Le.thenS ?_ (fun _=> ?_) (fun _=> ?_)|with_reducible refine Le.loop (fun _=> ?_) _|with_reducible refine Le.loopL (fun _ _=> ?_) _ _|exact Le.refl _
def A5o (p1:Int)(p2:Int):Option Bool:=
  (C9a .u32 p1 (IntKind.wrap .u64 p2)).bind fun v1=>some ((IntKind.wrap .u32 (((BitVec.ofInt (IntKind.bits .u32) v1&&&(BitVec.ofInt (IntKind.bits .u32) 1)).toNat:Nat)))==1)
theorem B1t (p1:Int)(p2:Int):Le (A5o p1 p2) (A2d p1 p2):=by
  unfold A5o A2d
  repeat' first|with_reducible exact Le.refl _|with_reducible refine Le.bind ?_ fun _=> ?_|with_reducible refine Le.cond ?_ ?_|with_reducible refine Le.ite ?_ ?_|with_reducible refine Le.thenS ?_ (fun _=> ?_) (fun _=> ?_)|with_reducible refine Le.loop (fun _=> ?_) _|with_reducible refine Le.loopL (fun _ _=> ?_) _ _|exact Le.refl _
def A2k (p1:Part)(p2:(Int×Int×Int×Int×Int×Int×Int×Int×Int×Int×Int×Int))(p3:Int):Option Bool:=
  (F1 ([p2.1,p2.2.1,p2.2.2.1,p2.2.2.2.1,p2.2.2.2.2.1,p2.2.2.2.2.2.1,p2.2.2.2.2.2.2.1,p2.2.2.2.2.2.2.2.1,p2.2.2.2.2.2.2.2.2.1,p2.2.2.2.2.2.2.2.2.2.1,p2.2.2.2.2.2.2.2.2.2.2.1,p2.2.2.2.2.2.2.2.2.2.2.2]:List Int) p1.Lane_).bind fun v1=>(A5o v1 p3).bind fun v2=>some v2
theorem A8l (p1:Part)(p2:(Int×Int×Int×Int×Int×Int×Int×Int×Int×Int×Int×Int))(p3:Int):Le (A2k p1 p2 p3) (Y3 p1 p2 p3):=by
  unfold A2k Y3
  repeat' first|with_reducible exact Le.refl _|with_reducible exact B1t _ _|with_reducible refine Le.bind ?_ fun _=> ?_|with_reducible refine Le.cond ?_ ?_|with_reducible refine Le.ite ?_ ?_|with_reducible refine Le.thenS ?_ (fun _=> ?_) (fun _=> ?_)|with_reducible refine Le.loop (fun _=> ?_) _|with_reducible refine Le.loopL (fun _ _=> ?_) _ _|exact Le.refl _
def H4 (p1:(List Part))(p2:(Int×Int×Int×Int×Int×Int×Int×Int×Int×Int×Int×Int))(p3:Int)(x1:Int):Option (Stp Int (Sum Unit Int)):=
  cond (decide (x1< (p1.length:Int))) ((F1 p1 x1).bind fun v1=>(A2k v1 p2 p3).bind fun v2=>cond v2 (some (.out (.inr x1))) (some (.go (w64 (x1+1))))) (some (.out (.inl ())))
theorem X1 (p1:(List Part))(p2:(Int×Int×Int×Int×Int×Int×Int×Int×Int×Int×Int×Int))(p3:Int)(x1:Int):Le (H4 p1 p2 p3 x1) (D4 p1 p2 p3 x1):=by
  unfold H4 D4
  repeat' first|with_reducible exact Le.refl _|with_reducible exact A8l _ _ _|with_reducible refine Le.bind ?_ fun _=> ?_|with_reducible refine Le.cond ?_ ?_|with_reducible refine Le.ite ?_ ?_|with_reducible refine Le.thenS ?_ (fun _=> ?_) (fun _=> ?_)|with_reducible refine Le.loop (fun _=> ?_) _|with_reducible refine Le.loopL (fun _ _=> ?_) _ _|exact Le.refl _
def J6 (p1:(List Part))(p2:(Int×Int×Int×Int×Int×Int×Int×Int×Int×Int×Int×Int))(p3:Int):Option Int:=
  thenS (X6 (H4 p1 p2 p3) 0) (fun _=>some (-1)) (fun r=>some r)
theorem Y8 (p1:(List Part))(p2:(Int×Int×Int×Int×Int×Int×Int×Int×Int×Int×Int×Int))(p3:Int):Le (J6 p1 p2 p3) (E2 p1 p2 p3):=by
  unfold J6 E2
  repeat' first|with_reducible exact Le.refl _|with_reducible exact X1 _ _ _ _|with_reducible refine Le.bind ?_ fun _=> ?_|with_reducible refine Le.cond ?_ ?_|with_reducible refine Le.ite ?_ ?_|with_reducible refine Le.thenS ?_ (fun _=> ?_) (fun _=> ?_)|with_reducible refine Le.loop (fun _=> ?_) _|with_reducible refine Le.loopL (fun _ _=> ?_) _ _|exact Le.refl _
def H5 (p1:(List Part))(p2:(Int×Int×Int×Int×Int×Int×Int×Int×Int×Int×Int×Int))(p3:Int):Option Bool:=
  (J6 p1 p2 p3).bind fun v1=>some (decide (v1≥0))
theorem X2 (p1:(List Part))(p2:(Int×Int×Int×Int×Int×Int×Int×Int×Int×Int×Int×Int))(p3:Int):Le (H5 p1 p2 p3) (D5 p1 p2 p3):=by
  unfold H5 D5
  repeat' first|with_reducible exact Le.refl _|with_reducible exact Y8 _ _ _|with_reducible refine Le.bind ?_ fun _=> ?_|with_reducible refine Le.cond ?_ ?_|with_reducible refine Le.ite ?_ ?_|with_reducible refine Le.thenS ?_ (fun _=> ?_) (fun _=> ?_)|with_reducible refine Le.loop (fun _=> ?_) _|with_reducible refine Le.loopL (fun _ _=> ?_) _ _|exact Le.refl _
def A3p (p1:Map)(p2:Zone)(p3:Int):Option Bool:=
  (A7y p1).bind fun v1=>(H5 p2.Parts v1 p3).bind fun v2=>some (!v2)
theorem A5p (p1:Map)(p2:Zone)(p3:Int):Le (A3p p1 p2 p3) (A1w p1 p2 p3):=by
  unfold A3p A1w
  repeat' first|with_reducible exact Le.refl _|with_reducible exact B42 _|with_reducible exact X2 _ _ _|with_reducible refine Le.bind ?_ fun _=> ?_|with_reducible refine Le.cond ?_ ?_|with_reducible refine Le.ite ?_ ?_|with_reducible refine Le.thenS ?_ (fun _=> ?_) (fun _=> ?_)|with_reducible refine Le.loop (fun _=> ?_) _|with_reducible refine Le.loopL (fun _ _=> ?_) _ _|exact Le.refl _
def A0x (p1:Int)(p2:Map)(p3:Zone):Option Bool:=
  (A3p p2 p3 p1).bind fun v1=>some (!v1)
theorem A6u (p1:Int)(p2:Map)(p3:Zone):Le (A0x p1 p2 p3) (T6 p1 p2 p3):=by
  unfold A0x T6
  repeat' first|with_reducible exact Le.refl _|with_reducible exact A5p _ _ _|with_reducible refine Le.bind ?_ fun _=> ?_|with_reducible refine Le.cond ?_ ?_|with_reducible refine Le.ite ?_ ?_|with_reducible refine Le.thenS ?_ (fun _=> ?_) (fun _=> ?_)|with_reducible refine Le.loop (fun _=> ?_) _|with_reducible refine Le.loopL (fun _ _=> ?_) _ _|exact Le.refl _
def G7 (p1:(List Int))(p2:Map)(p3:Zone)(x1:Int):Option (Stp Int (Sum Unit Int)):=
  cond (decide (x1< (p1.length:Int))) ((F1 p1 x1).bind fun v1=>(A0x v1 p2 p3).bind fun v2=>cond v2 (some (.out (.inr x1))) (some (.go (w64 (x1+1))))) (some (.out (.inl ())))
theorem W3 (p1:(List Int))(p2:Map)(p3:Zone)(x1:Int):Le (G7 p1 p2 p3 x1) (D1 p1 p2 p3 x1):=by
  unfold G7 D1
  repeat' first|with_reducible exact Le.refl _|with_reducible exact A6u _ _ _|with_reducible refine Le.bind ?_ fun _=> ?_|with_reducible refine Le.cond ?_ ?_|with_reducible refine Le.ite ?_ ?_|with_reducible refine Le.thenS ?_ (fun _=> ?_) (fun _=> ?_)|with_reducible refine Le.loop (fun _=> ?_) _|with_reducible refine Le.loopL (fun _ _=> ?_) _ _|exact Le.refl _
def I6 (p1:(List Int))(p2:Map)(p3:Zone):Option Int:=
  thenS (X6 (G7 p1 p2 p3) 0) (fun _=>some (-1)) (fun r=>some r)
theorem X9 (p1:(List Int))(p2:Map)(p3:Zone):Le (I6 p1 p2 p3) (E0 p1 p2 p3):=by
  unfold I6 E0
  repeat' first|with_reducible exact Le.refl _|with_reducible exact W3 _ _ _ _|with_reducible refine Le.bind ?_ fun _=> ?_|with_reducible refine Le.cond ?_ ?_|with_reducible refine Le.ite ?_ ?_|with_reducible refine Le.thenS ?_ (fun _=> ?_) (fun _=> ?_)|with_reducible refine Le.loop (fun _=> ?_) _|with_reducible refine Le.loopL (fun _ _=> ?_) _ _|exact Le.refl _
def G8 (p1:(List Int))(p2:Map)(p3:Zone):Option Bool:=
  (I6 p1 p2 p3).bind fun v1=>some (decide (v1≥0))
theorem W4 (p1:(List Int))(p2:Map)(p3:Zone):Le (G8 p1 p2 p3) (D2 p1 p2 p3):=by
  unfold G8 D2
  repeat' first|with_reducible exact Le.refl _|with_reducible exact X9 _ _ _|with_reducible refine Le.bind ?_ fun _=> ?_|with_reducible refine Le.cond ?_ ?_|with_reducible refine Le.ite ?_ ?_|with_reducible refine Le.thenS ?_ (fun _=> ?_) (fun _=> ?_)|with_reducible refine Le.loop (fun _=> ?_) _|with_reducible refine Le.loopL (fun _ _=> ?_) _ _|exact Le.refl _
def A0y (p1:Zone)(p2:Map)(p3:Int)(p4:(List Int)):Option Bool:=
  (A4f p2 p1 p3).bind fun v1=>((cond v1 (G8 p4 p2 p1) (some default))).bind fun v2=>some (v1&& (!v2))
theorem A6v (p1:Zone)(p2:Map)(p3:Int)(p4:(List Int)):Le (A0y p1 p2 p3 p4) (T7 p1 p2 p3 p4):=by
  unfold A0y T7
  repeat' first|with_reducible exact Le.refl _|with_reducible exact A7x _ _ _|with_reducible exact W4 _ _ _|with_reducible refine Le.bind ?_ fun _=> ?_|with_reducible refine Le.cond ?_ ?_|with_reducible refine Le.ite ?_ ?_|with_reducible refine Le.thenS ?_ (fun _=> ?_) (fun _=> ?_)|with_reducible refine Le.loop (fun _=> ?_) _|with_reducible refine Le.loopL (fun _ _=> ?_) _ _|exact Le.refl _
def G2 (p1:(List Zone))(p2:Map)(p3:Int)(p4:(List Int))(x1:Int):Option (Stp Int (Sum Unit Int)):=
  cond (decide (x1< (p1.length:Int))) ((F1 p1 x1).bind fun v1=>(A0y v1 p2 p3 p4).bind fun v2=>cond v2 (some (.out (.inr x1))) (some (.go (w64 (x1+1))))) (some (.out (.inl ())))
theorem V8 (p1:(List Zone))(p2:Map)(p3:Int)(p4:(List Int))(x1:Int):Le (G2 p1 p2 p3 p4 x1) (C7 p1 p2 p3 p4 x1):=by
  unfold G2 C7
  repeat' first|with_reducible exact Le.refl _|with_reducible exact A6v _ _ _ _|with_reducible refine Le.bind ?_ fun _=> ?_|with_reducible refine Le.cond ?_ ?_|with_reducible refine Le.ite ?_ ?_|with_reducible refine Le.thenS ?_ (fun _=> ?_) (fun _=> ?_)|with_reducible refine Le.loop (fun _=> ?_) _|with_reducible refine Le.loopL (fun _ _=> ?_) _ _|exact Le.refl _
def I0 (p1:(List Zone))(p2:Map)(p3:Int)(p4:(List Int)):Option Int:=
  thenS (X6 (G2 p1 p2 p3 p4) 0) (fun _=>some (-1)) (fun r=>some r)
theorem X5 (p1:(List Zone))(p2:Map)(p3:Int)(p4:(List Int)):Le (I0 p1 p2 p3 p4) (D6 p1 p2 p3 p4):=by
  unfold I0 D6
  repeat' first|with_reducible exact Le.refl _|with_reducible exact V8 _ _ _ _ _|with_reducible refine Le.bind ?_ fun _=> ?_|with_reducible refine Le.cond ?_ ?_|with_reducible refine Le.ite ?_ ?_|with_reducible refine Le.thenS ?_ (fun _=> ?_) (fun _=> ?_)|with_reducible refine Le.loop (fun _=> ?_) _|with_reducible refine Le.loopL (fun _ _=> ?_) _ _|exact Le.refl _
def G3 (p1:(List Zone))(p2:Map)(p3:Int)(p4:(List Int)):Option Bool:=
  (I0 p1 p2 p3 p4).bind fun v1=>some (decide (v1≥0))
theorem V9 (p1:(List Zone))(p2:Map)(p3:Int)(p4:(List Int)):Le (G3 p1 p2 p3 p4) (C8 p1 p2 p3 p4):=by
  unfold G3 C8
  repeat' first|with_reducible exact Le.refl _|with_reducible exact X5 _ _ _ _|with_reducible refine Le.bind ?_ fun _=> ?_|with_reducible refine Le.cond ?_ ?_|with_reducible refine Le.ite ?_ ?_|with_reducible refine Le.thenS ?_ (fun _=> ?_) (fun _=> ?_)|with_reducible refine Le.loop (fun _=> ?_) _|with_reducible refine Le.loopL (fun _ _=> ?_) _ _|exact Le.refl _
def A45 (p1:Map)(x1:((List Clash)×Int)):Option (Stp ((List Clash)×Int) (List Clash)):=
  cond (decide (x1.2< (p1.Lanes.length:Int))) ((A2j p1 x1.2).bind fun v1=>(G3 p1.Zones p1 x1.2 v1).bind fun v2=>cond ((decide ((v1.length:Int)>1))&& (!v2)) ((A9u x1.1 [(Clash.mk 1 (-1) x1.2 (-1))]).bind fun v3=>some (.go (v3,(w64 (x1.2+1))))) (some (.go (x1.1,(w64 (x1.2+1)))))) (some (.out x1.1))
theorem B0d (p1:Map)(x1:((List Clash)×Int)):Le (A45 p1 x1) (A0l p1 x1):=by
  unfold A45 A0l
  repeat' first|with_reducible exact Le.refl _|with_reducible exact A4y _ _|with_reducible exact V9 _ _ _ _|with_reducible refine Le.bind ?_ fun _=> ?_|with_reducible refine Le.cond ?_ ?_|with_reducible refine Le.ite ?_ ?_|with_reducible refine Le.thenS ?_ (fun _=> ?_) (fun _=> ?_)|with_reducible refine Le.loop (fun _=> ?_) _|with_reducible refine Le.loopL (fun _ _=> ?_) _ _|exact Le.refl _
def A6w (p1:Map):Option (List Clash):=
  (X6 (A45 p1) ([],0)).bind fun y1=>some y1
theorem B3f (p1:Map):Le (A6w p1) (A3k p1):=by
  unfold A6w A3k
  repeat' first|with_reducible exact Le.refl _|with_reducible exact B0d _ _|with_reducible refine Le.bind ?_ fun _=> ?_|with_reducible refine Le.cond ?_ ?_|with_reducible refine Le.ite ?_ ?_|with_reducible refine Le.thenS ?_ (fun _=> ?_) (fun _=> ?_)|with_reducible refine Le.loop (fun _=> ?_) _|with_reducible refine Le.loopL (fun _ _=> ?_) _ _|exact Le.refl _
def A46 (p1:Map)(x1:((List Clash)×Int))(v1:Zone)(x2:((List Clash)×Int)):Option (Stp ((List Clash)×Int) (List Clash)):=
  cond (decide (x2.2< (v1.Parts.length:Int))) ((F1 v1.Parts x2.2).bind fun v2=>(A3p p1 v1 v2.Lane_).bind fun v3=>((cond (!v3) (A4f p1 v1 v2.Lane_) (some default))).bind fun v4=>cond ((!v3)&& (!v4)) ((A9u x2.1 [(Clash.mk 2 x1.2 v2.Lane_ (-1))]).bind fun v5=>some (.go (v5,(w64 (x2.2+1))))) (some (.go (x2.1,(w64 (x2.2+1)))))) (some (.out x2.1))
theorem B0e (p1:Map)(x1:((List Clash)×Int))(v1:Zone)(x2:((List Clash)×Int)):Le (A46 p1 x1 v1 x2) (A0m p1 x1 v1 x2):=by
  unfold A46 A0m
  repeat' first|with_reducible exact Le.refl _|with_reducible exact A5p _ _ _|with_reducible exact A7x _ _ _|with_reducible refine Le.bind ?_ fun _=> ?_|with_reducible refine Le.cond ?_ ?_|with_reducible refine Le.ite ?_ ?_|with_reducible refine Le.thenS ?_ (fun _=> ?_) (fun _=> ?_)|with_reducible refine Le.loop (fun _=> ?_) _|with_reducible refine Le.loopL (fun _ _=> ?_) _ _|exact Le.refl _
def A47 (p1:Map)(x1:((List Clash)×Int)):Option (Stp ((List Clash)×Int) (List Clash)):=
  cond (decide (x1.2< (p1.Zones.length:Int))) ((F1 p1.Zones x1.2).bind fun v1=>(X6 (A46 p1 x1 v1) (x1.1,0)).bind fun y2=>some (.go (y2,(w64 (x1.2+1))))) (some (.out x1.1))
theorem B0f (p1:Map)(x1:((List Clash)×Int)):Le (A47 p1 x1) (A0n p1 x1):=by
  unfold A47 A0n
  repeat' first|with_reducible exact Le.refl _|with_reducible exact B0e _ _ _ _|with_reducible refine Le.bind ?_ fun _=> ?_|with_reducible refine Le.cond ?_ ?_|with_reducible refine Le.ite ?_ ?_|with_reducible refine Le.thenS ?_ (fun _=> ?_) (fun _=> ?_)|with_reducible refine Le.loop (fun _=> ?_) _|with_reducible refine Le.loopL (fun _ _=> ?_) _ _|exact Le.refl _
def A6x (p1:Map):Option (List Clash):=
  (X6 (A47 p1) ([],0)).bind fun y1=>some y1
theorem B3g (p1:Map):Le (A6x p1) (A3l p1):=by
  unfold A6x A3l
  repeat' first|with_reducible exact Le.refl _|with_reducible exact B0f _ _|with_reducible refine Le.bind ?_ fun _=> ?_|with_reducible refine Le.cond ?_ ?_|with_reducible refine Le.ite ?_ ?_|with_reducible refine Le.thenS ?_ (fun _=> ?_) (fun _=> ?_)|with_reducible refine Le.loop (fun _=> ?_) _|with_reducible refine Le.loopL (fun _ _=> ?_) _ _|exact Le.refl _
def A31 (p1:Map)(p2:Zone)(x1:((List Int)×Int)):Option (Stp ((List Int)×Int) (List Int)):=
  cond (decide (x1.2< (p2.Parts.length:Int))) ((F1 p2.Parts x1.2).bind fun v1=>(A3p p1 p2 v1.Lane_).bind fun v2=>cond v2 ((A9u x1.1 [v1.Lane_]).bind fun v3=>some (.go (v3,(w64 (x1.2+1))))) (some (.go (x1.1,(w64 (x1.2+1)))))) (some (.out x1.1))
theorem A9f (p1:Map)(p2:Zone)(x1:((List Int)×Int)):Le (A31 p1 p2 x1) (A02 p1 p2 x1):=by
  unfold A31 A02
  repeat' first|with_reducible exact Le.refl _|with_reducible exact A5p _ _ _|with_reducible refine Le.bind ?_ fun _=> ?_|with_reducible refine Le.cond ?_ ?_|with_reducible refine Le.ite ?_ ?_|with_reducible refine Le.thenS ?_ (fun _=> ?_) (fun _=> ?_)|with_reducible refine Le.loop (fun _=> ?_) _|with_reducible refine Le.loopL (fun _ _=> ?_) _ _|exact Le.refl _
def A3c (p1:Map)(p2:Zone):Option (List Int):=
  (X6 (A31 p1 p2) ([],0)).bind fun y1=>some y1
theorem A74 (p1:Map)(p2:Zone):Le (A3c p1 p2) (Z5 p1 p2):=by
  unfold A3c Z5
  repeat' first|with_reducible exact Le.refl _|with_reducible exact A9f _ _ _|with_reducible refine Le.bind ?_ fun _=> ?_|with_reducible refine Le.cond ?_ ?_|with_reducible refine Le.ite ?_ ?_|with_reducible refine Le.thenS ?_ (fun _=> ?_) (fun _=> ?_)|with_reducible refine Le.loop (fun _=> ?_) _|with_reducible refine Le.loopL (fun _ _=> ?_) _ _|exact Le.refl _
def A5q (p1:Zone)(p2:Int)(p3:Int):Option Bool:=
  (A30 p1 p2).bind fun v1=>(A30 p1 p3).bind fun v2=>some ((p1.Signal_==0)&& (v1.1.Rank==v2.1.Rank))
theorem B1u (p1:Zone)(p2:Int)(p3:Int):Le (A5q p1 p2 p3) (A2e p1 p2 p3):=by
  unfold A5q A2e
  repeat' first|with_reducible exact Le.refl _|with_reducible exact A6t _ _|with_reducible refine Le.bind ?_ fun _=> ?_|with_reducible refine Le.cond ?_ ?_|with_reducible refine Le.ite ?_ ?_|with_reducible refine Le.thenS ?_ (fun _=> ?_) (fun _=> ?_)|with_reducible refine Le.loop (fun _=> ?_) _|with_reducible refine Le.loopL (fun _ _=> ?_) _ _|exact Le.refl _
def S9 (p2:Int)(x1:((List Clash)×Int))(v1:Zone)(v3:Int)(v4:List Int)(x3:((List Clash)×Int)):Option (Stp ((List Clash)×Int) (List Clash)):=
  cond (decide (x3.2< (v4.length:Int))) ((F1 v4 x3.2).bind fun v5=>(A5q v1 v3 v5).bind fun v6=>cond v6 ((A9u x3.1 [(Clash.mk p2 x1.2 v3 v5)]).bind fun v7=>some (.go (v7,(w64 (x3.2+1))))) (some (.go (x3.1,(w64 (x3.2+1)))))) (some (.out x3.1))
theorem A32 (p2:Int)(x1:((List Clash)×Int))(v1:Zone)(v3:Int)(v4:List Int)(x3:((List Clash)×Int)):Le (S9 p2 x1 v1 v3 v4 x3) (K9 p2 x1 v1 v3 v4 x3):=by
  unfold S9 K9
  repeat' first|with_reducible exact Le.refl _|with_reducible exact B1u _ _ _|with_reducible refine Le.bind ?_ fun _=> ?_|with_reducible refine Le.cond ?_ ?_|with_reducible refine Le.ite ?_ ?_|with_reducible refine Le.thenS ?_ (fun _=> ?_) (fun _=> ?_)|with_reducible refine Le.loop (fun _=> ?_) _|with_reducible refine Le.loopL (fun _ _=> ?_) _ _|exact Le.refl _
def T0 (p2:Int)(x1:((List Clash)×Int))(v1:Zone)(v2:(List Int))(x2:((List Clash)×Int)):Option (Stp ((List Clash)×Int) (List Clash)):=
  cond (decide (x2.2< (v2.length:Int))) ((F1 v2 x2.2).bind fun v3=>(C39 v2 (w64 (x2.2+1)) (v2.length:Int)).bind fun v4=>(X6 (S9 p2 x1 v1 v3 v4) (x2.1,0)).bind fun y3=>some (.go (y3,(w64 (x2.2+1))))) (some (.out x2.1))
theorem A33 (p2:Int)(x1:((List Clash)×Int))(v1:Zone)(v2:(List Int))(x2:((List Clash)×Int)):Le (T0 p2 x1 v1 v2 x2) (L0 p2 x1 v1 v2 x2):=by
  unfold T0 L0
  repeat' first|with_reducible exact Le.refl _|with_reducible exact A32 _ _ _ _ _ _|with_reducible refine Le.bind ?_ fun _=> ?_|with_reducible refine Le.cond ?_ ?_|with_reducible refine Le.ite ?_ ?_|with_reducible refine Le.thenS ?_ (fun _=> ?_) (fun _=> ?_)|with_reducible refine Le.loop (fun _=> ?_) _|with_reducible refine Le.loopL (fun _ _=> ?_) _ _|exact Le.refl _
def T1 (p1:Map)(p2:Int)(x1:((List Clash)×Int)):Option (Stp ((List Clash)×Int) (List Clash)):=
  cond (decide (x1.2< (p1.Zones.length:Int))) ((F1 p1.Zones x1.2).bind fun v1=>(A3c p1 v1).bind fun v2=>(X6 (T0 p2 x1 v1 v2) (x1.1,0)).bind fun y2=>some (.go (y2,(w64 (x1.2+1))))) (some (.out x1.1))
theorem A34 (p1:Map)(p2:Int)(x1:((List Clash)×Int)):Le (T1 p1 p2 x1) (L3 p1 p2 x1):=by
  unfold T1 L3
  repeat' first|with_reducible exact Le.refl _|with_reducible exact A74 _ _|with_reducible exact A33 _ _ _ _ _|with_reducible refine Le.bind ?_ fun _=> ?_|with_reducible refine Le.cond ?_ ?_|with_reducible refine Le.ite ?_ ?_|with_reducible refine Le.thenS ?_ (fun _=> ?_) (fun _=> ?_)|with_reducible refine Le.loop (fun _=> ?_) _|with_reducible refine Le.loopL (fun _ _=> ?_) _ _|exact Le.refl _
def W5 (p1:Map)(p2:Int):Option (List Clash):=
  (X6 (T1 p1 p2) ([],0)).bind fun y1=>some y1
theorem A4g (p1:Map)(p2:Int):Le (W5 p1 p2) (O2 p1 p2):=by
  unfold W5 O2
  repeat' first|with_reducible exact Le.refl _|with_reducible exact A34 _ _ _|with_reducible refine Le.bind ?_ fun _=> ?_|with_reducible refine Le.cond ?_ ?_|with_reducible refine Le.ite ?_ ?_|with_reducible refine Le.thenS ?_ (fun _=> ?_) (fun _=> ?_)|with_reducible refine Le.loop (fun _=> ?_) _|with_reducible refine Le.loopL (fun _ _=> ?_) _ _|exact Le.refl _
def A7z (p1:Map):Option (List Clash):=
  (W5 p1 3).bind fun v1=>some v1
theorem B43 (p1:Map):Le (A7z p1) (A4r p1):=by
  unfold A7z A4r
  repeat' first|with_reducible exact Le.refl _|with_reducible exact A4g _ _|with_reducible refine Le.bind ?_ fun _=> ?_|with_reducible refine Le.cond ?_ ?_|with_reducible refine Le.ite ?_ ?_|with_reducible refine Le.thenS ?_ (fun _=> ?_) (fun _=> ?_)|with_reducible refine Le.loop (fun _=> ?_) _|with_reducible refine Le.loopL (fun _ _=> ?_) _ _|exact Le.refl _
def A0z (p1:Phase)(p2:Int)(p3:Int):Option Bool:=
  (L5 p1.Green p2).bind fun v1=>((cond v1 (L5 p1.Green p3) (some default))).bind fun v2=>some (v1&&v2)
theorem A6y (p1:Phase)(p2:Int)(p3:Int):Le (A0z p1 p2 p3) (T8 p1 p2 p3):=by
  unfold A0z T8
  repeat' first|with_reducible exact Le.refl _|with_reducible exact W2 _ _|with_reducible refine Le.bind ?_ fun _=> ?_|with_reducible refine Le.cond ?_ ?_|with_reducible refine Le.ite ?_ ?_|with_reducible refine Le.thenS ?_ (fun _=> ?_) (fun _=> ?_)|with_reducible refine Le.loop (fun _=> ?_) _|with_reducible refine Le.loopL (fun _ _=> ?_) _ _|exact Le.refl _
def F5 (p1:(List Phase))(p2:Int)(p3:Int)(x1:Int):Option (Stp Int (Sum Unit Int)):=
  cond (decide (x1< (p1.length:Int))) ((F1 p1 x1).bind fun v1=>(A0z v1 p2 p3).bind fun v2=>cond v2 (some (.out (.inr x1))) (some (.go (w64 (x1+1))))) (some (.out (.inl ())))
theorem U5 (p1:(List Phase))(p2:Int)(p3:Int)(x1:Int):Le (F5 p1 p2 p3 x1) (C4 p1 p2 p3 x1):=by
  unfold F5 C4
  repeat' first|with_reducible exact Le.refl _|with_reducible exact A6y _ _ _|with_reducible refine Le.bind ?_ fun _=> ?_|with_reducible refine Le.cond ?_ ?_|with_reducible refine Le.ite ?_ ?_|with_reducible refine Le.thenS ?_ (fun _=> ?_) (fun _=> ?_)|with_reducible refine Le.loop (fun _=> ?_) _|with_reducible refine Le.loopL (fun _ _=> ?_) _ _|exact Le.refl _
def G4 (p1:(List Phase))(p2:Int)(p3:Int):Option Int:=
  thenS (X6 (F5 p1 p2 p3) 0) (fun _=>some (-1)) (fun r=>some r)
theorem W0 (p1:(List Phase))(p2:Int)(p3:Int):Le (G4 p1 p2 p3) (C9 p1 p2 p3):=by
  unfold G4 C9
  repeat' first|with_reducible exact Le.refl _|with_reducible exact U5 _ _ _ _|with_reducible refine Le.bind ?_ fun _=> ?_|with_reducible refine Le.cond ?_ ?_|with_reducible refine Le.ite ?_ ?_|with_reducible refine Le.thenS ?_ (fun _=> ?_) (fun _=> ?_)|with_reducible refine Le.loop (fun _=> ?_) _|with_reducible refine Le.loopL (fun _ _=> ?_) _ _|exact Le.refl _
def F6 (p1:(List Phase))(p2:Int)(p3:Int):Option Bool:=
  (G4 p1 p2 p3).bind fun v1=>some (decide (v1≥0))
theorem U6 (p1:(List Phase))(p2:Int)(p3:Int):Le (F6 p1 p2 p3) (C5 p1 p2 p3):=by
  unfold F6 C5
  repeat' first|with_reducible exact Le.refl _|with_reducible exact W0 _ _ _|with_reducible refine Le.bind ?_ fun _=> ?_|with_reducible refine Le.cond ?_ ?_|with_reducible refine Le.ite ?_ ?_|with_reducible refine Le.thenS ?_ (fun _=> ?_) (fun _=> ?_)|with_reducible refine Le.loop (fun _=> ?_) _|with_reducible refine Le.loopL (fun _ _=> ?_) _ _|exact Le.refl _
def A35 (p1:Zone)(p2:Int)(p3:Int)(p4:Map):Option Bool:=
  ((cond (decide (p1.Signal_>0)) (F1 p4.Signals (w64 (p1.Signal_ - 1))) (some default))).bind fun v1=>((cond (decide (p1.Signal_>0)) (F6 v1.Phases p2 p3) (some default))).bind fun v2=>some ((decide (p1.Signal_>0))&&v2)
theorem A9g (p1:Zone)(p2:Int)(p3:Int)(p4:Map):Le (A35 p1 p2 p3 p4) (W7 p1 p2 p3 p4):=by
  unfold A35 W7
  repeat' first|with_reducible exact Le.refl _|with_reducible exact U6 _ _ _|with_reducible refine Le.bind ?_ fun _=> ?_|with_reducible refine Le.cond ?_ ?_|with_reducible refine Le.ite ?_ ?_|with_reducible refine Le.thenS ?_ (fun _=> ?_) (fun _=> ?_)|with_reducible refine Le.loop (fun _=> ?_) _|with_reducible refine Le.loopL (fun _ _=> ?_) _ _|exact Le.refl _
def Q9 (p2:Int)(p3:Map)(x1:((List Clash)×Int))(v1:Zone)(v3:Int)(v4:List Int)(x3:((List Clash)×Int)):Option (Stp ((List Clash)×Int) (List Clash)):=
  cond (decide (x3.2< (v4.length:Int))) ((F1 v4 x3.2).bind fun v5=>(A35 v1 v3 v5 p3).bind fun v6=>cond v6 ((A9u x3.1 [(Clash.mk p2 x1.2 v3 v5)]).bind fun v7=>some (.go (v7,(w64 (x3.2+1))))) (some (.go (x3.1,(w64 (x3.2+1)))))) (some (.out x3.1))
theorem A2l (p2:Int)(p3:Map)(x1:((List Clash)×Int))(v1:Zone)(v3:Int)(v4:List Int)(x3:((List Clash)×Int)):Le (Q9 p2 p3 x1 v1 v3 v4 x3) (J1 p2 p3 x1 v1 v3 v4 x3):=by
  unfold Q9 J1
  repeat' first|with_reducible exact Le.refl _|with_reducible exact A9g _ _ _ _|with_reducible refine Le.bind ?_ fun _=> ?_|with_reducible refine Le.cond ?_ ?_|with_reducible refine Le.ite ?_ ?_|with_reducible refine Le.thenS ?_ (fun _=> ?_) (fun _=> ?_)|with_reducible refine Le.loop (fun _=> ?_) _|with_reducible refine Le.loopL (fun _ _=> ?_) _ _|exact Le.refl _
def R0 (p2:Int)(p3:Map)(x1:((List Clash)×Int))(v1:Zone)(v2:(List Int))(x2:((List Clash)×Int)):Option (Stp ((List Clash)×Int) (List Clash)):=
  cond (decide (x2.2< (v2.length:Int))) ((F1 v2 x2.2).bind fun v3=>(C39 v2 (w64 (x2.2+1)) (v2.length:Int)).bind fun v4=>(X6 (Q9 p2 p3 x1 v1 v3 v4) (x2.1,0)).bind fun y3=>some (.go (y3,(w64 (x2.2+1))))) (some (.out x2.1))
theorem A2m (p2:Int)(p3:Map)(x1:((List Clash)×Int))(v1:Zone)(v2:(List Int))(x2:((List Clash)×Int)):Le (R0 p2 p3 x1 v1 v2 x2) (J2 p2 p3 x1 v1 v2 x2):=by
  unfold R0 J2
  repeat' first|with_reducible exact Le.refl _|with_reducible exact A2l _ _ _ _ _ _ _|with_reducible refine Le.bind ?_ fun _=> ?_|with_reducible refine Le.cond ?_ ?_|with_reducible refine Le.ite ?_ ?_|with_reducible refine Le.thenS ?_ (fun _=> ?_) (fun _=> ?_)|with_reducible refine Le.loop (fun _=> ?_) _|with_reducible refine Le.loopL (fun _ _=> ?_) _ _|exact Le.refl _
def R1 (p1:Map)(p2:Int)(p3:Map)(x1:((List Clash)×Int)):Option (Stp ((List Clash)×Int) (List Clash)):=
  cond (decide (x1.2< (p1.Zones.length:Int))) ((F1 p1.Zones x1.2).bind fun v1=>(A3c p1 v1).bind fun v2=>(X6 (R0 p2 p3 x1 v1 v2) (x1.1,0)).bind fun y2=>some (.go (y2,(w64 (x1.2+1))))) (some (.out x1.1))
theorem A2n (p1:Map)(p2:Int)(p3:Map)(x1:((List Clash)×Int)):Le (R1 p1 p2 p3 x1) (J3 p1 p2 p3 x1):=by
  unfold R1 J3
  repeat' first|with_reducible exact Le.refl _|with_reducible exact A74 _ _|with_reducible exact A2m _ _ _ _ _ _|with_reducible refine Le.bind ?_ fun _=> ?_|with_reducible refine Le.cond ?_ ?_|with_reducible refine Le.ite ?_ ?_|with_reducible refine Le.thenS ?_ (fun _=> ?_) (fun _=> ?_)|with_reducible refine Le.loop (fun _=> ?_) _|with_reducible refine Le.loopL (fun _ _=> ?_) _ _|exact Le.refl _
def U7 (p1:Map)(p2:Int)(p3:Map):Option (List Clash):=
  (X6 (R1 p1 p2 p3) ([],0)).bind fun y1=>some y1
theorem A3q (p1:Map)(p2:Int)(p3:Map):Le (U7 p1 p2 p3) (M2 p1 p2 p3):=by
  unfold U7 M2
  repeat' first|with_reducible exact Le.refl _|with_reducible exact A2n _ _ _ _|with_reducible refine Le.bind ?_ fun _=> ?_|with_reducible refine Le.cond ?_ ?_|with_reducible refine Le.ite ?_ ?_|with_reducible refine Le.thenS ?_ (fun _=> ?_) (fun _=> ?_)|with_reducible refine Le.loop (fun _=> ?_) _|with_reducible refine Le.loopL (fun _ _=> ?_) _ _|exact Le.refl _
def A6z (p1:Map):Option (List Clash):=
  (U7 p1 4 p1).bind fun v1=>some v1
theorem B3h (p1:Map):Le (A6z p1) (A3n p1):=by
  unfold A6z A3n
  repeat' first|with_reducible exact Le.refl _|with_reducible exact A3q _ _ _|with_reducible refine Le.bind ?_ fun _=> ?_|with_reducible refine Le.cond ?_ ?_|with_reducible refine Le.ite ?_ ?_|with_reducible refine Le.thenS ?_ (fun _=> ?_) (fun _=> ?_)|with_reducible refine Le.loop (fun _=> ?_) _|with_reducible refine Le.loopL (fun _ _=> ?_) _ _|exact Le.refl _
def B18 (p1:Map):Option Bool:=
  (A0v p1).bind fun v1=>((cond (v1==0) (A6w p1) (some default))).bind fun v2=>((cond (v1==0) (A6x p1) (some default))).bind fun v3=>((cond (v1==0) (A7z p1) (some default))).bind fun v4=>((cond (v1==0) (A6z p1) (some default))).bind fun v5=>some ((v1==0)&& ((w64 ((w64 ((w64 ((v2.length:Int)+ (v3.length:Int)))+ (v4.length:Int)))+ (v5.length:Int)))==0))
theorem B71 (p1:Map):Le (B18 p1) (A7q p1):=by
  unfold B18 A7q
  repeat' first|with_reducible exact Le.refl _|with_reducible exact A1p _|with_reducible exact B3f _|with_reducible exact B3g _|with_reducible exact B43 _|with_reducible exact B3h _|with_reducible refine Le.bind ?_ fun _=> ?_|with_reducible refine Le.cond ?_ ?_|with_reducible refine Le.ite ?_ ?_|with_reducible refine Le.thenS ?_ (fun _=> ?_) (fun _=> ?_)|with_reducible refine Le.loop (fun _=> ?_) _|with_reducible refine Le.loopL (fun _ _=> ?_) _ _|exact Le.refl _
def B0g (p1:Map)(p2:Int):Option Bool:=
  ((cond ((decide (p2≥0))&& (decide (p2< (p1.Lanes.length:Int)))) (A0v p1) (some default))).bind fun v1=>some (((decide (p2≥0))&& (decide (p2< (p1.Lanes.length:Int))))&& (v1==0))
theorem B3i (p1:Map)(p2:Int):Le (B0g p1 p2) (A3b p1 p2):=by
  unfold B0g A3b
  repeat' first|with_reducible exact Le.refl _|with_reducible exact A1p _|with_reducible refine Le.bind ?_ fun _=> ?_|with_reducible refine Le.cond ?_ ?_|with_reducible refine Le.ite ?_ ?_|with_reducible refine Le.thenS ?_ (fun _=> ?_) (fun _=> ?_)|with_reducible refine Le.loop (fun _=> ?_) _|with_reducible refine Le.loopL (fun _ _=> ?_) _ _|exact Le.refl _
def A70 (p1:Map)(p2:Int):Option Int:=
  (B0g p1 p2).bind fun v1=>cond (!v1) (some 0) ((A0q p1 p2).bind fun v2=>some v2)
theorem B3j (p1:Map)(p2:Int):Le (A70 p1 p2) (A3o p1 p2):=by
  unfold A70 A3o
  repeat' first|with_reducible exact Le.refl _|with_reducible exact B3i _ _|with_reducible exact A1a _ _|with_reducible refine Le.bind ?_ fun _=> ?_|with_reducible refine Le.cond ?_ ?_|with_reducible refine Le.ite ?_ ?_|with_reducible refine Le.thenS ?_ (fun _=> ?_) (fun _=> ?_)|with_reducible refine Le.loop (fun _=> ?_) _|with_reducible refine Le.loopL (fun _ _=> ?_) _ _|exact Le.refl _
def A53 (p1:Map)(p2:Int)(p3:Int)(p4:Int)(x1:(Int×Int)):Option (Stp (Int×Int) Int):=
  cond (decide (x1.2< (p1.Works.length:Int))) ((F1 p1.Works x1.2).bind fun v5=>((cond (v5.Lane_==p2) (O7 p3 v5.From v5.To) (some default))).bind fun v6=>((cond ((v5.Lane_==p2)&&v6) (O7 p4 v5.Begin (w64 (v5.End - 1))) (some default))).bind fun v7=>cond (((v5.Lane_==p2)&&v6)&&v7) (some (.go ((mm2 false x1.1 v5.Limit),(w64 (x1.2+1))))) (some (.go (x1.1,(w64 (x1.2+1)))))) (some (.out x1.1))
theorem B19 (p1:Map)(p2:Int)(p3:Int)(p4:Int)(x1:(Int×Int)):Le (A53 p1 p2 p3 p4 x1) (A1o p1 p2 p3 p4 x1):=by
  unfold A53 A1o
  repeat' first|with_reducible exact Le.refl _|with_reducible exact S3 _ _ _|with_reducible refine Le.bind ?_ fun _=> ?_|with_reducible refine Le.cond ?_ ?_|with_reducible refine Le.ite ?_ ?_|with_reducible refine Le.thenS ?_ (fun _=> ?_) (fun _=> ?_)|with_reducible refine Le.loop (fun _=> ?_) _|with_reducible refine Le.loopL (fun _ _=> ?_) _ _|exact Le.refl _
def A80 (p1:Map)(p2:Int)(p3:Int)(p4:Int):Option Int:=
  (B0g p1 p2).bind fun v1=>((cond (!(!v1)) (A0q p1 p2) (some default))).bind fun v2=>((cond (!(!v1)) (O7 p3 0 v2) (some default))).bind fun v3=>cond ((!v1)||(!v3)) (some 0) ((F1 p1.Lanes p2).bind fun v4=>(X6 (A53 p1 p2 p3 p4) (v4.Limit,0)).bind fun y1=>some y1)
theorem B44 (p1:Map)(p2:Int)(p3:Int)(p4:Int):Le (A80 p1 p2 p3 p4) (A4t p1 p2 p3 p4):=by
  unfold A80 A4t
  repeat' first|with_reducible exact Le.refl _|with_reducible exact B3i _ _|with_reducible exact A1a _ _|with_reducible exact S3 _ _ _|with_reducible exact B19 _ _ _ _ _|with_reducible refine Le.bind ?_ fun _=> ?_|with_reducible refine Le.cond ?_ ?_|with_reducible refine Le.ite ?_ ?_|with_reducible refine Le.thenS ?_ (fun _=> ?_) (fun _=> ?_)|with_reducible refine Le.loop (fun _=> ?_) _|with_reducible refine Le.loopL (fun _ _=> ?_) _ _|exact Le.refl _
def B1j:Option Bool:=
  (B11).bind fun v1=>(A7w v1 [0] 60000).bind fun v2=>(A0v v1).bind fun v3=>((cond (v3==0) (B18 v1) (some default))).bind fun v4=>((cond (((((v3==0)&&v4)&& (v2.1==0))&& (v2.2.1==60000))&&v2.2.2) (A70 v1 1) (some default))).bind fun v5=>((cond ((((((v3==0)&&v4)&& (v2.1==0))&& (v2.2.1==60000))&&v2.2.2)&& (v5==100000)) (A80 v1 0 10 5) (some default))).bind fun v6=>some (((((((v3==0)&&v4)&& (v2.1==0))&& (v2.2.1==60000))&&v2.2.2)&& (v5==100000))&& (v6==1500))
theorem B45:Le (B1j) (A1x):=by
  unfold B1j A1x
  repeat' first|with_reducible exact Le.refl _|with_reducible exact B70|with_reducible exact B41 _ _ _|with_reducible exact A1p _|with_reducible exact B71 _|with_reducible exact B3j _ _|with_reducible exact B44 _ _ _ _|with_reducible refine Le.bind ?_ fun _=> ?_|with_reducible refine Le.cond ?_ ?_|with_reducible refine Le.ite ?_ ?_|with_reducible refine Le.thenS ?_ (fun _=> ?_) (fun _=> ?_)|with_reducible refine Le.loop (fun _=> ?_) _|with_reducible refine Le.loopL (fun _ _=> ?_) _ _|exact Le.refl _
end Go.Abs.Roads
namespace Go.Abs.Roads
open Go Go.Abs
theorem A10 (n:Int): ∃y,A14 n=some (y,y*y==n)∧0≤y∧y≤67108864∧(∀m,0≤m→m<y→m*m<n)∧(y=67108864∨n≤y*y):=by
  have key:=C4k (f:=Z3 n) (fun x=>0≤x.1∧x.1≤x.2∧x.2≤67108864∧(∀m,0≤m→m<x.1→m*m<n)∧(x.2=67108864∨n≤x.2*x.2)) (fun x=>(x.2 - x.1).toNat)
    (fun y=>0≤y∧y≤67108864∧(∀m,0≤m→m<y→m*m<n)∧(y=67108864∨n≤y*y)) (by
      rintro ⟨lo,hi⟩ ⟨h1,h2,h3,h4,h5⟩
      dsimp only at h1 h2 h3 h4 h5
      unfold Z3
      dsimp only
      by_cases hlt:lo<hi
      ·have e1:w64 (lo+hi)=lo+hi:=P1 (by omega)
       have e2:w64 ((lo+hi).tdiv 2)=(lo+hi) / 2:=by rw [Int.tdiv_eq_ediv_of_nonneg (by omega)];exact P1 (by omega)
       have hm:lo≤(lo+hi) / 2∧(lo+hi) / 2<hi:=by omega
       generalize hmid:(lo+hi) / 2=mid at*
       have hmm:mid*mid≤67108864*67108864:=C8i (by omega) (by omega)
       have hmm0:=B6l mid
       have e3:w64 (mid*mid)=mid*mid:=P1 (by omega)
       have e4:w64 (mid+1)=mid+1:=P1 (by omega)
       simp only [e1,e2,e3,e4,hlt,decide_true,cond_true]
       by_cases hc:mid*mid<n
       ·simp only [hc,decide_true,cond_true]
        refine ⟨_,rfl,⟨by omega,by omega,h3,fun m hm0 hm1=> ?_,h5⟩,by dsimp only;omega⟩
        rcases Int.lt_or_le m mid with q|q
        ·have:=Int.mul_le_mul (show m≤mid by omega) (show m≤mid by omega) hm0 (by omega);omega
        ·have:m=mid:=by dsimp only at hm1;omega
         subst this;exact hc
       ·simp only [hc,decide_false,cond_false]
        exact ⟨_,rfl,⟨h1,by dsimp only;omega,by dsimp only;omega,h4, .inr (by dsimp only;omega)⟩,by dsimp only;omega⟩
      ·simp only [hlt,decide_false,cond_false]
       obtain rfl:lo=hi:=by omega
       exact ⟨_,rfl,h1,h3,h4,h5⟩) (0,67108864) ⟨by decide,by decide,by decide,fun m h1 h2=>by dsimp only at h2;omega, .inl rfl⟩
  obtain ⟨y,hy,h1,h2,h3,h4⟩:=key
  refine ⟨y,?_,h1,h2,h3,h4⟩
  have hmm:y*y≤67108864*67108864:=C8i (by omega) (by omega)
  have hmm0:=B6l y
  unfold A14
  rw [hy,Option.bind_some,P1 (by omega)]
/-- The least number whose square is not less. -/
noncomputable def rt (n:Int):Int:=(A10 n).choose
theorem B0h (n:Int):A14 n=some (rt n,rt n*rt n==n):=(A10 n).choose_spec.1
theorem C2n (n:Int):0≤rt n:=(A10 n).choose_spec.2.1
theorem C8s (n m:Int)(h1:0≤m)(h2:m<rt n):m*m<n:=(A10 n).choose_spec.2.2.2.1 m h1 h2
theorem C8t (n:Int):rt n=67108864∨n≤rt n*rt n:=(A10 n).choose_spec.2.2.2.2
theorem C9v {l:Int}(h0:0≤l)(h1:l≤67108864):rt (l*l)=l:=by
  rcases Int.lt_trichotomy (rt (l*l)) l with q|q|q
  ·rcases C8t (l*l)with h|h
   ·omega
   ·have h2:=C2n (l*l)
    have:=Int.mul_lt_mul' (show rt (l*l)≤l by omega) q h2 (by omega);omega
  ·exact q
  ·have:=C8s (l*l) l h0 q;omega
end Go.Abs.Roads
namespace Go.Abs.Roads
open Go Go.Abs
def okS (p:Spot):Bool:=decide (-16777216≤p.X)&&decide (p.X≤16777216)&&decide (-16777216≤p.Y)&&decide (p.Y≤16777216)
theorem okS_iff {p:Spot}:okS p=true↔ -16777216≤p.X∧p.X≤16777216∧ -16777216≤p.Y∧p.Y≤16777216:=by simp [okS,and_assoc]
theorem C2o (p:Spot):((decide ((mm2 false p.X p.Y)< (-16777216)))||(decide ((mm2 true p.X p.Y)>16777216)))= !okS p:=by
  rw [C6w,C6v]
  cases h:okS p with
  |true=>have:=okS_iff.1 h;simp;omega
  |false=>
   have: ¬(-16777216≤p.X∧p.X≤16777216∧ -16777216≤p.Y∧p.Y≤16777216):=fun q=>by rw [okS_iff.2 q]at h;cases h
   simp;omega
theorem B5n (l:List Spot)(hl:l.length≤1000000): ∀(r:List Spot) (i:Nat),l.drop i=r→loop (U1 l) (i:Int)=some (if r.all okS then .inl ()else .inr false):=by
  intro r
  induction r with
  |nil=>
   intro i hi
   have:=A13 hi
   refine H9 ?_
   unfold U1
   simp only [show ¬(i:Int)<l.length by omega,decide_false,cond_false,List.all_nil,if_true]
  |cons p r ih=>
   intro i hi
   have hlt:=A1u hi
   have hstep:U1 l (i:Int)=if okS p then some (.go ((i+1:Nat):Int))else some (.out (.inr false)):=by
     unfold U1
     simp only [show (i:Int)<l.length by omega,decide_true,cond_true,A7f hi,Option.bind_some,C2o]
     cases h:okS p with
     |true=>simp only [Bool.not_true,cond_false,if_true];rw [P1 (by omega)];rfl
     |false=>simp
   cases h:okS p with
   |true=>
    rw [h,if_pos rfl]at hstep
    rw [Y1 hstep,ih (i+1) (T4 hi)]
    simp [h]
   |false=>
    rw [h]at hstep
    rw [H9 hstep]
    simp [h]
theorem B5o (l:List Spot)(hl:l.length≤1000000):A2w l=some (l.all okS):=by
  unfold A2w
  have:=B5n l hl l 0 (by simp)
  rw [show ((0:Nat):Int)=0 from rfl]at this
  rw [this]
  cases l.all okS<;>rfl
def vec (p q:Spot):CurveVector:=⟨q.X - p.X,q.Y - p.Y⟩
def A1q (v w:CurveVector):Int:=v.x*w.x+v.y*w.y
/-- A vector between valid spots. -/
def okV (v:CurveVector):Prop:= -33554432≤v.x∧v.x≤33554432∧ -33554432≤v.y∧v.y≤33554432
theorem C2p {p q:Spot}(hp:okS p=true)(hq:okS q=true):okV (vec p q):=by
  have:=okS_iff.1 hp;have:=okS_iff.1 hq
  unfold okV vec;dsimp only;omega
theorem B0i {p q:Spot}(hp:okS p=true)(hq:okS q=true):A22 p q=some (vec p q):=by
  have:=okS_iff.1 hp;have:=okS_iff.1 hq
  unfold A22 vec
  rw [P1 (by omega),P1 (by omega)]
theorem C8u {v w:CurveVector}(hv:okV v)(hw:okV w): -2251799813685248≤A1q v w∧A1q v w≤2251799813685248∧(-1125899906842624≤v.x*w.x∧v.x*w.x≤1125899906842624)∧ -1125899906842624≤v.y*w.y∧v.y*w.y≤1125899906842624:=by
  obtain ⟨a1,a2,a3,a4⟩:=hv
  obtain ⟨b1,b2,b3,b4⟩:=hw
  have h1:=C5n ⟨a1,a2⟩ ⟨b1,b2⟩
  have h2:=C5n ⟨a3,a4⟩ ⟨b3,b4⟩
  unfold A1q
  omega
theorem A81 {v w:CurveVector}(hv:okV v)(hw:okV w):O4 v w=some (A1q v w):=by
  have h:=C8u hv hw
  unfold O4
  rw [P1 (n:=v.x*w.x) (by omega),P1 (n:=v.y*w.y) (by omega),P1 (by unfold A1q at h;omega)]
  rfl
/-- The error of a chain of points, from a piece on; the piece ahead of it. -/
noncomputable def goM:Option CurveVector→List Spot→Int
  |last,p::q::r=>
   if rt (A1q (vec p q) (vec p q))*rt (A1q (vec p q) (vec p q))≠A1q (vec p q) (vec p q)then 3
   else if rt (A1q (vec p q) (vec p q))<1000∨rt (A1q (vec p q) (vec p q))>1048576 then 2
   else match last with
     |some u=>if A1q u (vec p q)≤0 then 12 else goM (some (vec p q)) (q::r)
     |none=>goM (some (vec p q)) (q::r)
  |_,_=>0
theorem B5p (last:Option CurveVector)(p q:Spot)(r:List Spot):goM last (p::q::r)=
    if rt (A1q (vec p q) (vec p q))*rt (A1q (vec p q) (vec p q))≠A1q (vec p q) (vec p q)then 3
    else if rt (A1q (vec p q) (vec p q))<1000∨rt (A1q (vec p q) (vec p q))>1048576 then 2
    else match last with
      |some u=>if A1q u (vec p q)≤0 then 12 else goM (some (vec p q)) (q::r)
      |none=>goM (some (vec p q)) (q::r):=by
  conv=>lhs;unfold goM
noncomputable def A3r (l:List Spot):Int:=if l.length<2 then 6 else if l.length>16 then 5 else if l.all okS then goM none l else 2
theorem B46 (c:Curve)(hl:c.Pts.length≤1000000)(hok:c.Pts.all okS=true): ∀(r:List Spot) (p:Spot) (i:Nat) (last:CurveVector),c.Pts.drop i=p::r→okV last→
    loop (R2 c) ((i:Int),last)=some (if goM (if i=0 then none else some last) (p::r)=0 then .inl ()else .inr (goM (if i=0 then none else some last) (p::r))):=by
  intro r
  induction r with
  |nil=>
   intro p i last hi hlast
   have hlt:=A1u hi
   have:=A13 (T4 hi)
   refine H9 ?_
   unfold R2
   dsimp only
   rw [P1 (n:=(c.Pts.length:Int) - 1) (by omega)]
   simp only [show ¬(i:Int)< (c.Pts.length:Int) - 1 by omega,decide_false,cond_false,goM,if_true]
  |cons q r ih=>
   intro p i last hi hlast
   have hlt:=A1u hi
   have hi1:=T4 hi
   have hlt1:=A1u hi1
   have hp:okS p=true:=List.all_eq_true.1 hok p (List.mem_of_mem_drop (i:=i) (by rw [hi];simp))
   have hq:okS q=true:=List.all_eq_true.1 hok q (List.mem_of_mem_drop (i:=i) (by rw [hi];simp))
   have hv:=C2p hp hq
   have hg1:F1 c.Pts ((i:Int)+1)=some q:=by have:=A7f hi1;simpa using this
   have hstep:R2 c ((i:Int),last)=
    if rt (A1q (vec p q) (vec p q))*rt (A1q (vec p q) (vec p q))≠A1q (vec p q) (vec p q)then some (.out (.inr 3))
    else if rt (A1q (vec p q) (vec p q))<1000∨rt (A1q (vec p q) (vec p q))>1048576 then some (.out (.inr 2))
    else if i≠0∧A1q last (vec p q)≤0 then some (.out (.inr 12))else some (.go (((i+1:Nat):Int),vec p q)):=by
     unfold R2
     dsimp only
     rw [P1 (n:=(c.Pts.length:Int) - 1) (by omega),P1 (n:=(i:Int)+1) (by omega)]
     simp only [show (i:Int)< (c.Pts.length:Int) - 1 by omega,decide_true,cond_true,A7f hi,hg1,Option.bind_some,B0i hp hq,A81 hv hv,B0h]
     by_cases h1:rt (A1q (vec p q) (vec p q))*rt (A1q (vec p q) (vec p q))=A1q (vec p q) (vec p q)
     ·simp only [h1,beq_self_eq_true,Bool.not_true,cond_false,ne_eq,not_true_eq_false,if_false]
      by_cases h2:rt (A1q (vec p q) (vec p q))<1000∨rt (A1q (vec p q) (vec p q))>1048576
      ·rw [if_pos h2]
       have:(decide (rt (A1q (vec p q) (vec p q))<1000)||decide (rt (A1q (vec p q) (vec p q))>1048576))=true:=by simpa using h2
       rw [this];rfl
      ·rw [if_neg h2]
       have:(decide (rt (A1q (vec p q) (vec p q))<1000)||decide (rt (A1q (vec p q) (vec p q))>1048576))=false:=by simpa using h2
       rw [this]
       simp only [cond_false]
       by_cases h3:i=0
       ·subst h3
        simp only [Int.natCast_zero,gt_iff_lt,Int.lt_irrefl,decide_false,cond_false,Bool.false_and,Option.bind_some,not_true_eq_false,false_and,if_false]
        rfl
       ·have h4:(i:Int)>0:=by omega
        simp only [h4,decide_true,cond_true,A81 hlast hv,Option.bind_some,Bool.true_and,h3,not_false_eq_true,true_and]
        by_cases h5:A1q last (vec p q)≤0<;>simp [h5]
     ·have:(rt (A1q (vec p q) (vec p q))*rt (A1q (vec p q) (vec p q))==A1q (vec p q) (vec p q))=false:=by simpa using h1
      simp only [this,Bool.not_false,cond_true,ne_eq,h1,not_false_eq_true,if_true]
   rw [B5p]
   by_cases h1:rt (A1q (vec p q) (vec p q))*rt (A1q (vec p q) (vec p q))≠A1q (vec p q) (vec p q)
   ·rw [if_pos h1]at hstep
    rw [H9 hstep,if_pos h1];rfl
   ·rw [if_neg h1]at hstep ⊢
    by_cases h2:rt (A1q (vec p q) (vec p q))<1000∨rt (A1q (vec p q) (vec p q))>1048576
    ·rw [if_pos h2]at hstep
     rw [H9 hstep,if_pos h2];rfl
    ·rw [if_neg h2]at hstep ⊢
     by_cases h3:i=0
     ·subst h3
      rw [if_neg (by simp)]at hstep
      rw [Y1 hstep,ih q (0+1) (vec p q) hi1 hv]
      simp
     ·by_cases h5:A1q last (vec p q)≤0
      ·rw [if_pos ⟨h3,h5⟩]at hstep
       rw [H9 hstep]
       simp [h3,h5]
      ·rw [if_neg (fun h=>h5 h.2)]at hstep
       rw [Y1 hstep,ih q (i+1) (vec p q) hi1 hv]
       simp [h3,h5]
theorem A8x (c:Curve)(hl:c.Pts.length≤1000000):A0e c=some (A3r c.Pts):=by
  unfold A0e A3r
  by_cases h1:c.Pts.length<2
  ·rw [if_pos h1,show decide ((c.Pts.length:Int)<2)=true by simp;omega];rfl
  ·rw [if_neg h1,show decide ((c.Pts.length:Int)<2)=false by simp;omega]
   simp only [cond_false]
   by_cases h2:c.Pts.length>16
   ·rw [if_pos h2,show decide ((c.Pts.length:Int)>16)=true by simp;omega];rfl
   ·rw [if_neg h2,show decide ((c.Pts.length:Int)>16)=false by simp;omega]
    simp only [cond_false,B5o c.Pts hl,Option.bind_some]
    cases h3:c.Pts.all okS with
    |false=>rfl
    |true=>
     simp only [Bool.not_true,cond_false,if_true]
     cases hp:c.Pts with
     |nil=>rw [hp]at h1;simp at h1
     |cons p r=>
      have:=B46 c hl h3 r p 0 ⟨0,0⟩ (by rw [hp];rfl) ⟨by decide,by decide,by decide,by decide⟩
      rw [if_pos rfl,show ((0:Nat):Int)=0 from rfl]at this
      rw [this]
      by_cases h4:goM none (p::r)=0
      ·rw [if_pos h4,h4];rfl
      ·rw [if_neg h4];rfl
end Go.Abs.Roads
namespace Go.Abs.Roads
open Go Go.Abs
/-- What a valid chain is. -/
inductive Good:Option CurveVector→List Spot→Prop
  |one (last:Option CurveVector) (p:Spot):Good last [p]
  |cons (last:Option CurveVector) (p q:Spot) (r:List Spot) (h1:rt (A1q (vec p q) (vec p q))*rt (A1q (vec p q) (vec p q))=A1q (vec p q) (vec p q)) (h2:1000≤rt (A1q (vec p q) (vec p q))) (h3:rt (A1q (vec p q) (vec p q))≤1048576)
     (h4: ∀u,last=some u→0<A1q u (vec p q)) (h:Good (some (vec p q)) (q::r)):Good last (p::q::r)
theorem B87: ∀(r:List Spot) (p:Spot) (last:Option CurveVector),goM last (p::r)=0→Good last (p::r):=by
  intro r
  induction r with
  |nil=>intro p last _;exact .one _ _
  |cons q r ih=>
   intro p last h
   rw [B5p]at h
   split at h
   ·cases h
   ·rename_i h1
    split at h
    ·cases h
    ·rename_i h2
     have h1:rt (A1q (vec p q) (vec p q))*rt (A1q (vec p q) (vec p q))=A1q (vec p q) (vec p q):=by simpa using h1
     cases last with
     |none=>exact .cons _ _ _ _ h1 (by omega) (by omega) (fun u hu=>by cases hu) (ih q _ h)
     |some u=>
      dsimp only at h
      split at h
      ·cases h
      ·exact .cons _ _ _ _ h1 (by omega) (by omega) (fun u' hu=>by cases hu;omega) (ih q _ h)
theorem B88 {last:Option CurveVector}{l:List Spot}(h:Good last l):goM last l=0:=by
  induction h with
  |one=>rfl
  |cons last p q r h1 h2 h3 h4 h ih=>
   rw [B5p,if_neg (by simpa using h1),if_neg (by omega)]
   cases last with
   |none=>exact ih
   |some u=>dsimp only;rw [if_neg (by have:=h4 u rfl;omega)];exact ih
structure Valid (l:List Spot):Prop where
  two:2≤l.length
  most:l.length≤16
  ok:l.all okS=true
  good:Good none l
theorem checkM_zero {l:List Spot}:A3r l=0↔Valid l:=by
  unfold A3r
  constructor
  ·intro h
   split at h
   ·cases h
   ·rename_i h1
    split at h
    ·cases h
    ·rename_i h2
     split at h
     ·rename_i h3
      cases l with
      |nil=>simp at h1
      |cons p r=>exact ⟨by omega,by omega,h3,B87 r p none h⟩
     ·cases h
  ·rintro ⟨h1,h2,h3,h4⟩
   rw [if_neg (by omega),if_neg (by omega),if_pos h3]
   exact B88 h4
end Go.Abs.Roads
namespace Go.Abs.Roads
open Go Go.Abs
/-- The pieces of a chain: the number, the piece. -/
noncomputable def A9h:Nat→Int→List Spot→List (Int×CurvePiece)
  |i,s,p::q::r=>((i:Int),⟨p,vec p q,rt (A1q (vec p q) (vec p q)),s⟩)::A9h (i+1) (w64 (s+rt (A1q (vec p q) (vec p q)))) (q::r)
  |_,_,_=> []
theorem B1k (i:Nat)(s:Int)(p q:Spot)(r:List Spot):A9h i s (p::q::r)=((i:Int),⟨p,vec p q,rt (A1q (vec p q) (vec p q)),s⟩)::A9h (i+1) (w64 (s+rt (A1q (vec p q) (vec p q)))) (q::r):=by conv=>lhs;unfold A9h
theorem B89 (pts:List Spot)(hok:pts.all okS=true): ∀(r:List Spot) (p:Spot) (i:Nat) (s:Int),pts.drop i=p::r→A2c pts r.length i s=some (A9h i s (p::r)):=by
  intro r
  induction r with
  |nil=>intro p i s _;rfl
  |cons q r ih=>
   intro p i s hi
   have hi1:=T4 hi
   have hp:okS p=true:=List.all_eq_true.1 hok p (List.mem_of_mem_drop (i:=i) (by rw [hi];simp))
   have hq:okS q=true:=List.all_eq_true.1 hok q (List.mem_of_mem_drop (i:=i) (by rw [hi];simp))
   have hv:=C2p hp hq
   have h0:pts[i]? =some p:=by have:=congrArg (fun z=>z[0]?) hi;simpa using this
   have h1:pts[i+1]? =some q:=by have:=congrArg (fun z=>z[0]?) hi1;simpa using this
   rw [List.length_cons,A2c,h0,h1]
   simp only [Option.bind_some,B0i hp hq,A81 hv hv,B0h]
   rw [ih q (i+1) _ hi1,B1k]
   rfl
theorem C0p {pts:List Spot}(h:Valid pts):A9b pts=some (A9h 0 0 pts):=by
  unfold A9b
  have:=h.most
  rw [if_pos (by omega)]
  cases hp:pts with
  |nil=>have:=h.two;rw [hp]at this;simp at this
  |cons p r=>exact B89 (p::r) (by rw [← hp];exact h.ok) r p 0 0 rfl
/-- The lengths. -/
noncomputable def C0q:List Spot→List Int
  |p::q::r=>rt (A1q (vec p q) (vec p q))::C0q (q::r)
  |_=> []
theorem B0j (p q:Spot)(r:List Spot):C0q (p::q::r)=rt (A1q (vec p q) (vec p q))::C0q (q::r):=by conv=>lhs;unfold C0q
theorem A71: ∀(r:List Spot) (p:Spot),(C0q (p::r)).length=r.length
  | [],_=>rfl
  |q::r,p=>by rw [B0j,List.length_cons,A71 r q,List.length_cons]
theorem B1l: ∀(r:List Spot) (p:Spot) (i:Nat) (s:Int),(A9h i s (p::r)).map (·.2.l)=C0q (p::r)
  | [],_,_,_=>rfl
  |q::r,p,i,s=>by rw [B1k,B0j,List.map_cons,B1l r q]
theorem B8a: ∀(L:List (Int×CurvePiece)) (out:List Int),out.length+L.length≤1000000000→loopL R6 (fun x=>x) L out=some (out++L.map (·.2.l)):=by
  intro L
  induction L with
  |nil=>intro out _;simp [loopL]
  |cons a L ih=>
   intro out h
   simp only [List.length_cons]at h
   have:R6 out a=some (.go (out++ [a.2.l])):=by
     unfold R6
     rw [B81 (by simp;omega)];rfl
   rw [loopL,this]
   dsimp only
   rw [ih _ (by simp;omega)]
   simp
theorem B3k (c:Curve)(hl:c.Pts.length≤1000000):A0f c=some (if A3r c.Pts=0 then C0q c.Pts else []):=by
  unfold A0f
  rw [A8x c hl,Option.bind_some]
  by_cases h:A3r c.Pts=0
  ·rw [if_pos h,h]
   have hv:=checkM_zero.1 h
   have:=hv.most
   simp only [bne_self_eq_false,cond_false,C0p hv,Option.bind_some]
   cases hp:c.Pts with
   |nil=>have:=hv.two;rw [hp]at this;simp at this
   |cons p r=>
    have e:=B1l r p 0 0
    rw [B8a _ _ (by
     have:=congrArg List.length e
     rw [List.length_map,A71]at this
     rw [this];rw [hp]at hl;simp at hl ⊢;omega)]
    rw [e];rfl
  ·rw [if_neg h,show (A3r c.Pts !=0)=true from bne_iff_ne.2 h];rfl
/-- A sum, as the programs take it. -/
def C2q:Int→List Int→Int
  |s,[]=>s
  |s,a::l=>C2q (w64 (s+a)) l
theorem B1a (l:List Int)(hl:l.length≤1000000): ∀(r:List Int) (i:Nat) (s:Int),l.drop i=r→loop (N9 l) (s,(i:Int))=some (C2q s r):=by
  intro r
  induction r with
  |nil=>
   intro i s hi
   have:=A13 hi
   refine H9 ?_
   unfold N9
   simp only [show ¬(i:Int)<l.length by omega,decide_false,cond_false,C2q]
  |cons a r ih=>
   intro i s hi
   have hlt:=A1u hi
   have hstep:N9 l (s,(i:Int))=some (.go (w64 (s+a),((i+1:Nat):Int))):=by
     unfold N9
     simp only [show (i:Int)<l.length by omega,decide_true,cond_true,A7f hi,Option.bind_some]
     rw [P1 (n:=(i:Int)+1) (by omega)];rfl
   rw [Y1 hstep,ih (i+1) _ (T4 hi),C2q]
noncomputable def A82 (c:Curve):List Int:=if A3r c.Pts=0 then C0q c.Pts else []
theorem C77: ∀l:List Spot,(C0q l).length≤l.length
  | []=>by simp [C0q]
  |p::r=>by rw [A71];simp
theorem C0r (c:Curve):(A82 c).length≤c.Pts.length:=by
  unfold A82
  split
  ·exact C77 _
  ·simp
theorem A83 (c:Curve)(hl:c.Pts.length≤1000000):A0g c=some (C2q 0 (A82 c)):=by
  unfold A0g
  rw [B3k c hl,Option.bind_some]
  have:=C0r c
  have h:=B1a (A82 c) (by omega) (A82 c) 0 0 (by simp)
  rw [show ((0:Nat):Int)=0 from rfl]at h
  show (loop (N9 (A82 c)) (0,0)).bind _=_
  rw [h];rfl
end Go.Abs.Roads
namespace Go.Abs.Roads
open Go Go.Abs
/-- A quarter turn, so many times. -/
def C7k:Nat→CurveVector→CurveVector
  |0,v=>v
  |n+1,v=>C7k n ⟨-v.y,v.x⟩
theorem B8b: ∀(n:Nat) (v w:CurveVector),A1q (C7k n v) (C7k n w)=A1q v w
  |0,_,_=>rfl
  |n+1,v,w=>by rw [C7k,C7k,B8b n];unfold A1q;grind
/-- A piece's vector, made of numbers: in one quadrant. -/
def C9w (n:Nat)(v:CurveVector):Prop:= ∃x y L:Int,v=C7k n ⟨x,y⟩∧0<x∧0≤y∧x*x+y*y=L*L∧1000≤L∧L≤3029∧x≤L∧y≤L
inductive Ch (Q:CurveVector→Prop):List Spot→Prop
  |one (p:Spot):Ch Q [p]
  |cons (p q:Spot) (r:List Spot) (h:Q (vec p q)) (hr:Ch Q (q::r)):Ch Q (p::q::r)
theorem B4m {n:Nat}: ∀(r:List Spot) (p:Spot) (last:Option CurveVector),Ch (C9w n) (p::r)→(∀u,last=some u→C9w n u)→Good last (p::r)
  | [],p,last,_,_=> .one _ _
  |q::r,p,last,hc,hl=>by
   cases hc with
   |cons _ _ _ h1 h2=>
    have hq:=h1
    obtain ⟨x,y,L,hv,hx,hy,hsq,hL1,hL2,hxL,hyL⟩:=h1
    have hd:A1q (vec p q) (vec p q)=L*L:=by rw [hv,B8b];unfold A1q;exact hsq
    have hrt:rt (A1q (vec p q) (vec p q))=L:=by rw [hd];exact C9v (by omega) (by omega)
    refine .cons _ _ _ _ (by rw [hrt,hd]) (by rw [hrt];exact hL1) (by rw [hrt];omega) (fun u hu=> ?_) (B4m r q _ h2 (fun u hu=>by cases hu;exact hq))
    obtain ⟨x',y',L',hv',hx',hy',_⟩:=hl u hu
    rw [hv,hv',B8b]
    unfold A1q
    have:=Int.mul_pos hx' hx
    have:=Int.mul_nonneg hy' hy
    dsimp only
    omega
/-- What the curves made of numbers are like. -/
structure Made (l:List Spot):Prop where
  two:2≤l.length
  six:l.length≤6
  ch: ∃n,Ch (C9w n) l
  bd: ∀p∈l, -50000≤p.X∧p.X≤50000∧ -50000≤p.Y∧p.Y≤50000
theorem Made.valid {l:List Spot}(h:Made l):Valid l:=by
  obtain ⟨n,hc⟩:=h.ch
  have:=h.two;have:=h.six
  refine ⟨h.two,by omega,List.all_eq_true.2 fun p hp=>okS_iff.2 (by have:=h.bd p hp;omega),?_⟩
  match l,h,hc with
  |p::r,_,hc=>exact B4m r p none hc (fun u hu=>by cases hu)
  | [],h,_=>exact absurd h.two (by simp)
end Go.Abs.Roads
namespace Go.Abs.Roads
open Go Go.Abs
/-! ### Loops that look for the first error -/
def N6 {α β:Type}(g:Nat→α→Option β):Nat→List α→Option β
  |_,[]=>none
  |i,a::r=>match g i a with
   |some e=>some e
   |none=>N6 g (i+1) r
def C9c {β:Type}:Option β→Sum Unit β
  |some e=> .inr e
  |none=> .inl ()
theorem A3s {α β:Type}(l:List α)(F:Int→Option (Stp Int (Sum Unit β)))(g:Nat→α→Option β)(hF: ∀(i:Nat) a,l[i]? =some a→F (i:Int)=some (match g i a with|some e=> .out (.inr e)|none=> .go ((i+1:Nat):Int)))(h0:F (l.length:Int)=some (.out (.inl ()))):
    loop F 0=some (C9c (N6 g 0 l)):=by
  have key: ∀(r:List α) (i:Nat),l.drop i=r→i≤l.length→loop F (i:Int)=some (C9c (N6 g i r)):=by
    intro r
    induction r with
    |nil=>
     intro i hi hil
     have:i=l.length:=by have:=List.drop_eq_nil_iff.1 hi;omega
     subst this
     exact H9 h0
    |cons a r ih=>
     intro i hi hil
     have hlt:i<l.length:=by
       rcases Nat.lt_or_ge i l.length with q|q
       ·exact q
       ·rw [List.drop_eq_nil_of_le q]at hi;cases hi
     have ha:l[i]? =some a:=by have:=congrArg (fun z=>z[0]?) hi;simpa using this
     have hr:l.drop (i+1)=r:=by have:=congrArg (fun z=>z.drop 1) hi;simpa using this
     have hs:=hF i a ha
     unfold N6
     cases hg:g i a with
     |some e=>rw [hg]at hs;exact H9 hs
     |none=>rw [hg]at hs;rw [Y1 hs];exact ih (i+1) hr (by omega)
  have:=key l 0 rfl (by omega)
  exact this
theorem firstE_none {α β:Type}{g:Nat→α→Option β}: ∀{l:List α} {i:Nat},N6 g i l=none↔∀(j:Nat) a,l[j]? =some a→g (i+j) a=none
  | [],i=>by simp [N6]
  |a::r,i=>by
   unfold N6
   cases h:g i a with
   |some e=>
    constructor
    ·intro h';cases h'
    ·intro h';have:=h' 0 a rfl;rw [Nat.add_zero,h]at this;cases this
   |none=>
    dsimp only
    rw [firstE_none (l:=r)]
    constructor
    ·intro h' j b hj
     cases j with
     |zero=>cases hj;exact h
     |succ j=>have:=h' j b hj;rwa [show i+1+j=i+ (j+1) by omega]at this
    ·intro h' j b hj
     have:=h' (j+1) b hj
     rwa [show i+ (j+1)=i+1+j by omega]at this
/-! ### Numbers -/
def inR (n a b:Int):Bool:=decide (a≤n)&&decide (n≤b)
theorem A65 (n a b:Int):L9 n a b=some (inR n a b):=rfl
def C0s (kind:Int):Int×Int×Int:=if kind=1 then (2000,30,90)else if kind=2 then (1000,20,60)else if kind=3 then (300,100,300)else (0,0,0)
theorem B72 (k:Int):Y9 k=some (C0s k):=by
  unfold Y9 C0s
  by_cases h:k<0∨k≥4
  ·rw [show ((decide (k<0))||(decide (k≥4)))=true by simpa using h,cond_true,if_neg (by omega),if_neg (by omega),if_neg (by omega)]
  ·rw [show ((decide (k<0))||(decide (k≥4)))=false by rw [Bool.eq_false_iff];simpa using h,cond_false]
   obtain ⟨h1,h2⟩:=not_or.1 h
   rcases (show k=0∨k=1∨k=2∨k=3 by omega)with rfl|rfl|rfl|rfl<;>rfl
end Go.Abs.Roads
namespace Go.Abs.Roads
open Go Go.Abs
theorem wid {n:Int}(h: -9223372036854775808≤n∧n≤9223372036854775807):w64 n=n:=Go.IntWalk.i64_in n h
theorem N7 {α:Type}{l:List α}{i:Nat}{a:α}(h:l[i]? =some a):F1 l (i:Int)=some a:=by
  unfold F1;rw [if_pos (by omega),Int.toNat_natCast];exact h
theorem A5e {α:Type}{l:List α}{i:Nat}{a:α}(h:l[i]? =some a):i<l.length:=(List.getElem?_eq_some_iff.1 h).1
theorem C78 {α:Type}(c:Bool)(a b:α):cond c (some a) (some b)=some (cond c a b):=by cases c<;>rfl
def A5r (high:Int):Int→List Int→Bool
  |_,[]=>true
  |low,n::r=>decide (low≤n)&&decide (n<high)&&A5r high (n+1) r
theorem B3l (l:List Int)(low high:Int)(hl:l.length≤1000000)(hh:high≤1000000000)(h0:0≤low):W9 l low high=some (A5r high low l):=by
  have key: ∀(r:List Int) (i:Nat) (lo:Int),0≤lo→l.drop i=r→i≤l.length→loop (Q0 l high) (lo,(i:Int))=some (if A5r high lo r then .inl ()else .inr false):=by
    intro r
    induction r with
    |nil=>
     intro i lo _ hi hil
     have:=A13 hi
     refine H9 ?_
     unfold Q0
     dsimp only
     rw [show decide ((i:Int)< (l.length:Int))=false from decide_eq_false (by omega)];rfl
    |cons n r ih=>
     intro i lo hlo hi hil
     have hlt:=A1u hi
     have hs:Q0 l high (lo,(i:Int))=some (if decide (lo≤n)&&decide (n<high)then .go (n+1,((i+1:Nat):Int))else .out (.inr false)):=by
       unfold Q0
       dsimp only
       rw [show decide ((i:Int)< (l.length:Int))=true from decide_eq_true (by omega),A7f hi,cond_true,Option.bind_some,wid (n:=(i:Int)+1) (by omega)]
       by_cases q:lo≤n∧n<high
       ·rw [show ((decide (n<lo))||(decide (n≥high)))=false by rw [Bool.eq_false_iff];simp;omega,cond_false,wid (n:=n+1) (by omega),if_pos (by simpa using q)];rfl
       ·rw [show ((decide (n<lo))||(decide (n≥high)))=true by simp;omega,cond_true,if_neg (by simpa using q)]
     unfold A5r
     cases q:(decide (lo≤n)&&decide (n<high))
     ·rw [q]at hs;rw [H9 hs];rfl
     ·rw [q]at hs
      simp only [Bool.and_eq_true,decide_eq_true_eq]at q
      rw [Y1 hs,ih (i+1) (n+1) (by omega) (T4 hi) (by omega)];rfl
  unfold W9
  have:=key l 0 low h0 rfl (by omega)
  rw [show ((0:Nat):Int)=0 from rfl]at this
  rw [this]
  cases A5r high low l<;>rfl
end Go.Abs.Roads
namespace Go.Abs.Roads
open Go Go.Abs
noncomputable def B2c (c:Curve):Int:=C2q 0 (A82 c)
theorem C79 {m:Map}{i:Nat}{l:Lane}(h:m.Lanes[i]? =some l)(hl:l.Curve_.Pts.length≤1000000):U9 m (i:Int)=some (B2c l.Curve_):=by
  unfold U9
  rw [N7 h,Option.bind_some,A83 _ hl];rfl
/-- The lists of a map are of bearable lengths. -/
structure Bear (m:Map):Prop where
  lanes:m.Lanes.length≤1000000
  pts: ∀l∈m.Lanes,l.Curve_.Pts.length≤1000000∧l.Next.length≤1000000
noncomputable def laneE (n:Nat)(i:Nat)(l:Lane):Option Int:=
  if (C0s l.Kind).1=0 then some 4
  else if A3r l.Curve_.Pts≠0 then some (A3r l.Curve_.Pts)
  else if (inR l.Half 200 4000&&inR l.Limit 1 (C0s l.Kind).1)=false then some 2
  else if 3<l.Next.length then some 8
  else if A5r n (i+1) l.Next=false then some 11 else none
theorem C4y {m:Map}(B:Bear m):P2 ⟨m⟩=some ((N6 (laneE m.Lanes.length) 0 m.Lanes).getD 0):=by
  have h:=A3s m.Lanes (J9 ⟨m⟩) (laneE m.Lanes.length) (fun i l hl=>by
    have hi:=A5e hl
    have hb:=B.lanes
    obtain ⟨p1,p2⟩:=B.pts l (List.mem_of_getElem? hl)
    unfold J9 laneE
    dsimp only
    rw [show decide ((i:Int)< (m.Lanes.length:Int))=true from decide_eq_true (by omega),N7 hl,cond_true,Option.bind_some,B72,Option.bind_some,A8x _ p1,Option.bind_some,A65,A65,Option.bind_some,C78,Option.bind_some,wid (n:=(i:Int)+1) (by omega),B3l _ _ _ p2 (by omega) (by omega),Option.bind_some]
    by_cases h1:(C0s l.Kind).1=0
    ·rw [if_pos h1,show ((C0s l.Kind).1==0)=true by simpa using h1];rfl
    ·rw [if_neg h1,show ((C0s l.Kind).1==0)=false by simpa using h1,cond_false]
     by_cases h2:A3r l.Curve_.Pts≠0
     ·rw [if_pos h2,show (A3r l.Curve_.Pts !=0)=true by simpa using h2];rfl
     ·rw [if_neg h2,show (A3r l.Curve_.Pts !=0)=false by simpa using h2,cond_false]
      cases inR l.Half 200 4000
      ·rfl
      ·cases inR l.Limit 1 (C0s l.Kind).1
       ·rfl
       ·simp only [Bool.not_true,Bool.not_false,cond_true,cond_false,Bool.false_or,Bool.and_self]
        rw [if_neg (by decide)]
        by_cases h3:3<l.Next.length
        ·rw [if_pos h3,show decide ((l.Next.length:Int)>3)=true from decide_eq_true (by omega)];rfl
        ·rw [if_neg h3,show decide ((l.Next.length:Int)>3)=false from decide_eq_false (by omega),cond_false]
         cases A5r (m.Lanes.length:Int) ((i:Int)+1) l.Next<;>rfl) (by
    unfold J9
    dsimp only
    rw [show decide ((m.Lanes.length:Int)< (m.Lanes.length:Int))=false from decide_eq_false (by omega)];rfl)
  unfold P2
  rw [h]
  cases N6 (laneE m.Lanes.length) 0 m.Lanes<;>rfl
end Go.Abs.Roads
namespace Go.Abs.Roads
open Go Go.Abs
theorem B9f {n i:Nat}{l:Lane}{e:Int}(h:laneE n i l=some e):e≠0:=by
  unfold laneE at h
  split at h
  ·cases h;decide
  ·split at h
   ·rename_i h2;cases h;exact h2
   ·split at h
    ·cases h;decide
    ·split at h
     ·cases h;decide
     ·split at h
      ·cases h;decide
      ·cases h
end Go.Abs.Roads
namespace Go.Abs.Roads
open Go Go.Abs
theorem A54 {high:Int}: ∀{l:List Int} {low:Int},A5r high low l=true→∀k∈l,low≤k∧k<high
  | [],_,_,k,hk=>by cases hk
  |n::r,low,h,k,hk=>by
   unfold A5r at h
   simp only [Bool.and_eq_true,decide_eq_true_eq]at h
   rcases List.mem_cons.1 hk with rfl|hk
   ·exact h.1
   ·have:=A54 h.2 k hk
    omega
/-- What a lane is that has no error of its own. -/
structure LaneOK (n i:Nat)(l:Lane):Prop where
  kind:(C0s l.Kind).1≠0
  curve:A3r l.Curve_.Pts=0
  half:inR l.Half 200 4000=true
  limit:inR l.Limit 1 (C0s l.Kind).1=true
  few:l.Next.length≤3
  next:A5r n (i+1) l.Next=true
theorem C0t {n i:Nat}{l:Lane}(h:laneE n i l=none):LaneOK n i l:=by
  unfold laneE at h
  split at h
  ·cases h
  ·rename_i h1
   split at h
   ·cases h
   ·rename_i h2
    split at h
    ·cases h
    ·rename_i h3
     split at h
     ·cases h
     ·rename_i h4
      split at h
      ·cases h
      ·rename_i h5
       simp only [Bool.not_eq_false,Bool.and_eq_true]at h3
       exact ⟨h1,Decidable.not_not.1 h2,h3.1,h3.2,by omega,by simpa using h5⟩
theorem B0k {m:Map}(h:N6 (laneE m.Lanes.length) 0 m.Lanes=none){i:Nat}{l:Lane}(hl:m.Lanes[i]? =some l):LaneOK m.Lanes.length i l:=by
  have:=firstE_none.1 h i l hl
  rw [Nat.zero_add]at this
  exact C0t this
end Go.Abs.Roads
namespace Go.Abs.Roads
open Go Go.Abs
theorem B3m {l:List Spot}(h:A3r l=0):2≤l.length:=by
  unfold A3r at h
  split at h
  ·cases h
  ·omega
def B47 (l:List Spot):Spot:=l.headD ⟨0,0⟩
def B1v (l:List Spot):Spot:=l.getLastD ⟨0,0⟩
theorem B73 {l:List Spot}(h:2≤l.length):F1 l 0=some (B47 l):=by
  cases l with
  |nil=>simp at h
  |cons a r=>rfl
theorem B74 {l:List Spot}(h:2≤l.length)(hl:l.length≤1000000):F1 l (w64 ((l.length:Int) - 1))=some (B1v l):=by
  rw [wid (by omega),show (l.length:Int) - 1=((l.length - 1:Nat):Int) by omega]
  refine N7 ?_
  unfold B1v
  rw [List.getLastD_eq_getLast?,List.getLast?_eq_getElem?]
  rw [List.getElem?_eq_getElem (by omega)];rfl
def C2r (a b:Spot):Bool:=a.X==b.X&& (a.Y==b.Y&&true)
def B3n (m:Map)(l:Lane)(_:Nat)(k:Int):Option Int:=
  match m.Lanes[k.toNat]? with
  |some n=>if n.Kind≠l.Kind then some 4 else if C2r (B47 n.Curve_.Pts) (B1v l.Curve_.Pts)=false then some 3 else none
  |none=>none
def nextE (m:Map)(_:Nat)(l:Lane):Option Int:=N6 (B3n m l) 0 l.Next
theorem B4n {m:Map}(B:Bear m)(H:N6 (laneE m.Lanes.length) 0 m.Lanes=none){i:Nat}{l:Lane}(hl:m.Lanes[i]? =some l){j:Nat}{k:Int}(hk:l.Next[j]? =some k):
    ∃n,F1 m.Lanes k=some n∧m.Lanes[k.toNat]? =some n∧2≤n.Curve_.Pts.length∧n.Curve_.Pts.length≤1000000:=by
  have L:=B0k H hl
  have hb:=A54 L.next k (List.mem_of_getElem? hk)
  have hlt:k.toNat<m.Lanes.length:=by omega
  refine ⟨m.Lanes[k.toNat],?_,List.getElem?_eq_getElem hlt,B3m (B0k H (List.getElem?_eq_getElem hlt)).curve,(B.pts _ (List.getElem_mem hlt)).1⟩
  unfold F1
  rw [if_pos (by omega),List.getElem?_eq_getElem hlt]
end Go.Abs.Roads
namespace Go.Abs.Roads
open Go Go.Abs
theorem C2s {m:Map}{l:Lane}{j:Nat}{k e:Int}(h:B3n m l j k=some e):e≠0:=by
  unfold B3n at h
  split at h
  ·split at h
   ·cases h;decide
   ·split at h
    ·cases h;decide
    ·cases h
  ·cases h
theorem B75 {m:Map}(B:Bear m)(H:N6 (laneE m.Lanes.length) 0 m.Lanes=none){i:Nat}{l:Lane}(hl:m.Lanes[i]? =some l):
    loop (I9 ⟨m⟩ l (B1v l.Curve_.Pts)) 0=some (C9c (nextE m i l))∧loop (A0b m l) 0=some (C9c (nextE m i l)):=by
  have L:=B0k H hl
  obtain ⟨p1,p2⟩:=B.pts l (List.mem_of_getElem? hl)
  constructor
  ·refine A3s l.Next _ (B3n m l) (fun j k hk=> ?_) ?_
   ·have hj:=A5e hk
    obtain ⟨n,g1,g2,g3,g4⟩:=B4n B H hl hk
    unfold I9 B3n
    dsimp only
    rw [show decide ((j:Int)< (l.Next.length:Int))=true from decide_eq_true (by omega),N7 hk,cond_true,Option.bind_some,g1,Option.bind_some,Option.bind_some,B73 g3,Option.bind_some,wid (n:=(j:Int)+1) (by omega),g2]
    dsimp only
    rw [show ((B47 n.Curve_.Pts).X==(B1v l.Curve_.Pts).X&& ((B47 n.Curve_.Pts).Y==(B1v l.Curve_.Pts).Y&&true))=C2r (B47 n.Curve_.Pts) (B1v l.Curve_.Pts) from rfl]
    by_cases h1:n.Kind≠l.Kind
    ·rw [if_pos h1,show (n.Kind !=l.Kind)=true by simpa using h1];rfl
    ·rw [if_neg h1,show (n.Kind !=l.Kind)=false by simpa using h1]
     cases C2r (B47 n.Curve_.Pts) (B1v l.Curve_.Pts)<;>rfl
   ·unfold I9
    rw [show decide ((l.Next.length:Int)< (l.Next.length:Int))=false from decide_eq_false (by omega)];rfl
  ·refine A3s l.Next _ (B3n m l) (fun j k hk=> ?_) ?_
   ·have hj:=A5e hk
    obtain ⟨n,g1,g2,g3,g4⟩:=B4n B H hl hk
    unfold A0b B3n
    rw [show decide ((j:Int)< (l.Next.length:Int))=true from decide_eq_true (by omega),N7 hk,cond_true,Option.bind_some,g1,Option.bind_some,B73 g3,Option.bind_some,B74 (B3m L.curve) p1,Option.bind_some,wid (n:=(j:Int)+1) (by omega),g2]
    dsimp only
    rw [show ((B47 n.Curve_.Pts).X==(B1v l.Curve_.Pts).X&& ((B47 n.Curve_.Pts).Y==(B1v l.Curve_.Pts).Y&&true))=C2r (B47 n.Curve_.Pts) (B1v l.Curve_.Pts) from rfl]
    by_cases h1:n.Kind≠l.Kind
    ·rw [if_pos h1,show (n.Kind !=l.Kind)=true by simpa using h1];rfl
    ·rw [if_neg h1,show (n.Kind !=l.Kind)=false by simpa using h1]
     cases C2r (B47 n.Curve_.Pts) (B1v l.Curve_.Pts)<;>rfl
   ·unfold A0b
    rw [show decide ((l.Next.length:Int)< (l.Next.length:Int))=false from decide_eq_false (by omega)];rfl
end Go.Abs.Roads
namespace Go.Abs.Roads
open Go Go.Abs
theorem C2t {m:Map}(B:Bear m)(H:N6 (laneE m.Lanes.length) 0 m.Lanes=none):
    N5 ⟨m⟩=some ((N6 (nextE m) 0 m.Lanes).getD 0)∧A7r m=some ((N6 (nextE m) 0 m.Lanes).getD 0):=by
  have hb:=B.lanes
  constructor
  ·have h:=A3s m.Lanes (J0 ⟨m⟩) (nextE m) (fun i l hl=>by
     have hi:=A5e hl
     have L:=B0k H hl
     obtain ⟨p1,p2⟩:=B.pts l (List.mem_of_getElem? hl)
     unfold J0
     dsimp only
     rw [show decide ((i:Int)< (m.Lanes.length:Int))=true from decide_eq_true (by omega),N7 hl,cond_true,Option.bind_some,B74 (B3m L.curve) p1,Option.bind_some,(B75 B H hl).1,wid (n:=(i:Int)+1) (by omega)]
     cases nextE m i l<;>rfl) (by
     unfold J0
     dsimp only
     rw [show decide ((m.Lanes.length:Int)< (m.Lanes.length:Int))=false from decide_eq_false (by omega)];rfl)
   unfold N5
   rw [h]
   cases N6 (nextE m) 0 m.Lanes<;>rfl
  ·have h:=A3s m.Lanes (A0c m) (nextE m) (fun i l hl=>by
     have hi:=A5e hl
     unfold A0c
     rw [show decide ((i:Int)< (m.Lanes.length:Int))=true from decide_eq_true (by omega),N7 hl,cond_true,Option.bind_some,(B75 B H hl).2,wid (n:=(i:Int)+1) (by omega)]
     cases nextE m i l<;>rfl) (by
     unfold A0c
     rw [show decide ((m.Lanes.length:Int)< (m.Lanes.length:Int))=false from decide_eq_false (by omega)];rfl)
   unfold A7r
   rw [h]
   cases N6 (nextE m) 0 m.Lanes<;>rfl
end Go.Abs.Roads
namespace Go.Abs.Roads
open Go Go.Abs
/-- The place of the first element with a property. -/
theorem C0u {α:Type}{f:Int→Option (Stp Int (Sum Unit Int))}(l:List α)(P:α→Bool)(hl:l.length≤1000000000)(hf: ∀(i:Nat) a,l[i]? =some a→f (i:Int)=some (if P a then .out (.inr (i:Int))else .go (w64 ((i:Int)+1))))(he:f (l.length:Int)=some (.out (.inl ()))):
    loop f 0=some (match l.findIdx? P with|some i=> .inr (i:Int)|none=> .inl ()):=by
  have key: ∀(r:List α) (i:Nat),l.drop i=r→i≤l.length→loop f (i:Int)=some (match r.findIdx? P with|some j=> .inr ((i+j:Nat):Int)|none=> .inl ()):=by
    intro r
    induction r with
    |nil=>
     intro i hi hil
     have:=A13 hi
     obtain rfl:i=l.length:=by omega
     rw [H9 he];rfl
    |cons a r ih=>
     intro i hi _
     have hlt:=A1u hi
     have h0:l[i]? =some a:=by have:=congrArg (fun z=>z[0]?) hi;simpa using this
     have hs:=hf i a h0
     rw [List.findIdx?_cons]
     by_cases hp:P a=true
     ·rw [if_pos hp]at hs
      rw [H9 hs,if_pos hp];simp
     ·rw [if_neg hp]at hs
      rw [P1 (by omega)]at hs
      rw [Y1 hs,show ((i:Int)+1)=((i+1:Nat):Int) by omega,ih (i+1) (T4 hi) (by omega),if_neg hp]
      cases r.findIdx? P with
      |none=>rfl
      |some j=>simp only [Option.map_some];congr 3;omega
  have:=key l 0 rfl (by omega)
  rw [show ((0:Nat):Int)=0 from rfl]at this
  rw [this]
  cases l.findIdx? P<;>simp
/-- -1, or the place. -/
def C9d {α:Type}(P:α→Bool)(l:List α):Int:=match l.findIdx? P with|some i=>(i:Int)|none=> -1
theorem B5q {α:Type}(P:α→Bool)(l:List α):decide (C9d P l≥0)=l.any P:=by
  unfold C9d
  cases h:l.findIdx? P with
  |none=>
   have:=List.findIdx?_eq_none_iff.1 h
   rw [show l.any P=false by rw [List.any_eq_false];intro x hx;simpa using this x hx]
   decide
  |some i=>
   have:=List.findIdx?_isSome (xs:=l) (p:=P)
   rw [h]at this
   rw [← this]
   simp
/-- What both twins compute of a list. -/
theorem B5r {α:Type}{f:Int→Option (Stp Int (Sum Unit Int))}(l:List α)(P:α→Bool)(hl:l.length≤1000000000)(hf: ∀(i:Nat) a,l[i]? =some a→f (i:Int)=some (if P a then .out (.inr (i:Int))else .go (w64 ((i:Int)+1))))(he:f (l.length:Int)=some (.out (.inl ()))):
    thenS (loop f 0) (fun _=>some (-1)) (fun r=>some r)=some (C9d P l):=by
  rw [C0u l P hl hf he]
  unfold C9d
  cases l.findIdx? P<;>rfl
end Go.Abs.Roads
namespace Go.Abs.Roads
open Go Go.Abs
theorem C2u (l:List Phase)(hl:l.length≤1000000):B2 l=some (l.any fun p=> !inR p.Ticks 1 10000):=by
  unfold B2 B6
  rw [B5r l (fun p=> !inR p.Ticks 1 10000) (by omega) (fun i a h=>by
   have:=A5e h
   unfold B1 P3
   rw [show decide ((i:Int)< (l.length:Int))=true from decide_eq_true (by omega),N7 h,cond_true,Option.bind_some,A65,Option.bind_some,Option.bind_some]
   cases inR a.Ticks 1 10000<;>rfl) (by
   unfold B1
   simp)]
  rw [Option.bind_some,B5q]
theorem C0v (m:Map)(l:List Phase)(hl:l.length≤1000000)(hm:m.Lanes.length≤1000000)(hg: ∀p∈l,p.Green.length≤1000000):B0 l ⟨m⟩=some (l.any fun p=> !A5r m.Lanes.length 0 p.Green):=by
  unfold B0 B5
  rw [B5r l (fun p=> !A5r m.Lanes.length 0 p.Green) (by omega) (fun i a h=>by
   have:=A5e h
   unfold A9 M6
   dsimp only
   rw [show decide ((i:Int)< (l.length:Int))=true from decide_eq_true (by omega),N7 h,cond_true,Option.bind_some,B3l _ _ _ (hg a (List.mem_of_getElem? h)) (by omega) (by omega),Option.bind_some,Option.bind_some]
   cases A5r (m.Lanes.length:Int) 0 a.Green<;>rfl) (by
   unfold A9
   simp)]
  rw [Option.bind_some,B5q]
end Go.Abs.Roads
namespace Go.Abs.Roads
open Go Go.Abs
structure BearS (m:Map):Prop where
  many:m.Signals.length≤1000000
  phases: ∀s∈m.Signals,s.Phases.length≤1000000∧∀p∈s.Phases,p.Green.length≤1000000
def signalE (m:Map)(_:Nat)(s:Signal):Option Int:=
  if s.Phases.length=0 then some 6
  else if 6<s.Phases.length then some 8
  else if inR s.Offset 0 1099511627776=false then some 2
  else if (s.Phases.any fun p=> !inR p.Ticks 1 10000)=true then some 2
  else if (s.Phases.any fun p=> !A5r m.Lanes.length 0 p.Green)=true then some 11 else none
theorem C0w {m:Map}(B:Bear m)(S:BearS m):M1 ⟨m⟩=some ((N6 (signalE m) 0 m.Signals).getD 0):=by
  have h:=A3s m.Signals (H8 ⟨m⟩) (signalE m) (fun i s hs=>by
    have hi:=A5e hs
    have hb:=S.many
    obtain ⟨p1,p2⟩:=S.phases s (List.mem_of_getElem? hs)
    unfold H8 signalE
    dsimp only
    rw [show decide ((i:Int)< (m.Signals.length:Int))=true from decide_eq_true (by omega),N7 hs,cond_true,Option.bind_some,A65,Option.bind_some,C2u _ p1,Option.bind_some,C0v m _ p1 B.lanes p2,Option.bind_some,wid (n:=(i:Int)+1) (by omega)]
    by_cases h1:s.Phases.length=0
    ·rw [if_pos h1,h1];rfl
    ·rw [if_neg h1,show ((s.Phases.length:Int)==0)=false by simp only [beq_eq_false_iff_ne];omega,cond_false]
     by_cases h2:6<s.Phases.length
     ·rw [if_pos h2,show decide ((s.Phases.length:Int)>6)=true from decide_eq_true (by omega)];rfl
     ·rw [if_neg h2,show decide ((s.Phases.length:Int)>6)=false from decide_eq_false (by omega),cond_false]
      cases inR s.Offset 0 1099511627776
      ·rfl
      ·cases (s.Phases.any fun p=> !inR p.Ticks 1 10000)
       ·cases (s.Phases.any fun p=> !A5r m.Lanes.length 0 p.Green)<;>rfl
       ·rfl) (by
    unfold H8
    dsimp only
    rw [show decide ((m.Signals.length:Int)< (m.Signals.length:Int))=false from decide_eq_false (by omega)];rfl)
  unfold M1
  rw [h]
  cases N6 (signalE m) 0 m.Signals<;>rfl
end Go.Abs.Roads
namespace Go.Abs.Roads
open Go Go.Abs
end Go.Abs.Roads
namespace Go.Abs.Roads
open Go Go.Abs
end Go.Abs.Roads
/-! Loops over lists, as functions on lists. -/
namespace Go.Abs
open Go
section
variable {α β σ S τ:Type}
/-- What a loop over a list makes, with a state, and with a way out. -/
def B8c (step:Nat→σ→α→Sum σ τ)(fin:σ→τ):Nat→σ→List α→τ
  |_,s,[]=>fin s
  |i,s,a::r=>match step i s a with
   | .inl s'=>B8c step fin (i+1) s' r
   | .inr t=>t
theorem A5f {l:List α}{i:Nat}{a:α}{r:List α}(h:l.drop i=a::r):l[i]? =some a:=by
  have:=congrArg (fun z=>z[0]?) h
  simpa using this
theorem C8v {F:S→Option (Stp S τ)}(pk:Nat→σ→S)(l:List α)(inv:Nat→σ→Prop)(step:Nat→σ→α→Sum σ τ)(fin:σ→τ){s0:σ}{S0:S}(hS:pk 0 s0=S0)(hi:inv 0 s0)
    (hF: ∀i a s,l[i]? =some a→inv i s→F (pk i s)=some (match step i s a with| .inl s'=> .go (pk (i+1) s')| .inr t=> .out t))
    (hI: ∀i a s s',l[i]? =some a→inv i s→step i s a= .inl s'→inv (i+1) s')
    (h0: ∀s,inv l.length s→F (pk l.length s)=some (.out (fin s))):loop F S0=some (B8c step fin 0 s0 l):=by
  have key: ∀(r:List α) (i:Nat) (s:σ),l.drop i=r→i≤l.length→inv i s→loop F (pk i s)=some (B8c step fin i s r):=by
    intro r
    induction r with
    |nil=>
     intro i s hi hil hv
     have:=A13 hi
     obtain rfl:i=l.length:=by omega
     exact H9 (h0 s hv)
    |cons a r ih=>
     intro i s hi hil hv
     have hlt:=A1u hi
     have ha:=A5f hi
     have hs:=hF i a s ha hv
     unfold B8c
     cases h:step i s a with
     |inl s'=>rw [h]at hs;rw [Y1 hs];exact ih (i+1) s' (T4 hi) (by omega) (hI i a s s' ha hv h)
     |inr t=>rw [h]at hs;exact H9 hs
  rw [← hS]
  exact key l 0 s0 rfl (by omega) hi
/-- The same without a way out. -/
def C0x (step:Nat→σ→α→σ):Nat→σ→List α→σ
  |_,s,[]=>s
  |i,s,a::r=>C0x step (i+1) (step i s a) r
theorem B3o (step:Nat→σ→α→σ)(fin:σ→τ): ∀(l:List α) (i:Nat) (s:σ),B8c (fun i s a=> .inl (step i s a)) fin i s l=fin (C0x step i s l)
  | [],_,_=>rfl
  |_::r,i,_=>B3o step fin r (i+1) _
theorem C9x {F:S→Option (Stp S τ)}(pk:Nat→σ→S)(l:List α)(inv:Nat→σ→Prop)(step:Nat→σ→α→σ)(fin:σ→τ){s0:σ}{S0:S}(hS:pk 0 s0=S0)(hi:inv 0 s0)
    (hF: ∀i a s,l[i]? =some a→inv i s→F (pk i s)=some (.go (pk (i+1) (step i s a))))
    (hI: ∀i a s,l[i]? =some a→inv i s→inv (i+1) (step i s a))
    (h0: ∀s,inv l.length s→F (pk l.length s)=some (.out (fin s))):loop F S0=some (fin (C0x step 0 s0 l)):=by
  rw [← B3o step fin]
  exact C8v pk l inv _ fin hS hi hF (fun i a s s' h1 h2 h3=>by cases h3;exact hI i a s h1 h2) h0
/-- The elements that a loop gathers. -/
def B76 (g:Nat→α→Option β):Nat→List α→List β
  |_,[]=> []
  |i,a::r=>match g i a with
   |some b=>b::B76 g (i+1) r
   |none=>B76 g (i+1) r
theorem B4o (g:Nat→α→Option β): ∀(l:List α) (i:Nat) (s:List β),C0x (fun i s a=>match g i a with|some b=>s++ [b]|none=>s) i s l=s++B76 g i l
  | [],_,s=>by simp [C0x,B76]
  |a::r,i,s=>by
   unfold C0x B76
   rw [B4o g r (i+1)]
   cases g i a<;>simp
theorem C9y {F:S→Option (Stp S τ)}(pk:Nat→List β→S)(l:List α)(g:Nat→α→Option β)(fin:List β→τ){S0:S}(hS:pk 0 []=S0)
    (hF: ∀i a (s:List β),l[i]? =some a→s.length≤i→F (pk i s)=some (.go (pk (i+1) (match g i a with|some b=>s++ [b]|none=>s))))
    (h0: ∀s,F (pk l.length s)=some (.out (fin s))):loop F S0=some (fin (B76 g 0 l)):=by
  have:=C9x pk l (fun i s=>s.length≤i) (fun i s a=>match g i a with|some b=>s++ [b]|none=>s) fin hS (by simp) hF (fun i a s _ hs=>by
    cases g i a<;>simp<;>omega) (fun s _=>h0 s)
  rw [this,B4o,List.nil_append]
/-- Is there one? -/
theorem C8w {F:Int→Option (Stp Int (Sum Unit β))}(l:List α)(p:α→Bool)(v:β)(hF: ∀(i:Nat) a,l[i]? =some a→F (i:Int)=some (if p a then .out (.inr v)else .go ((i+1:Nat):Int)))(h0:F (l.length:Int)=some (.out (.inl ()))):
    loop F 0=some (if l.any p then .inr v else .inl ()):=by
  have key: ∀(l:List α) (i:Nat),B8c (fun _ _ a=>if p a then Sum.inr (Sum.inr v)else Sum.inl ()) (fun _=>(Sum.inl ():Sum Unit β)) i () l=if l.any p then .inr v else .inl ():=by
    intro l
    induction l with
    |nil=>intro i;rfl
    |cons a r ih=>
     intro i
     unfold B8c
     rw [List.any_cons]
     cases h:p a
     ·exact ih (i+1)
     ·rfl
  rw [← key l 0]
  exact C8v (F:=F) (σ:=Unit) (fun i _=>(i:Int)) l (fun _ _=>True) _ _ (s0:=()) rfl trivial (fun i a _ h _=>by rw [hF i a h];cases p a<;>rfl) (fun _ _ _ _ _ _ _=>trivial) (fun _ _=>h0)
end
theorem A5g {i:Nat}{n:Nat}(h:i<n):decide ((i:Int)< (n:Int))=true:=decide_eq_true (by omega)
theorem A36 (n:Nat):decide ((n:Int)< (n:Int))=false:=decide_eq_false (by omega)
theorem A1s {i:Nat}{n:Nat}(h:i<n)(hn:n≤1000000000000):w64 ((i:Int)+1)=((i+1:Nat):Int):=by rw [P1 (by omega)];omega
end Go.Abs
namespace Go.Abs.Roads
open Go Go.Abs
structure BearZ (m:Map):Prop where
  many:m.Zones.length≤1000000
  parts: ∀z∈m.Zones,z.Parts.length≤1000000
noncomputable def A11 (m:Map)(k:Int):Int:=((m.Lanes[k.toNat]?).map fun l=>B2c l.Curve_).getD 0
noncomputable def B3p (m:Map)(p:Part):Bool:=decide (p.From<0)||decide (p.From≥p.To)||decide (p.To>A11 m p.Lane_)||decide (p.Rank<0)||decide (p.Rank>100)
noncomputable def zoneE (m:Map)(_:Nat)(z:Zone):Option Int:=
  if z.Parts.length<2 then some 6
  else if 6<z.Parts.length then some 8
  else if z.Signal_<0∨(m.Signals.length:Int)<z.Signal_ then some 2
  else if A5r m.Lanes.length 0 (z.Parts.map (·.Lane_))=false then some 11
  else if z.Parts.any (B3p m)=true then some 2 else none
theorem B8d {m:Map}{k:Int}(h0:0≤k)(h1:k<m.Lanes.length): ∃l,m.Lanes[k.toNat]? =some l∧F1 m.Lanes k=some l:=by
  have hlt:k.toNat<m.Lanes.length:=by omega
  refine ⟨m.Lanes[k.toNat],List.getElem?_eq_getElem hlt,?_⟩
  unfold F1
  rw [if_pos h0,List.getElem?_eq_getElem hlt]
theorem C2v {m:Map}(B:Bear m){k:Int}(h0:0≤k)(h1:k<m.Lanes.length):U9 m k=some (A11 m k):=by
  obtain ⟨l,e1,e2⟩:=B8d h0 h1
  have:=C79 (m:=m) e1 (B.pts l (List.mem_of_getElem? e1)).1
  rw [show ((k.toNat:Nat):Int)=k by omega]at this
  rw [this,A11,e1];rfl
theorem B9g {α β:Type}(f:α→β): ∀(l:List α) (i:Nat),B76 (fun _ a=>some (f a)) i l=l.map f
  | [],_=>rfl
  |a::r,i=>by rw [B76,B9g f r];rfl
theorem C8x {z:Zone}{F:List Int×Int→Option (Stp (List Int×Int) (List Int))}(hl:z.Parts.length≤1000000)
    (hF: ∀x,F x=cond (decide (x.2< (z.Parts.length:Int))) ((F1 z.Parts x.2).bind fun v=>(A9u x.1 [v.Lane_]).bind fun w=>some (.go (w,w64 (x.2+1)))) (some (.out x.1))):
    loop F ([],0)=some (z.Parts.map (·.Lane_)):=by
  rw [← B9g (fun p:Part=>p.Lane_) z.Parts 0]
  refine C9y (fun i s=>(s,(i:Int))) z.Parts (fun _ p=>some p.Lane_) id rfl (fun i a s ha hs=> ?_) (fun s=> ?_)
  ·have hi:=A5e ha
   rw [hF,A5g hi,N7 ha,cond_true,Option.bind_some,B81 (by simp;omega),Option.bind_some,A1s hi (by omega)]
  ·rw [hF,A36];rfl
theorem C4z {m:Map}(B:Bear m)(Z:BearZ m):P4 ⟨m⟩=some ((N6 (zoneE m) 0 m.Zones).getD 0):=by
  have hb:=B.lanes
  have h:=A3s m.Zones (K1 ⟨m⟩) (zoneE m) (fun i z hz=>by
    have hi:=A5e hz
    have hm:=Z.many
    have p1:=Z.parts z (List.mem_of_getElem? hz)
    unfold K1 zoneE
    dsimp only
    rw [A5g hi,N7 hz,cond_true,Option.bind_some,C8x p1 (F:=Q3 z) (fun x=>rfl),Option.bind_some,B3l _ _ _ (by simpa using p1) (by omega) (by omega),Option.bind_some,A1s hi (by omega)]
    by_cases h1:z.Parts.length<2
    ·rw [if_pos h1,show decide ((z.Parts.length:Int)<2)=true from decide_eq_true (by omega)];rfl
    ·rw [if_neg h1,show decide ((z.Parts.length:Int)<2)=false from decide_eq_false (by omega),cond_false]
     by_cases h2:6<z.Parts.length
     ·rw [if_pos h2,show decide ((z.Parts.length:Int)>6)=true from decide_eq_true (by omega)];rfl
     ·rw [if_neg h2,show decide ((z.Parts.length:Int)>6)=false from decide_eq_false (by omega),cond_false]
      by_cases h3:z.Signal_<0∨(m.Signals.length:Int)<z.Signal_
      ·rw [if_pos h3,show ((decide (z.Signal_<0))||(decide (z.Signal_>(m.Signals.length:Int))))=true by simpa using h3];rfl
      ·rw [if_neg h3,show ((decide (z.Signal_<0))||(decide (z.Signal_>(m.Signals.length:Int))))=false by rw [Bool.eq_false_iff];simpa using h3,cond_false]
       cases h4:A5r (m.Lanes.length:Int) 0 (z.Parts.map (·.Lane_))
       ·rfl
       ·rw [if_neg (by decide)]
        have:=C8w (F:=K0 ⟨m⟩ z) z.Parts (B3p m) (2:Int) (fun j p hp=>by
          have hj:=A5e hp
          have hk:=A54 h4 p.Lane_ (List.mem_map.2 ⟨p,List.mem_of_getElem? hp,rfl⟩)
          unfold K0 B3p
          dsimp only
          rw [A5g hj,N7 hp,cond_true,Option.bind_some,C2v B hk.1 hk.2,A1s hj (by omega)]
          cases h5:(decide (p.From<0)||decide (p.From≥p.To))
          ·simp only [Bool.not_false,cond_true,Option.bind_some]
           cases (false||decide (p.To>A11 m p.Lane_)||decide (p.Rank<0)||decide (p.Rank>100))<;>rfl
          ·rfl) (by unfold K0;rw [A36];rfl)
        rw [this]
        cases z.Parts.any (B3p m)<;>rfl) (by
    unfold K1
    dsimp only
    rw [A36];rfl)
  unfold P4
  rw [h]
  cases N6 (zoneE m) 0 m.Zones<;>rfl
end Go.Abs.Roads
namespace Go.Abs.Roads
open Go Go.Abs
structure BearW (m:Map):Prop where
  many:m.Works.length≤1000000
noncomputable def workE (m:Map)(_:Nat)(w:Work):Option Int:=
  if w.Lane_<0∨(m.Lanes.length:Int)≤w.Lane_ then some 7
  else if (decide (w.From<0)||decide (w.From>w.To)||decide (w.To>A11 m w.Lane_)||decide (w.Begin<0)||decide (w.Begin≥w.End)||decide (w.End>1099511627776)|| !inR w.Limit 0 ((m.Lanes[w.Lane_.toNat]?).map fun l=>(C0s l.Kind).1).get!)=true then some 2 else none
theorem C50 {m:Map}(B:Bear m)(W:BearW m):P5 ⟨m⟩=some ((N6 (workE m) 0 m.Works).getD 0):=by
  have hb:=B.lanes
  have h:=A3s m.Works (K2 ⟨m⟩) (workE m) (fun i w hw=>by
    have hi:=A5e hw
    have hm:=W.many
    unfold K2 workE
    dsimp only
    rw [A5g hi,N7 hw,cond_true,Option.bind_some,A1s hi (by omega)]
    by_cases h1:w.Lane_<0∨(m.Lanes.length:Int)≤w.Lane_
    ·rw [if_pos h1,show ((decide (w.Lane_<0))||(decide (w.Lane_≥(m.Lanes.length:Int))))=true by simpa using h1];rfl
    ·rw [if_neg h1,show ((decide (w.Lane_<0))||(decide (w.Lane_≥(m.Lanes.length:Int))))=false by rw [Bool.eq_false_iff];simpa using h1,cond_false]
     obtain ⟨l,e1,e2⟩:=B8d (m:=m) (k:=w.Lane_) (by omega) (by omega)
     rw [e2,Option.bind_some,B72,Option.bind_some,C2v B (by omega) (by omega),A65,e1]
     simp only [Option.map_some,Option.get!_some]
     cases (decide (w.From<0)||decide (w.From>w.To))
     ·simp only [Bool.not_false,cond_true,Option.bind_some]
      cases (false||decide (w.To>A11 m w.Lane_)||decide (w.Begin<0)||decide (w.Begin≥w.End)||decide (w.End>1099511627776))
      ·simp only [Bool.not_false,cond_true,Option.bind_some]
       by_cases hq:inR w.Limit 0 (C0s l.Kind).1=true<;>simp [hq]
      ·rfl
     ·rfl) (by
    unfold K2
    dsimp only
    rw [A36];rfl)
  unfold P5
  rw [h]
  cases N6 (workE m) 0 m.Works<;>rfl
end Go.Abs.Roads
namespace Go.Abs.Roads
open Go Go.Abs
/-- All lists of a map are of bearable lengths. -/
structure BearM (m:Map):Prop where
  toBear:Bear m
  toBearS:BearS m
  toBearZ:BearZ m
  toBearW:BearW m
theorem BearM.lanes {m:Map}(B:BearM m):m.Lanes.length≤1000000:=B.toBear.lanes
noncomputable def C8y (m:Map):Int:=
  if inR m.Version 0 1099511627776=false then 2
  else if m.Lanes.length=0 then 6
  else if 12<m.Lanes.length∨12<m.Zones.length∨4<m.Signals.length∨8<m.Works.length then 8
  else ((N6 (laneE m.Lanes.length) 0 m.Lanes).or ((N6 (nextE m) 0 m.Lanes).or ((N6 (signalE m) 0 m.Signals).or ((N6 (zoneE m) 0 m.Zones).or (N6 (workE m) 0 m.Works))))).getD 0
theorem A03 {α:Type}{g:Nat→α→Option Int}(h: ∀i a e,g i a=some e→e≠0): ∀{l:List α} {i:Nat} {e:Int},N6 g i l=some e→e≠0
  | [],_,_,q=>by cases q
  |a::r,i,e,q=>by
   unfold N6 at q
   cases hg:g i a with
   |some e'=>rw [hg]at q;cases q;exact h i a e hg
   |none=>rw [hg]at q;exact A03 h q
theorem B9h {m:Map}{i:Nat}{z:Zone}{e:Int}(h:zoneE m i z=some e):e≠0:=by
  unfold zoneE at h
  repeat' split at h
  all_goals first|(cases h;decide)|cases h
theorem B4p {m:Map}{i:Nat}{z:Signal}{e:Int}(h:signalE m i z=some e):e≠0:=by
  unfold signalE at h
  repeat' split at h
  all_goals first|(cases h;decide)|cases h
theorem B9i {m:Map}{i:Nat}{z:Work}{e:Int}(h:workE m i z=some e):e≠0:=by
  unfold workE at h
  repeat' split at h
  all_goals first|(cases h;decide)|cases h
theorem B9j {m:Map}{i:Nat}{z:Lane}{e:Int}(h:nextE m i z=some e):e≠0:=A03 (fun _ _ _=>C2s) h
theorem A8y {m:Map}(B:BearM m):X3 m=some (C8y m):=by
  have hb:=B.lanes
  have s0:G6 m 0=(M0 ⟨m⟩).bind fun v2=>cond (v2 !=0) (some (.out (.inr v2))) (some (.go 1)):=rfl
  have s1:G6 m 1=(P2 ⟨m⟩).bind fun v2=>cond (v2 !=0) (some (.out (.inr v2))) (some (.go 2)):=rfl
  have s2:G6 m 2=(N5 ⟨m⟩).bind fun v2=>cond (v2 !=0) (some (.out (.inr v2))) (some (.go 3)):=rfl
  have s3:G6 m 3=(M1 ⟨m⟩).bind fun v2=>cond (v2 !=0) (some (.out (.inr v2))) (some (.go 4)):=rfl
  have s4:G6 m 4=(P4 ⟨m⟩).bind fun v2=>cond (v2 !=0) (some (.out (.inr v2))) (some (.go 5)):=rfl
  have s5:G6 m 5=(P5 ⟨m⟩).bind fun v2=>cond (v2 !=0) (some (.out (.inr v2))) (some (.go 6)):=rfl
  have s6:G6 m 6=some (.out (.inl ())):=rfl
  have stp: ∀(i j:Int) (e:Option Int) (X:Option Int),(∀e',e=some e'→e'≠0)→X=some (e.getD 0)→G6 m i=X.bind (fun v2=>cond (v2 !=0) (some (.out (.inr v2))) (some (.go j)))→loop (G6 m) i=match e with|some e'=>some (.inr e')|none=>loop (G6 m) j:=by
    intro i j e X he hX hs
    subst hX
    rw [Option.bind_some]at hs
    cases e with
    |none=>exact Y1 hs
    |some e'=>
     rw [Option.getD_some,show (e' !=0)=true by simpa using he e' rfl]at hs
     exact H9 hs
  unfold X3 C8y
  have hnum:M0 ⟨m⟩=some ((if inR m.Version 0 1099511627776=false then some 2 else if m.Lanes.length=0 then some 6 else if 12<m.Lanes.length∨12<m.Zones.length∨4<m.Signals.length∨8<m.Works.length then some 8 else none:Option Int).getD 0):=by
    unfold M0
    dsimp only
    rw [A65,Option.bind_some]
    cases inR m.Version 0 1099511627776
    ·rfl
    ·simp only [Bool.not_true,cond_false,Bool.true_eq_false,if_false]
     by_cases h1:m.Lanes.length=0
     ·rw [if_pos h1,h1];rfl
     ·rw [if_neg h1,show ((m.Lanes.length:Int)==0)=false by simp only [beq_eq_false_iff_ne];omega,cond_false]
      by_cases h2:12<m.Lanes.length∨12<m.Zones.length∨4<m.Signals.length∨8<m.Works.length
      ·rw [if_pos h2,show ((((decide ((m.Lanes.length:Int)>12))||(decide ((m.Zones.length:Int)>12)))||(decide ((m.Signals.length:Int)>4)))||(decide ((m.Works.length:Int)>8)))=true by simp;omega];rfl
      ·rw [if_neg h2,show ((((decide ((m.Lanes.length:Int)>12))||(decide ((m.Zones.length:Int)>12)))||(decide ((m.Signals.length:Int)>4)))||(decide ((m.Works.length:Int)>8)))=false by simp;omega];rfl
  rw [stp 0 1 _ _ (by repeat' split
                      all_goals (intro e' h;first|(cases h;decide)|cases h)) hnum s0]
  by_cases q1:inR m.Version 0 1099511627776=false
  ·rw [if_pos q1,if_pos q1];rfl
  ·rw [if_neg q1,if_neg q1]
   by_cases q2:m.Lanes.length=0
   ·rw [if_pos q2,if_pos q2];rfl
   ·rw [if_neg q2,if_neg q2]
    by_cases q3:12<m.Lanes.length∨12<m.Zones.length∨4<m.Signals.length∨8<m.Works.length
    ·rw [if_pos q3,if_pos q3];rfl
    ·rw [if_neg q3,if_neg q3]
     dsimp only
     rw [stp 1 2 _ _ (fun e' h=>A03 (fun _ _ _=>B9f) h) (C4y B.toBear) s1]
     cases H:N6 (laneE m.Lanes.length) 0 m.Lanes with
     |some e=>rfl
     |none=>
      dsimp only
      rw [stp 2 3 _ _ (fun e' h=>A03 (fun _ _ _=>B9j) h) (C2t B.toBear H).1 s2]
      cases N6 (nextE m) 0 m.Lanes with
      |some e=>rfl
      |none=>
       dsimp only
       rw [stp 3 4 _ _ (fun e' h=>A03 (fun _ _ _=>B4p) h) (C0w B.toBear B.toBearS) s3]
       cases N6 (signalE m) 0 m.Signals with
       |some e=>rfl
       |none=>
        dsimp only
        rw [stp 4 5 _ _ (fun e' h=>A03 (fun _ _ _=>B9h) h) (C4z B.toBear B.toBearZ) s4]
        cases N6 (zoneE m) 0 m.Zones with
        |some e=>rfl
        |none=>
         dsimp only
         rw [stp 5 6 _ _ (fun e' h=>A03 (fun _ _ _=>B9i) h) (C50 B.toBear B.toBearW) s5]
         cases N6 (workE m) 0 m.Works with
         |some e=>rfl
         |none=>dsimp only;rw [H9 s6];rfl
end Go.Abs.Roads
namespace Go.Abs.Roads
open Go Go.Abs
/-- What a valid map is. -/
structure ValR (m:Map):Prop where
  ver:0≤m.Version∧m.Version≤1099511627776
  pos:0<m.Lanes.length
  lanes:m.Lanes.length≤12
  zones:m.Zones.length≤12
  signals:m.Signals.length≤4
  works:m.Works.length≤8
  laneE:N6 (laneE m.Lanes.length) 0 m.Lanes=none
  nextE:N6 (nextE m) 0 m.Lanes=none
  signalE:N6 (signalE m) 0 m.Signals=none
  zoneE:N6 (zoneE m) 0 m.Zones=none
  workE:N6 (workE m) 0 m.Works=none
theorem C2w {α:Type}{g:Nat→α→Option Int}{l:List α}(h: ∀i a e,g i a=some e→e≠0)(h0:(N6 g 0 l).getD 0=0):N6 g 0 l=none:=by
  cases q:N6 g 0 l with
  |none=>rfl
  |some e=>rw [q]at h0;exact absurd h0 (A03 h q)
theorem chkR_zero {m:Map}:C8y m=0↔ValR m:=by
  unfold C8y
  constructor
  ·intro h
   split at h
   ·cases h
   ·rename_i h1
    split at h
    ·cases h
    ·rename_i h2
     split at h
     ·cases h
     ·rename_i h3
      simp only [inR,Bool.not_eq_false,Bool.and_eq_true,decide_eq_true_eq]at h1
      have key: ∀{o r:Option Int},(∀e,o=some e→e≠0)→(o.or r).getD 0=0→o=none∧r.getD 0=0:=by
        intro o r ho hr
        cases o with
        |none=>exact ⟨rfl,hr⟩
        |some e=>exact absurd hr (ho e rfl)
      obtain ⟨a1,h⟩:=key (fun e h=>A03 (fun _ _ _=>B9f) h) h
      obtain ⟨a2,h⟩:=key (fun e h=>A03 (fun _ _ _=>B9j) h) h
      obtain ⟨a3,h⟩:=key (fun e h=>A03 (fun _ _ _=>B4p) h) h
      obtain ⟨a4,h⟩:=key (fun e h=>A03 (fun _ _ _=>B9h) h) h
      exact ⟨h1,by omega,by omega,by omega,by omega,by omega,a1,a2,a3,a4,C2w (fun _ _ _=>B9i) h⟩
  ·rintro ⟨h1,h2,h3,h4,h5,h6,a1,a2,a3,a4,a5⟩
   rw [if_neg (by simp only [inR,Bool.not_eq_false,Bool.and_eq_true,decide_eq_true_eq];exact h1),if_neg (by omega),if_neg (by omega),a1,a2,a3,a4,a5];rfl
section
variable {m:Map}
theorem ValR.laneOK (V:ValR m){i:Nat}{l:Lane}(h:m.Lanes[i]? =some l):LaneOK m.Lanes.length i l:=B0k V.laneE h
theorem ValR.next (V:ValR m){i:Nat}{l:Lane}(h:m.Lanes[i]? =some l){k:Int}(hk:k∈l.Next):(i:Int)<k∧k<m.Lanes.length:=by
  have:=A54 (V.laneOK h).next k hk
  omega
end
/-- The lanes in which a lane goes on. -/
def nextOf (m:Map)(a:Nat):List Int:=((m.Lanes[a]?).map (·.Next)).getD []
theorem ValR.nextOf {m:Map}(V:ValR m){a:Nat}{k:Int}(hk:k∈Roads.nextOf m a):(a:Int)<k∧k<m.Lanes.length:=by
  unfold Roads.nextOf at hk
  cases h:m.Lanes[a]? with
  |none=>rw [h]at hk;cases hk
  |some l=>rw [h]at hk;exact V.next h hk
def C5r (m:Map)(b:Int):Nat→Nat→Bool
  |0,_=>false
  |n+1,a=>(nextOf m a).any fun k=>k==b||C5r m b n k.toNat
/-- Does a lane lead to another one? -/
def C8z (m:Map)(a:Nat)(b:Int):Bool:=C5r m b m.Lanes.length a
end Go.Abs.Roads
namespace Go.Abs.Roads
open Go Go.Abs
/-- What is known of the sets of the lanes from a number on. -/
structure Reach (m:Map)(i:Nat)(l:List Nat):Prop where
  len:l.length=12
  small: ∀(a x:Nat),l[a]? =some x→x<2^32
  zero: ∀(a:Nat),a<i→l[a]? =some 0
  bits: ∀(a x:Nat),i≤a→a<m.Lanes.length→l[a]? =some x→∀b:Nat,x.testBit b=C8z m a (b:Int)
theorem Reach.get {m:Map}{i:Nat}{l:List Nat}(R:Reach m i l){a:Nat}(h:a<12): ∃x,l[a]? =some x∧x<2^32:=by
  have:=R.len
  exact ⟨l[a],List.getElem?_eq_getElem (by omega),R.small a _ (List.getElem?_eq_getElem (by omega))⟩
end Go.Abs.Roads
namespace Go.Abs.Roads
open Go Go.Abs
noncomputable def isM (m:Map)(k:Int):Bool:=(decide (k≥0)&&decide (k<m.Lanes.length))&& (C8y m==0)
theorem isM_true {m:Map}{k:Int}:isM m k=true↔0≤k∧k<m.Lanes.length∧ValR m:=by
  unfold isM
  rw [Bool.and_eq_true,Bool.and_eq_true,beq_iff_eq,chkR_zero]
  simp only [decide_eq_true_eq,and_assoc,ge_iff_le]
theorem B3q {m:Map}(B:BearM m)(k:Int):A3b m k=some (isM m k):=by
  unfold A3b isM
  rw [A8y B]
  cases (decide (k≥0)&&decide (k< (m.Lanes.length:Int)))<;>rfl
theorem B8e (l:List Int)(hl:l.length≤1000000)(k:Int):D8 l k=some (l.contains k):=by
  unfold D8 Q4
  rw [B5r l (fun x=>k==x) (by omega) (fun i a h=>by
   have hi:=A5e h
   unfold J4
   rw [A5g hi,N7 h,cond_true,Option.bind_some]
   cases k==a<;>rfl) (by unfold J4;rw [A36];rfl)]
  rw [Option.bind_some,B5q,List.contains_eq_any_beq]
end Go.Abs.Roads
namespace Go.Abs.Roads
open Go Go.Abs
structure ZoneOK (m:Map)(z:Zone):Prop where
  two:2≤z.Parts.length
  six:z.Parts.length≤6
  sig:0≤z.Signal_∧z.Signal_≤m.Signals.length
  rise:A5r m.Lanes.length 0 (z.Parts.map (·.Lane_))=true
  part: ∀p∈z.Parts,0≤p.From∧p.From<p.To∧p.To≤A11 m p.Lane_∧0≤p.Rank∧p.Rank≤100
theorem C0y {m:Map}{i:Nat}{z:Zone}(h:zoneE m i z=none):ZoneOK m z:=by
  unfold zoneE at h
  split at h
  ·cases h
  ·rename_i h1
   split at h
   ·cases h
   ·rename_i h2
    split at h
    ·cases h
    ·rename_i h3
     split at h
     ·cases h
     ·rename_i h4
      split at h
      ·cases h
      ·rename_i h5
       refine ⟨by omega,by omega,by omega,by simpa using h4,fun p hp=> ?_⟩
       have:=List.any_eq_false.1 (Bool.eq_false_iff.2 h5) p hp
       simp only [B3p,Bool.or_eq_true,decide_eq_true_eq,not_or,Int.not_lt,Int.not_le,ge_iff_le,gt_iff_lt]at this
       omega
theorem ValR.zoneOK {m:Map}(V:ValR m){z:Zone}(hz:z∈m.Zones):ZoneOK m z:=by
  obtain ⟨i,hi,rfl⟩:=List.mem_iff_getElem.1 hz
  have:=firstE_none.1 V.zoneE i _ (List.getElem?_eq_getElem hi)
  exact C0y this
theorem ZoneOK.lane {m:Map}{z:Zone}(O:ZoneOK m z){p:Part}(hp:p∈z.Parts):0≤p.Lane_∧p.Lane_<m.Lanes.length:=A54 O.rise p.Lane_ (List.mem_map.2 ⟨p,hp,rfl⟩)
end Go.Abs.Roads
namespace Go.Abs.Roads
open Go Go.Abs
end Go.Abs.Roads
namespace Go.Abs.Roads
open Go Go.Abs
theorem C51:A1x=some true:=B45 _ (by decide+kernel)
end Go.Abs.Roads
namespace Go.Abs.Roads
open Go Go.Abs
end Go.Abs.Roads
namespace Go.Abs.Roads
open Go Go.Abs
theorem A2o (n:Int){m:Int}(hm:0<m):0≤n % m∧n % m<m:=⟨Int.emod_nonneg n (by omega),Int.emod_lt_of_pos n hm⟩
theorem B77 {n m:Int}(hm:0<m):n % m=if n.tmod m<0 then n.tmod m+m else n.tmod m:=by
  have a:=Int.emod_nonneg n (show m≠0 by omega)
  have b:=Int.emod_lt_of_pos n hm
  rw [Int.tmod_eq_emod]
  by_cases q:0≤n∨m ∣ n
  ·rw [if_pos q,if_neg (by omega)];omega
  ·rw [if_neg q]
   have:n % m≠0:=fun e=>q (.inr (Int.dvd_of_emod_eq_zero e))
   rw [if_pos (by omega)];omega
theorem B4q {n m:Int}(hm:0<m)(hm2:m≤9223372036854775807):B0x n m=some (n % m):=by
  have h1:=B77 (n:=n) hm
  have a:=A2o n hm
  unfold B0x C26
  rw [if_neg (by omega),Option.bind_some]
  by_cases q:n.tmod m<0
  ·rw [if_pos q]at h1
   rw [decide_eq_true q,cond_true,P1 (by omega),← h1]
  ·rw [if_neg q]at h1
   rw [decide_eq_false q,cond_false,← h1]
theorem B78 {n m:Int}(hm:0<m)(hm2:m≤9223372036854775807):A7i n m=some (n % m):=by
  have h1:=B77 (n:=n) hm
  have a:=A2o n hm
  unfold A7i C26
  rw [if_neg (by omega),Option.bind_some]
  by_cases q:n.tmod m<0
  ·rw [if_pos q]at h1
   rw [decide_eq_true q,cond_true,P1 (by omega),← h1]
  ·rw [if_neg q]at h1
   rw [decide_eq_false q,cond_false,← h1]
def lnK (kind lim:Int)(next:List Int)(a b c d:Int):Lane:=⟨kind,⟨[⟨a,b⟩,⟨c,d⟩]⟩,if kind=3 then 500 else 1500,lim,next⟩
theorem C7a (kind lim:Int)(next:List Int)(a b c d:Int):P6 kind lim next [a,b,c,d]=some (lnK kind lim next a b c d):=by
  unfold P6 lnK
  rw [Y1 (s':=(2,⟨kind,⟨[⟨a,b⟩]⟩,1500,lim,next⟩)) rfl,Y1 (s':=(4,⟨kind,⟨[⟨a,b⟩,⟨c,d⟩]⟩,1500,lim,next⟩)) rfl,H9 (t:=⟨kind,⟨[⟨a,b⟩,⟨c,d⟩]⟩,1500,lim,next⟩) rfl,Option.bind_some]
  by_cases h:kind=3
  ·rw [if_pos h,h];rfl
  ·rw [if_neg h,show (kind==3)=false by simpa using h];rfl
def sgK (off a b:Int):Signal:=⟨off,[⟨12,[a]⟩,⟨5,[]⟩,⟨9,[b]⟩,⟨4,[]⟩]⟩
/-- The numbers of which a map of the kit is made. -/
structure Par where
  lim:Int
  r:Int
  o:Int
  o':Int
  ver:Int
  wk:List Work
structure ParOK (p:Par):Prop where
  lim:p.lim=1500∨p.lim=600∨p.lim=1000∨p.lim=300
  r:p.r=0∨p.r=1
  o:0≤p.o∧p.o<31
  o':0≤p.o'∧p.o'<31
  ver:0≤p.ver∧p.ver<5
  wk:p.wk= []∨∃b l,0≤b∧b<40∧0≤l∧l≤400∧p.wk= [⟨0,10000,15000,b,b+20,l⟩]
def A55 (k:Nat)(lim:Int):List Lane:=match k with
  |0=> [lnK 1 lim [] 0 0 60000 0]
  |1|2=> [lnK 1 lim [] 0 0 50000 0,lnK 1 1500 [] 30000 (-20000) 30000 20000]
  |3=> [lnK 1 lim [1,2] 0 0 30000 0,lnK 1 1500 [] 30000 0 60000 0,lnK 1 800 [] 30000 0 54000 10000]
  |4=> [lnK 1 lim [2] 0 0 30000 0,lnK 1 1500 [2] 6000 (-10000) 30000 0,lnK 1 1500 [] 30000 0 60000 0]
  |5=> [lnK 1 lim [1] 0 0 20000 0,lnK 1 lim [] 20000 0 50000 0,lnK 3 200 [] 35000 (-8000) 35000 8000]
  |_=> [lnK 1 lim [1,2] 0 0 20000 0,lnK 1 1500 [] 20000 0 50000 0,lnK 1 1000 [] 20000 0 44000 10000,lnK 2 700 [] 36000 (-12000) 36000 18000]
def A2u (k:Nat)(r:Int):List Zone:=match k with
  |1=> [⟨[⟨0,28000,32000,r⟩,⟨1,18000,22000,2 - 2*r⟩],0⟩]
  |2=> [⟨[⟨0,28000,32000,r⟩,⟨1,18000,22000,2 - 2*r⟩],1⟩]
  |4=> [⟨[⟨0,25000,30000,1⟩,⟨1,20000,26000,0⟩,⟨2,0,5000,0⟩],0⟩]
  |5=> [⟨[⟨1,14000,16000,0⟩,⟨2,6000,10000,3⟩],0⟩]
  |6=> [⟨[⟨1,14000,18000,1⟩,⟨3,10000,14000,0⟩],0⟩,⟨[⟨2,14000,21000,1⟩,⟨3,14500,23000,0⟩],0⟩]
  |7=> [⟨[⟨1,14000,18000,1⟩,⟨3,10000,14000,0⟩],1⟩,⟨[⟨2,14000,21000,1⟩,⟨3,14500,23000,0⟩],2⟩]
  |_=> []
def B1b (k:Nat)(o o':Int):List Signal:=match k with
  |2=> [sgK o 0 1]
  |7=> [sgK o 1 3,sgK o' 2 3]
  |_=> []
def B7d (k:Nat)(p:Par):Map:=⟨p.ver,A55 k p.lim,A2u k p.r,B1b k p.o p.o',p.wk⟩
theorem C0z (n:Int): ∃k p,k<8∧ParOK p∧B32 n=some (B7d k p):=by
  obtain ⟨h0,h1⟩:=A2o n (show (0:Int)<16777216 by decide)
  unfold B32
  rw [B4q (by decide) (by decide),Option.bind_some]
  generalize n % 16777216=v at h0 h1
  have t: ∀m:Int,0<m→v.tdiv m=v / m:=fun m hm=>by rw [Int.tdiv_eq_ediv_of_nonneg h0]
  have u: ∀x m:Int,0≤x→x.tmod m=x % m:=fun x m hx=>by rw [Int.tmod_eq_emod_of_nonneg hx]
  have d: ∀m:Int,0<m→0≤v / m∧v / m<16777216:=fun m hm=>⟨Int.ediv_nonneg h0 (by omega),Int.lt_of_le_of_lt (Int.ediv_le_self m h0) h1⟩
  have W: ∀m:Int,0<m→w64 (v / m)=v / m:=fun m hm=>P1 (by have:=d m hm;omega)
  rw [t 7 (by decide),t 28 (by decide),t 56 (by decide),t 1736 (by decide),t 5208 (by decide),t 208320 (by decide)]
  rw [W 7 (by decide),W 28 (by decide),W 56 (by decide),W 1736 (by decide),W 5208 (by decide),W 208320 (by decide)]
  rw [u (v / 7) _ (d 7 (by decide)).1,u (v / 28) 2 (d 28 (by decide)).1,u (v / 28) 31 (d 28 (by decide)).1,u (v / 56) 31 (d 56 (by decide)).1,u (v / 56) 17 (d 56 (by decide)).1,u (v / 1736) _ (d 1736 (by decide)).1,u (v / 5208) _ (d 5208 (by decide)).1,u (v / 208320) _ (d 208320 (by decide)).1,u v _ h0,u (v / 28) 5 (d 28 (by decide)).1]
  have b1:=A2o (v / 7) (show (0:Int)<4 by decide)
  have b2:=A2o (v / 28) (show (0:Int)<2 by decide)
  have b3:=A2o (v / 28) (show (0:Int)<31 by decide)
  have b4:=A2o (v / 56) (show (0:Int)<31 by decide)
  have b5:=A2o (v / 56) (show (0:Int)<17 by decide)
  have b6:=A2o (v / 5208) (show (0:Int)<40 by decide)
  have b7:=A2o (v / 208320) (show (0:Int)<3 by decide)
  have b8:=A2o v (show (0:Int)<7 by decide)
  have b9:=A2o (v / 28) (show (0:Int)<5 by decide)
  generalize v / 7 % 4=q1 at b1
  generalize v / 28 % 2=q2 at b2
  generalize v / 28 % 31=q3 at b3
  generalize v / 56 % 31=q4 at b4
  generalize v / 56 % 17=q5 at b5
  generalize v / 5208 % 40=q6 at b6
  generalize v / 208320 % 3=q7 at b7
  generalize v % 7=q8 at b8
  generalize v / 28 % 5=q9 at b9
  have e1: ∃lim:Int,F1 ([1500,600,1000,300]:List Int) q1=some lim∧(lim=1500∨lim=600∨lim=1000∨lim=300):=by
    rcases (show q1=0∨q1=1∨q1=2∨q1=3 by omega)with rfl|rfl|rfl|rfl
    ·exact ⟨1500,rfl,by decide⟩
    ·exact ⟨600,rfl,by decide⟩
    ·exact ⟨1000,rfl,by decide⟩
    ·exact ⟨300,rfl,by decide⟩
  obtain ⟨lim,e1,hlim⟩:=e1
  rw [e1,Option.bind_some]
  have ew: ∀(L:List Lane) (Z:List Zone) (S:List Signal),∃wk,(wk= []∨∃b l,0≤b∧b<40∧0≤l∧l≤400∧wk= [⟨0,10000,15000,b,b+20,l⟩])∧
   (cond (v / 1736 % 3==1) (some (Map.mk q9 L Z S [(Work.mk 0 10000 15000 q6 (w64 (q6+20)) (w64 (q7*200)))])) (some (Map.mk q9 L Z S [])))=some ⟨q9,L,Z,S,wk⟩:=by
    intro L Z S
    cases v / 1736 % 3==1
    ·exact ⟨[], .inl rfl,rfl⟩
    ·exact ⟨[⟨0,10000,15000,q6,q6+20,q7*200⟩], .inr ⟨q6,q7*200,by omega,by omega,by omega,by omega,rfl⟩,by rw [P1 (by omega),P1 (by omega)];rfl⟩
  have er:w64 (2 - w64 (2*q2))=2 - 2*q2:=by rw [P1 (n:=2*q2) (by omega),P1 (by omega)]
  rw [er]
  simp only [C7a,Option.bind_some]
  have fin: ∀(k:Nat) (o o':Int) (L:List Lane) (Z:List Zone) (S:List Signal),k<8→0≤o∧o<31→0≤o'∧o'<31→L=A55 k lim→Z=A2u k q2→S=B1b k o o'→∃k p,k<8∧ParOK p∧(cond (v / 1736 % 3==1) (some (Map.mk q9 L Z S [(Work.mk 0 10000 15000 q6 (w64 (q6+20)) (w64 (q7*200)))])) (some (Map.mk q9 L Z S [])))=some (B7d k p):=by
    intro k o o' L Z S hk h1 h2 e1 e2 e3
    obtain ⟨wk,w1,w2⟩:=ew L Z S
    subst e1 e2 e3
    exact ⟨k,⟨lim,q2,o,o',q9,wk⟩,hk,⟨hlim,by dsimp only;omega,h1,h2,b9,w1⟩,w2⟩
  rcases (show q8=0∨q8=1∨q8=2∨q8=3∨q8=4∨q8=5∨q8=6 by omega)with rfl|rfl|rfl|rfl|rfl|rfl|rfl
  ·exact fin 0 0 0 _ _ _ (by decide) (by decide) (by decide) rfl rfl rfl
  ·exact fin 1 0 0 _ _ _ (by decide) (by decide) (by decide) rfl rfl rfl
  ·exact fin 2 q3 0 _ _ _ (by decide) b3 (by decide) rfl rfl rfl
  ·exact fin 3 0 0 _ _ _ (by decide) (by decide) (by decide) rfl rfl rfl
  ·exact fin 4 0 0 _ _ _ (by decide) (by decide) (by decide) rfl rfl rfl
  ·exact fin 5 0 0 _ _ _ (by decide) (by decide) (by decide) rfl rfl rfl
  ·rcases (show q2=0∨q2=1 by omega)with rfl|rfl
   ·exact fin 6 0 0 _ _ _ (by decide) (by decide) (by decide) rfl rfl rfl
   ·exact fin 7 q4 q5 _ _ _ (by decide) b4 (by omega) rfl rfl rfl
end Go.Abs.Roads
namespace Go.Abs.Roads
open Go Go.Abs
theorem C2x:((List.range 8).all fun k=>([1500,600,1000,300]:List Int).all fun lim=>([0,1]:List Int).all fun r=>A0v (B7d k ⟨lim,r,0,0,0,[]⟩)==some 0)=true:=by decide+kernel
theorem B8f (k:Nat)(lim:Int):(A55 k lim).length≤4∧∀l∈A55 k lim,l.Curve_.Pts.length=2∧l.Next.length≤2:=by
  unfold A55
  split<;>simp [lnK]
theorem B8g (k:Nat)(r:Int):(A2u k r).length≤2∧∀z∈A2u k r,z.Parts.length≤3:=by
  unfold A2u
  split<;>simp
theorem B4r (k:Nat)(o o':Int):(B1b k o o').length≤2∧∀s∈B1b k o o',s.Phases.length=4∧∀p∈s.Phases,p.Green.length≤1:=by
  unfold B1b
  split<;>simp [sgK]
theorem C2y {m:Map}{k:Nat}{lim r o o':Int}(h1:m.Lanes=A55 k lim)(h2:m.Zones=A2u k r)(h3:m.Signals=B1b k o o')(h4:m.Works.length≤1):BearM m:=by
  obtain ⟨a1,a2⟩:=B8f k lim
  obtain ⟨b1,b2⟩:=B8g k r
  obtain ⟨c1,c2⟩:=B4r k o o'
  refine ⟨⟨by rw [h1];omega,fun l hl=> ?_⟩,⟨by rw [h3];omega,fun s hs=>⟨?_,fun p hp=> ?_⟩⟩,⟨by rw [h2];omega,fun z hz=> ?_⟩,⟨by omega⟩⟩
  ·rw [h1]at hl;have:=a2 l hl;omega
  ·rw [h3]at hs;have:=(c2 s hs).1;omega
  ·rw [h3]at hs;have:=(c2 s hs).2 p hp;omega
  ·rw [h2]at hz;have:=b2 z hz;omega
theorem ParOK.wk1 {p:Par}(h:ParOK p):p.wk.length≤1:=by
  rcases h.wk with e|⟨b,l,_,_,_,_,e⟩<;>rw [e]<;>simp
theorem C52 {k:Nat}{p:Par}(h:ParOK p):BearM (B7d k p):=C2y rfl rfl rfl h.wk1
theorem C9z {k:Nat}{p:Par}(hk:k<8)(h:ParOK p):ValR (B7d k ⟨p.lim,p.r,0,0,0,[]⟩):=by
  have h1:=List.all_eq_true.1 C2x k (List.mem_range.2 hk)
  have h2:=List.all_eq_true.1 h1 p.lim (by have:=h.lim;simp;omega)
  have h3:=List.all_eq_true.1 h2 p.r (by have:=h.r;simp;omega)
  have h4:=A1p _ _ (eq_of_beq h3)
  have h5:=A8y (m:=B7d k ⟨p.lim,p.r,0,0,0,[]⟩) (C2y rfl rfl rfl (Nat.zero_le 1))
  rw [h4]at h5
  exact chkR_zero.1 (Option.some.inj h5).symm
/-- Another version, other offsets, other works. -/
theorem ValR.change {L:List Lane}{Z:List Zone}{S S':List Signal}{W W':List Work}{v v':Int}(V:ValR ⟨v,L,Z,S,W⟩)(hv:0≤v'∧v'≤1099511627776)(hl:S'.length=S.length)(hs: ∀s∈S',Roads.signalE ⟨v,L,Z,S,W⟩ 0 s=none)(hw:W'.length≤8)(hw': ∀w∈W',Roads.workE ⟨v,L,Z,S,W⟩ 0 w=none):ValR ⟨v',L,Z,S',W'⟩:=by
  refine ⟨hv,V.pos,V.lanes,V.zones,by show S'.length≤4;rw [hl];exact V.signals,hw,V.laneE,V.nextE,?_,?_,?_⟩
  ·rw [firstE_none]
   intro j a ha
   exact hs a (List.mem_of_getElem? ha)
  ·have:=V.zoneE
   rw [firstE_none]at this ⊢
   intro j a ha
   have:=this j a ha
   unfold Roads.zoneE at this ⊢
   dsimp only at this ⊢
   rw [hl]
   exact this
  ·rw [firstE_none]
   intro j a ha
   exact hw' a (List.mem_of_getElem? ha)
theorem C2z (k:Nat)(o o' a a':Int):(B1b k o o').length=(B1b k a a').length:=by unfold B1b;split<;>rfl
theorem C53 {k:Nat}{o o':Int}(h:0≤o∧o<31)(h':0≤o'∧o'<31){m:Map}(hm:m.Lanes.length=(A55 k 0).length): ∀s∈B1b k o o',signalE m 0 s=none:=by
  have key: ∀(off a b:Int),0≤off∧off<31→0≤a∧a<m.Lanes.length→0≤b∧b<m.Lanes.length→signalE m 0 (sgK off a b)=none:=by
    intro off a b h1 h2 h3
    unfold signalE sgK
    simp only [List.length_cons,List.length_nil]
    rw [if_neg (by decide),if_neg (by decide),if_neg (by simp [inR];omega),if_neg (by simp [inR]),if_neg]
    simp only [List.any_cons,List.any_nil,A5r,Bool.and_true,Bool.or_false,Bool.not_true,Bool.false_or,Bool.or_eq_true,Bool.not_eq_true',not_or,Bool.not_eq_false,Bool.and_eq_true,decide_eq_true_eq]
    omega
  intro s hs
  unfold B1b at hs
  split at hs
  ·rw [show (A55 2 0).length=2 from rfl]at hm
   simp only [List.mem_singleton]at hs
   subst hs
   exact key _ _ _ h (by omega) (by omega)
  ·rw [show (A55 7 0).length=4 from rfl]at hm
   simp only [List.mem_cons,List.not_mem_nil,or_false]at hs
   rcases hs with rfl|rfl
   ·exact key _ _ _ h (by omega) (by omega)
   ·exact key _ _ _ h' (by omega) (by omega)
  ·cases hs
theorem C10 (k:Nat)(lim:Int):(A55 k lim).length=(A55 k 0).length:=by unfold A55;split<;>rfl
end Go.Abs.Roads
namespace Go.Abs.Roads
open Go Go.Abs
theorem B0l (c:Int)(h:A4e ⟨[⟨0,0⟩,⟨c,0⟩]⟩=some c):B2c ⟨[⟨0,0⟩,⟨c,0⟩]⟩=c:=by
  have h1:=A7v _ _ h
  rw [A83 _ (by simp)]at h1
  exact Option.some.inj h1
/-- The first lane of a map of the kit: a road, long enough. -/
theorem B3r (k:Nat)(lim:Int): ∃l,(A55 k lim)[0]? =some l∧l.Kind=1∧l.Limit=lim∧20000≤B2c l.Curve_∧B2c l.Curve_≤60000:=by
  have e6:=B0l 60000 (by decide+kernel)
  have e5:=B0l 50000 (by decide+kernel)
  have e3:=B0l 30000 (by decide+kernel)
  have e2:=B0l 20000 (by decide+kernel)
  unfold A55
  split
  ·exact ⟨_,rfl,rfl,rfl,by show 20000≤B2c ⟨[⟨0,0⟩,⟨60000,0⟩]⟩∧B2c ⟨[⟨0,0⟩,⟨60000,0⟩]⟩≤60000;rw [e6];decide⟩
  ·exact ⟨_,rfl,rfl,rfl,by show 20000≤B2c ⟨[⟨0,0⟩,⟨50000,0⟩]⟩∧B2c ⟨[⟨0,0⟩,⟨50000,0⟩]⟩≤60000;rw [e5];decide⟩
  ·exact ⟨_,rfl,rfl,rfl,by show 20000≤B2c ⟨[⟨0,0⟩,⟨50000,0⟩]⟩∧B2c ⟨[⟨0,0⟩,⟨50000,0⟩]⟩≤60000;rw [e5];decide⟩
  ·exact ⟨_,rfl,rfl,rfl,by show 20000≤B2c ⟨[⟨0,0⟩,⟨30000,0⟩]⟩∧B2c ⟨[⟨0,0⟩,⟨30000,0⟩]⟩≤60000;rw [e3];decide⟩
  ·exact ⟨_,rfl,rfl,rfl,by show 20000≤B2c ⟨[⟨0,0⟩,⟨30000,0⟩]⟩∧B2c ⟨[⟨0,0⟩,⟨30000,0⟩]⟩≤60000;rw [e3];decide⟩
  ·exact ⟨_,rfl,rfl,rfl,by show 20000≤B2c ⟨[⟨0,0⟩,⟨20000,0⟩]⟩∧B2c ⟨[⟨0,0⟩,⟨20000,0⟩]⟩≤60000;rw [e2];decide⟩
  ·exact ⟨_,rfl,rfl,rfl,by show 20000≤B2c ⟨[⟨0,0⟩,⟨20000,0⟩]⟩∧B2c ⟨[⟨0,0⟩,⟨20000,0⟩]⟩≤60000;rw [e2];decide⟩
theorem D00 {m:Map}{l:Lane}(hl:m.Lanes[0]? =some l)(hk:l.Kind=1){w:Work}(h:w.Lane_=0∧0≤w.From∧w.From≤w.To∧w.To≤B2c l.Curve_∧0≤w.Begin∧w.Begin<w.End∧w.End≤1099511627776∧0≤w.Limit∧w.Limit≤2000):workE m 0 w=none:=by
  obtain ⟨h1,h2,h3,h4,h5,h6,h7,h8,h9⟩:=h
  have hlen:=A5e hl
  unfold workE A11
  rw [h1,show ((0:Int).toNat)=0 from rfl,hl,if_neg (by omega),if_neg]
  simp only [Option.map_some,Option.getD_some,Option.get!_some,hk,inR,C0s,if_true,Bool.or_eq_true,decide_eq_true_eq,Bool.not_eq_true',not_or,Bool.not_eq_false,Bool.and_eq_true]
  omega
/-- A map of the kit is valid, with such works. -/
theorem C54 {k:Nat}{p:Par}(hk:k<8)(h:ParOK p){W:List Work}(hw:W.length≤8)(hW: ∀w∈W,w.Lane_=0∧0≤w.From∧w.From≤w.To∧w.To≤A11 (B7d k p) 0∧0≤w.Begin∧w.Begin<w.End∧w.End≤1099511627776∧0≤w.Limit∧w.Limit≤2000):ValR ⟨p.ver,A55 k p.lim,A2u k p.r,B1b k p.o p.o',W⟩:=by
  have V:=C9z hk h
  obtain ⟨l,l1,l2,l3,l4,l5⟩:=B3r k p.lim
  have hv:=h.ver
  refine ValR.change (v:=0) (S:=B1b k 0 0) (W:= []) V (by omega) (C2z k _ _ _ _) (fun s hs=>C53 h.o h.o' (by exact C10 k p.lim) s hs) hw (fun w hwm=> ?_)
  obtain ⟨a1,a2,a3,a4,a5,a6,a7,a8,a9⟩:=hW w hwm
  refine D00 (l:=l) l1 l2 ⟨a1,a2,a3,?_,a5,a6,a7,a8,a9⟩
  have:A11 (B7d k p) 0=B2c l.Curve_:=by
    unfold A11 B7d
    dsimp only
    rw [show ((0:Int).toNat)=0 from rfl,l1];rfl
  omega
theorem C30 (k:Nat)(p:Par):20000≤A11 (B7d k p) 0∧A11 (B7d k p) 0≤60000:=by
  obtain ⟨l,l1,l2,l3,l4,l5⟩:=B3r k p.lim
  unfold A11 B7d
  dsimp only
  rw [show ((0:Int).toNat)=0 from rfl,l1]
  exact ⟨l4,l5⟩
theorem C7b {k:Nat}{p:Par}(hk:k<8)(h:ParOK p):ValR (B7d k p):=by
  have hl:=C30 k p
  refine C54 hk h (Nat.le_trans h.wk1 (by decide)) (fun w hw=> ?_)
  rcases h.wk with e|⟨b,l,h1,h2,h3,h4,e⟩
  ·rw [e]at hw;cases hw
  ·rw [e]at hw
   simp only [List.mem_singleton]at hw
   subst hw
   dsimp only
   omega
/-! ### Limits -/
end Go.Abs.Roads
namespace Go.Abs
end Go.Abs
namespace Go.Abs.Roads
open Go Go.Abs
end Go.Abs.Roads
namespace Go.Abs.Roads
open Go Go.Abs
/-! ### How long lanes are -/
theorem C5s: ∀(l:List Int) (s:Int),(∀x∈l,0≤x∧x≤1048576)→0≤s→s+1048576*l.length≤9000000000000000000→s≤C2q s l∧C2q s l≤s+1048576*l.length
  | [],s,_,_,_=>by simp [C2q]
  |a::r,s,h,h0,h1=>by
   have ha:=h a (by simp)
   simp only [List.length_cons]at h1 ⊢
   rw [C2q,P1 (by omega)]
   have:=C5s r (s+a) (fun x hx=>h x (by simp [hx])) (by omega) (by omega)
   omega
theorem C55: ∀{l:List Spot} {last:Option CurveVector},Good last l→∀x∈C0q l,1000≤x∧x≤1048576:=by
  intro l last h
  induction h with
  |one last p=>intro x hx;simp [C0q]at hx
  |cons last p q r h1 h2 h3 h4 h ih=>
   intro x hx
   rw [B0j,List.mem_cons]at hx
   rcases hx with rfl|hx
   ·exact ⟨h2,h3⟩
   ·exact ih x hx
theorem C7c {c:Curve}(h:A3r c.Pts=0):1000≤B2c c∧B2c c≤16777216:=by
  have V:=checkM_zero.1 h
  unfold B2c A82
  rw [if_pos h]
  have h16:=V.most
  have h2:=V.two
  have hm:=C55 V.good
  cases hp:c.Pts with
  |nil=>rw [hp]at h2;simp at h2
  |cons p r=>
   rw [hp]at hm h16 h2
   cases r with
   |nil=>simp at h2
   |cons q r=>
    simp only [List.length_cons]at h16
    rw [B0j]at hm ⊢
    have ha:=hm _ (List.mem_cons_self)
    have hl:=A71 r q
    rw [C2q,P1 (by omega),Int.zero_add]
    have:=C5s (C0q (q::r)) (rt (A1q (vec p q) (vec p q))) (fun x hx=>by have:=hm x (List.mem_cons_of_mem _ hx);omega) (by omega) (by rw [hl];omega)
    rw [hl]at this
    omega
theorem ValR.long {m:Map}(V:ValR m){k:Int}(h0:0≤k)(h1:k<m.Lanes.length):1000≤A11 m k∧A11 m k≤16777216:=by
  obtain ⟨l,e1,e2⟩:=B8d h0 h1
  unfold A11
  rw [e1]
  exact C7c (V.laneOK e1).curve
/-! ### Routes -/
end Go.Abs.Roads
namespace Go.Abs.Roads
open Go Go.Abs
end Go.Abs.Roads
/-! Lists that are sorted, and how an insertion sort makes them. -/
namespace Go.Abs
open Go
/-- What a comparison must satisfy. -/
structure LtOK {α:Type}(lt:α→α→Bool):Prop where
  asym: ∀a b,lt a b=true→lt b a=false
  trans: ∀a b c,lt b a=false→lt c b=false→lt c a=false
def Srt {α:Type}(lt:α→α→Bool)(l:List α):Prop:=l.Pairwise fun a b=>lt b a=false
section
variable {α:Type}
theorem B9k (U V:List α)(x y:α)(n:Int)(h:n=(U.length:Int)):B5b (U++x::V) n y=U++y::V:=by
  subst h
  simp [B5b]
theorem B5s (U V:List α)(x:α)(n:Int)(h:n=(U.length:Int)):F1 (U++x::V) n=some x:=by
  subst h
  simp [F1]
theorem C11 {Q:List α}(h:Q≠ []): ∃Q' q,Q=Q'++ [q]:=⟨Q.dropLast,Q.getLast h,(List.dropLast_concat_getLast h).symm⟩
variable {lt:α→α→Bool}
theorem Srt.ins (L:LtOK lt){Q1 Q2:List α}{x:α}(h:Srt lt (Q1++Q2))(h1: ∀q∈Q1,lt x q=false)(h2: ∀q∈Q2,lt x q=true):Srt lt (Q1++x::Q2):=by
  unfold Srt at h ⊢
  rw [List.pairwise_append]at h ⊢
  refine ⟨h.1,List.pairwise_cons.2 ⟨fun b hb=>L.asym _ _ (h2 b hb),h.2.1⟩,fun a ha b hb=> ?_⟩
  rcases List.mem_cons.1 hb with rfl|hb
  ·exact h1 a ha
  ·exact h.2.2 a ha b hb
theorem LtOK.irr (L:LtOK lt)(a:α):lt a a=false:=by
  cases h:lt a a with
  |false=>rfl
  |true=>rw [L.asym a a h]at h;cases h
theorem Srt.get (L:LtOK lt){l:List α}(h:Srt lt l){i j:Nat}(hij:i≤j)(hj:j<l.length):lt l[j] l[i]=false:=by
  rcases Nat.lt_or_eq_of_le hij with h1|h1
  ·exact List.pairwise_iff_getElem.1 h i j (by omega) hj h1
  ·subst h1;exact L.irr _
/-- The inner loop: an element goes down to its place. -/
theorem C31 (L:LtOK lt){F:Int×List α→Option (Stp (Int×List α) (List α))}{P T:List α}(N:Nat)
    (hstop: ∀xs,F ((P.length:Int),xs)=some (.out xs))
    (hF: ∀(U V:List α) (q x:α),P.length≤U.length→(U++q::x::V).length=N→F (((U.length:Int)+1),U++q::x::V)=some (if lt x q then .go ((U.length:Int),U++x::q::V)else .out (U++q::x::V))) (x:α):
    ∀(n:Nat) (Q1 Q2:List α),Q1.length=n→Srt lt (Q1++Q2)→(∀q∈Q2,lt x q=true)→(P++Q1++x::Q2++T).length=N→
     ∃Q,loop F (((P.length+Q1.length:Nat):Int),P++Q1++x::Q2++T)=some (P++Q++T)∧Q.Perm (x::(Q1++Q2))∧Srt lt Q:=by
  intro n
  induction n with
  |zero=>
   intro Q1 Q2 hn hs hg hN
   obtain rfl:=List.length_eq_zero_iff.1 hn
   refine ⟨x::Q2,?_,by simp,?_⟩
   ·rw [H9 (by rw [List.length_nil,Nat.add_zero];exact hstop _)]
    simp
   ·exact hs.ins L (by simp) hg
  |succ n ih=>
   intro Q1 Q2 hn hs hg hN
   obtain ⟨Q',q,rfl⟩:=C11 (Q:=Q1) (by rintro rfl;simp at hn)
   rw [List.length_append,List.length_singleton]at hn
   have e1:P++ (Q'++ [q])++x::Q2++T=(P++Q')++q::x::(Q2++T):=by simp
   have e2:((P.length+ (Q'++ [q]).length:Nat):Int)=((P++Q').length:Int)+1:=by simp;omega
   have hF1:=hF (P++Q') (Q2++T) q x (by simp) (by rw [← e1];exact hN)
   by_cases hl:lt x q=true
   ·rw [if_pos hl]at hF1
    obtain ⟨Q,g1,g2,g3⟩:=ih Q' (q::Q2) (by omega) (by simpa using hs) (fun y hy=>by
      rcases List.mem_cons.1 hy with rfl|hy
      ·exact hl
      ·exact hg y hy) (by rw [← hN];simp)
    refine ⟨Q,?_,g2.trans (by simp),g3⟩
    rw [e1,e2,Y1 hF1,← g1]
    congr 1
    simp
   ·rw [if_neg hl]at hF1
    have hl':lt x q=false:=by simpa using hl
    refine ⟨Q'++ [q]++x::Q2,?_,?_,hs.ins L (fun y hy=> ?_) hg⟩
    ·rw [e1,e2,H9 hF1];simp
    ·have:=List.perm_middle (a:=x) (l₁:=Q'++ [q]) (l₂:=Q2);exact this
    ·rcases List.mem_append.1 hy with h|h
     ·have hq:lt q y=false:=by
        unfold Srt at hs
        rw [List.append_assoc,List.pairwise_append]at hs
        exact hs.2.2 y h q (by simp)
      exact L.trans y q x hq hl'
     ·rw [List.mem_singleton.1 h];exact hl'
/-- The outer loop. -/
theorem C32 {F:Int×List α→Option (Stp (Int×List α) (List α))}{P S:List α}(N:Nat)(b:Nat)
    (hend: ∀xs (i:Nat),b≤i→F ((i:Int),xs)=some (.out xs))
    (hF: ∀(Q R:List α) (x:α),(P++Q++x::R++S).length=N→P.length+Q.length<b→Srt lt Q→∃Q',F (((P.length+Q.length:Nat):Int),P++Q++x::R++S)=some (.go (((P.length+Q.length+1:Nat):Int),P++Q'++R++S))∧Q'.Perm (x::Q)∧Srt lt Q'):
    ∀(R Q:List α),(P++Q++R++S).length=N→P.length+Q.length+R.length=b→Srt lt Q→∃Q',loop F (((P.length+Q.length:Nat):Int),P++Q++R++S)=some (P++Q'++S)∧Q'.Perm (Q++R)∧Srt lt Q':=by
  intro R
  induction R with
  |nil=>
   intro Q hN hb hs
   refine ⟨Q,?_,by simp,hs⟩
   rw [H9 (hend _ _ (by simpa using Nat.le_of_eq hb.symm))]
   simp
  |cons x R ih=>
   intro Q hN hb hs
   rw [List.length_cons]at hb
   obtain ⟨Q',g1,g2,g3⟩:=hF Q R x hN (by omega) hs
   have hl:Q'.length=Q.length+1:=by rw [g2.length_eq];simp
   obtain ⟨Q2,k1,k2,k3⟩:=ih Q' (by rw [← hN];simp [hl];omega) (by omega) g3
   refine ⟨Q2,?_,k2.trans ((g2.append_right R).trans ?_),k3⟩
   ·rw [Y1 g1,← k1,hl]
    congr 1
   ·exact (List.perm_middle (a:=x) (l₁:=Q) (l₂:=R)).symm
end
end Go.Abs
/-! How the lists are sorted. -/
namespace Go.Abs.Roads
open Go Go.Abs
def ltI (a b:Int):Bool:=decide (a<b)
theorem C90:LtOK ltI:=⟨fun a b h=>by simp only [ltI,decide_eq_true_eq,decide_eq_false_iff_not]at h ⊢;omega,fun a b c h1 h2=>by simp only [ltI,decide_eq_false_iff_not]at h1 h2 ⊢;omega⟩
theorem C7d (a b:Int):A1j a b=some (ltI a b):=by
  have h: ∀x:Int,Y2 x=some false:=fun x=>by unfold Y2;simp
  unfold A1j
  rw [h,Option.bind_some]
  rfl
theorem app2 {α:Type}(U V:List α)(q x:α):U++q::x::V=(U++ [q])++x::V:=by simp
theorem C12 (P T:List Int)(x:Int)(Q:List Int)(hs:Srt ltI Q)(hN:(P++Q++x::T).length≤1000000):
    ∃Q',loop (B8 (P.length:Int)) (((P.length+Q.length:Nat):Int),P++Q++x::T)=some (P++Q'++T)∧Q'.Perm (x::Q)∧Srt ltI Q':=by
  have hstop: ∀xs,B8 (P.length:Int) ((P.length:Int),xs)=some (.out xs):=fun xs=>by
    unfold B8
    simp only [show decide ((P.length:Int)>(P.length:Int))=false from decide_eq_false (by omega),cond_false,Bool.false_and,Option.bind_some]
  have hF: ∀(U V:List Int) (q y:Int),P.length≤U.length→(U++q::y::V).length=(P++Q++x::T).length→B8 (P.length:Int) (((U.length:Int)+1),U++q::y::V)=some (if ltI y q then .go ((U.length:Int),U++y::q::V)else .out (U++q::y::V)):=fun U V q y hP hl=>by
    unfold B8
    have hb:U.length+2≤1000000:=by rw [← hl]at hN;simp at hN;omega
    have e1:w64 ((U.length:Int)+1 - 1)=(U.length:Int):=by rw [P1 (by omega)];omega
    have g1:F1 (U++q::y::V) ((U.length:Int)+1)=some y:=by rw [app2];exact B5s _ _ _ _ (by simp)
    have g2:F1 (U++q::y::V) (U.length:Int)=some q:=B5s _ _ _ _ rfl
    have s1:B5b (U++q::y::V) ((U.length:Int)+1) q=U++q::q::V:=by rw [app2,B9k _ _ _ _ _ (by simp)];simp
    have g3:F1 (U++q::q::V) (U.length:Int)=some q:=B5s _ _ _ _ rfl
    have s2:B5b (U++q::q::V) (U.length:Int) y=U++y::q::V:=B9k _ _ _ _ _ rfl
    simp only [show decide (((U.length:Int)+1)>(P.length:Int))=true from decide_eq_true (by omega),cond_true,Bool.true_and,e1,g1,g2,s1,g3,s2,Option.bind_some,C7d]
    cases ltI y q<;>rfl
  obtain ⟨Q',h1,h2,h3⟩:=C31 C90 (P:=P) (T:=T) (P++Q++x::T).length hstop hF x Q.length Q [] rfl (by simpa using hs) (by simp) (by simp)
  refine ⟨Q',?_,by simpa using h2,h3⟩
  rw [← h1];congr 1;simp
theorem C7e (P A S:List Int)(hN:(P++A++S).length≤1000000):
    ∃A',E4 (P++A++S) (P.length:Int) ((P.length+A.length:Nat):Int)=some (P++A'++S)∧A'.Perm A∧Srt ltI A':=by
  unfold E4
  have hend: ∀(xs:List Int) (i:Nat),P.length+A.length≤i→C6 (P.length:Int) ((P.length+A.length:Nat):Int) ((i:Int),xs)=some (.out xs):=fun xs i hi=>by
    unfold C6
    rw [show decide ((i:Int)< ((P.length+A.length:Nat):Int))=false from decide_eq_false (by omega)];rfl
  simp only [List.length_append]at hN
  have hw:w64 ((P.length:Int)+1)=((P.length+1:Nat):Int):=by rw [P1 (by omega)];omega
  cases A with
  |nil=>
   refine ⟨[],?_,by simp,List.Pairwise.nil⟩
   rw [hw,H9 (hend _ _ (by simp))]
  |cons a A=>
   have hF: ∀(Q R:List Int) (x:Int),(P++Q++x::R++S).length=(P++a::A++S).length→P.length+Q.length<P.length+ (a::A).length→Srt ltI Q→∃Q',C6 (P.length:Int) ((P.length+ (a::A).length:Nat):Int) (((P.length+Q.length:Nat):Int),P++Q++x::R++S)=some (.go (((P.length+Q.length+1:Nat):Int),P++Q'++R++S))∧Q'.Perm (x::Q)∧Srt ltI Q':=fun Q R x hl hb hs=>by
     obtain ⟨Q',k1,k2,k3⟩:=C12 P (R++S) x Q hs (by simp only [List.length_append,List.length_cons]at hl hN ⊢;omega)
     refine ⟨Q',?_,k2,k3⟩
     unfold C6
     have e1:P++Q++x::R++S=P++Q++x::(R++S):=by simp
     rw [show decide (((P.length+Q.length:Nat):Int)< ((P.length+ (a::A).length:Nat):Int))=true from decide_eq_true (by omega),cond_true]
     simp only [e1,k1,Option.bind_some]
     rw [P1 (by simp only [List.length_cons]at hN hb;omega)]
     simp
   obtain ⟨A',h1,h2,h3⟩:=C32 (lt:=ltI) (P:=P) (S:=S) (P++a::A++S).length (P.length+ (a::A).length) hend hF A [a] (by simp) (by simp;omega) (List.pairwise_singleton _ _)
   refine ⟨A',?_,h2,h3⟩
   rw [hw,← h1];congr 1;simp
theorem C33 (n:Nat)(h:n≤12): ∃v,A16 (IntKind.wrap .u64 (n:Int))=some v:=by
  have: ∀n:Fin 13,(A16 (IntKind.wrap .u64 ((n.val:Nat):Int))).isSome=true:=by decide+kernel
  exact Option.isSome_iff_exists.1 (this ⟨n,by omega⟩)
theorem C7f (xs:List Int)(h:xs.length≤12): ∃ys,O0 xs=some ys∧ys.Perm xs∧Srt ltI ys:=by
  obtain ⟨v,hv⟩:=C33 _ h
  obtain ⟨ys,h1,h2,h3⟩:=C7e [] xs [] (by simp;omega)
  refine ⟨ys,?_,h2,h3⟩
  unfold O0 O5
  rw [hv,Option.bind_some,H9 (t:=ys)]
  ·rfl
  ·unfold L7
   simp only [List.length_nil,Nat.zero_add,List.nil_append,List.append_nil]at h1
   have e:w64 ((xs.length:Int) - 0)≤12:=by rw [P1 (by omega)];omega
   rw [show decide (w64 ((xs.length:Int) - 0)≤12)=true from decide_eq_true e,cond_true]
   have h1':E4 xs 0 (xs.length:Int)=some ys:=h1
   rw [h1',Option.bind_some]
theorem C56:O1=some ():=by
  obtain ⟨v,hv⟩:=C33 0 (by omega)
  unfold O1 O6
  rw [show IntKind.wrap .u64 0=IntKind.wrap .u64 ((0:Nat):Int) from rfl,hv,Option.bind_some,H9 (t:=())]
  ·rfl
  ·unfold L8 J5
   rw [H9 (t:=())]
   ·rfl
   ·rfl
end Go.Abs.Roads
/-! Signals, and the red lines. -/
namespace Go.Abs.Roads
open Go Go.Abs
theorem B1c: ∀(l:List Int) (x:Int),x∈A1b l↔x∈l
  | [],_=> .rfl
  | [_],_=> .rfl
  |a::b::r,x=>by
   have ih:=B1c (b::r) x
   rw [A1b]
   by_cases e:a=b
   ·subst e
    rw [show (a==a)=true by simp,cond_true,ih]
    simp
   ·rw [show (a==b)=false by simp [e],cond_false,List.mem_cons,ih,List.mem_cons (a:=x) (b:=a)]
theorem B0m: ∀(l:List Int),l.Pairwise (· ≤ ·)→(A1b l).Pairwise (· < ·)
  | [],_=>List.Pairwise.nil
  | [_],_=>List.pairwise_singleton _ _
  |a::b::r,h=>by
   obtain ⟨h1,h2⟩:=List.pairwise_cons.1 h
   have ih:=B0m (b::r) h2
   rw [A1b]
   by_cases e:a=b
   ·rw [show (a==b)=true by simp [e],cond_true];exact ih
   ·rw [show (a==b)=false by simp [e],cond_false]
    refine List.pairwise_cons.2 ⟨fun x hx=> ?_,ih⟩
    have hx':=(B1c _ _).1 hx
    have hb:=h1 b (by simp)
    rcases List.mem_cons.1 hx' with rfl|hx'
    ·omega
    ·have:=(List.pairwise_cons.1 h2).1 x hx';omega
structure SigOK (s:Signal):Prop where
  pos:0<s.Phases.length
  many:s.Phases.length≤6
  off:0≤s.Offset∧s.Offset≤1099511627776
  ticks: ∀p∈s.Phases,1≤p.Ticks∧p.Ticks≤10000
  green: ∀p∈s.Phases,p.Green.length≤1000000
theorem ValR.sig {m:Map}(B:BearM m)(V:ValR m){i:Nat}{s:Signal}(h:m.Signals[i]? =some s):SigOK s:=by
  have:=firstE_none.1 V.signalE i s h
  unfold Roads.signalE at this
  split at this
  ·cases this
  split at this
  ·cases this
  split at this
  ·cases this
  split at this
  ·cases this
  rename_i h1 h2 h3 h4
  refine ⟨by omega,by omega,?_,fun p hp=> ?_,(B.toBearS.phases s (List.mem_of_getElem? h)).2⟩
  ·have:inR s.Offset 0 1099511627776=true:=by simpa using h3
   simpa [inR] using this
  ·have:inR p.Ticks 1 10000=true:=by
     cases q:inR p.Ticks 1 10000 with
     |true=>rfl
     |false=>exact absurd (List.any_eq_true.2 ⟨p,hp,by rw [q];rfl⟩) h4
   simpa [inR] using this
def A7c:List Phase→Int
  | []=>0
  |p::r=>p.Ticks+A7c r
def B5t (lane:Int):Int→List Phase→Bool
  |_,[]=>false
  |at_,p::r=>if p.Ticks≤at_ then B5t lane (at_ - p.Ticks) r else p.Green.contains lane
def A84 (s:Signal)(lane tick:Int):Bool:=B5t lane ((s.Offset+tick) % A7c s.Phases) s.Phases
theorem C34: ∀{l:List Phase},(∀p∈l,1≤p.Ticks∧p.Ticks≤10000)→(l.length:Int)≤A7c l∧A7c l≤10000*l.length
  | [],_=>by simp [A7c]
  |p::r,h=>by
   have:=C34 (l:=r) fun q hq=>h q (List.mem_cons_of_mem _ hq)
   have:=h p (by simp)
   simp only [A7c,List.length_cons]
   omega
theorem SigOK.sum {s:Signal}(S:SigOK s):1≤A7c s.Phases∧A7c s.Phases≤60000:=by
  have:=C34 S.ticks
  have:=S.pos
  have:=S.many
  omega
theorem g_l1 (s:Signal)(S:SigOK s): ∀(r:List Phase) (i:Nat) (a:Int),s.Phases.drop i=r→i≤s.Phases.length→0≤a→a+10000*r.length≤1000000→loop (U8 s) (a,(i:Int))=some (a+A7c r):=by
  intro r
  induction r with
  |nil=>
   intro i a hi hil h0 h1
   have:=A13 hi
   obtain rfl:i=s.Phases.length:=by omega
   refine H9 ?_
   unfold U8
   rw [A36];simp [A7c]
  |cons p r ih=>
   intro i a hi hil h0 h1
   have hlt:=A1u hi
   have hp:=A5f hi
   have hb:=S.ticks p (List.mem_of_getElem? hp)
   simp only [List.length_cons]at h1
   have hs:U8 s (a,(i:Int))=some (.go (a+p.Ticks,((i+1:Nat):Int))):=by
     unfold U8
     dsimp only
     rw [A5g hlt,N7 hp,cond_true,Option.bind_some,P1 (by omega),A1s hlt (by have:=S.many;omega)]
   rw [Y1 hs,ih (i+1) _ (T4 hi) (by omega) (by omega) (by omega),A7c]
   congr 1;omega
theorem g_l2 (s:Signal)(S:SigOK s)(lane:Int): ∀(r:List Phase) (i:Nat) (a:Int),s.Phases.drop i=r→i≤s.Phases.length→0≤a→a≤1000000→thenS (loop (R3 s lane) (a,(i:Int))) (fun _=>some false) (fun r=>some r)=some (B5t lane a r):=by
  intro r
  induction r with
  |nil=>
   intro i a hi hil h0 h1
   have:=A13 hi
   obtain rfl:i=s.Phases.length:=by omega
   rw [H9 (t:= .inl ())]
   ·rfl
   ·unfold R3
    rw [A36];rfl
  |cons p r ih=>
   intro i a hi hil h0 h1
   have hlt:=A1u hi
   have hp:=A5f hi
   have hb:=S.ticks p (List.mem_of_getElem? hp)
   by_cases hc:p.Ticks≤a
   ·have hs:R3 s lane (a,(i:Int))=some (.go (a - p.Ticks,((i+1:Nat):Int))):=by
      unfold R3
      dsimp only
      rw [A5g hlt,N7 hp,cond_true,Option.bind_some,show decide (a≥p.Ticks)=true from decide_eq_true hc,cond_true,P1 (by omega),A1s hlt (by have:=S.many;omega)]
    rw [Y1 hs,ih (i+1) _ (T4 hi) (by omega) (by omega) (by omega),B5t,if_pos hc]
   ·have hs:R3 s lane (a,(i:Int))=some (.out (.inr (p.Green.contains lane))):=by
      unfold R3
      dsimp only
      rw [A5g hlt,N7 hp,cond_true,Option.bind_some,show decide (a≥p.Ticks)=false from decide_eq_false (by omega),cond_false,B8e _ (S.green p (List.mem_of_getElem? hp)),Option.bind_some]
    rw [H9 hs,B5t,if_neg hc];rfl
theorem D01 {s:Signal}(S:SigOK s){tick:Int}(h:0≤tick):(w64 (s.Offset.tmod (A7c s.Phases)+tick.tmod (A7c s.Phases))).tmod (A7c s.Phases)=(s.Offset+tick) % A7c s.Phases:=by
  obtain ⟨h1,h2⟩:=S.sum
  have ho:=S.off.1
  rw [Int.tmod_eq_emod_of_nonneg ho,Int.tmod_eq_emod_of_nonneg h]
  have a1:=Int.emod_nonneg s.Offset (b:=A7c s.Phases) (by omega)
  have a2:=Int.emod_nonneg tick (b:=A7c s.Phases) (by omega)
  have a3:=Int.emod_lt_of_pos s.Offset (b:=A7c s.Phases) (by omega)
  have a4:=Int.emod_lt_of_pos tick (b:=A7c s.Phases) (by omega)
  rw [P1 (by omega),Int.tmod_eq_emod_of_nonneg (by omega),← Int.add_emod]
theorem B79 {s:Signal}(S:SigOK s)(lane:Int){tick:Int}(h:0≤tick):A2x s lane tick=some (A84 s lane tick):=by
  obtain ⟨h1,h2⟩:=S.sum
  unfold A2x
  have e1:loop (U8 s) (0,0)=some (A7c s.Phases):=by
    have:=g_l1 s S s.Phases 0 0 rfl (by omega) (by omega) (by have:=S.many;omega)
    rw [Int.zero_add]at this;exact this
  have hne:A7c s.Phases≠0:=by omega
  rw [e1,Option.bind_some]
  unfold C26
  rw [if_neg hne,Option.bind_some,if_neg hne,Option.bind_some,if_neg hne,Option.bind_some,D01 S h]
  refine g_l2 s S lane s.Phases 0 _ rfl (by omega) (Int.emod_nonneg _ hne) ?_
  have:=Int.emod_lt_of_pos (s.Offset+tick) (b:=A7c s.Phases) (by omega)
  omega
noncomputable def B9l (m:Map)(g lane tick:Int):Bool:=(((decide (tick≥0))&& (decide (g≥0)))&& (decide (g< (m.Signals.length:Int))))&&isM m lane&&A84 (m.Signals.getD g.toNat default) lane tick
theorem B9m {m:Map}(B:BearM m)(g lane tick:Int):A2y m g lane tick=some (B9l m g lane tick):=by
  unfold A2y B9l
  rw [B3q B]
  cases hc:(((decide (tick≥0))&& (decide (g≥0)))&& (decide (g< (m.Signals.length:Int))))
  ·rfl
  ·cases hi:isM m lane
   ·rfl
   ·simp only [Bool.and_eq_true,decide_eq_true_eq]at hc
    obtain ⟨⟨c1,c2⟩,c3⟩:=hc
    have hl:g.toNat<m.Signals.length:=by omega
    have hget:m.Signals[g.toNat]? =some (m.Signals.getD g.toNat default):=by rw [List.getD,List.getElem?_eq_getElem hl];rfl
    have hg:F1 m.Signals g=some (m.Signals.getD g.toNat default):=by unfold F1;rw [if_pos c2,hget]
    have S:=((isM_true.1 hi).2.2).sig B hget
    simp only [cond_true,Option.bind_some,Bool.true_and,hg,B79 S lane c1]
end Go.Abs.Roads
/-! The red lines. -/
namespace Go.Abs.Roads
open Go Go.Abs
theorem B1d {high:Int}: ∀{l:List Int} {low:Int},A5r high low l=true→l.Pairwise (· < ·)
  | [],_,_=>List.Pairwise.nil
  |n::r,low,h=>by
   simp only [A5r,Bool.and_eq_true]at h
   refine List.pairwise_cons.2 ⟨fun x hx=> ?_,B1d h.2⟩
   have:=(A54 h.2 x hx).1
   omega
def A2p (m:Map)(z:Zone):Signal:=m.Signals.getD (z.Signal_ - 1).toNat default
def A66 (m:Map)(lane tick:Int)(z:Zone)(p:Part):Option Int:=if p.Lane_==lane&& !A84 (A2p m z) lane tick then some p.From else none
def A2q (m:Map)(lane tick:Int)(z:Zone):List Int:=if z.Signal_==0 then []else z.Parts.filterMap (A66 m lane tick z)
def B7a (m:Map)(lane tick:Int):List Int:=m.Zones.flatMap (A2q m lane tick)
theorem B9n (m:Map)(lane tick:Int)(z:Zone): ∀l:List Part,(l.map (·.Lane_)).Pairwise (· < ·)→(l.filterMap (A66 m lane tick z)).length≤1
  | [],_=>by simp
  |p::r,h=>by
   obtain ⟨h1,h2⟩:=List.pairwise_cons.1 h
   rw [List.filterMap_cons]
   by_cases e:p.Lane_=lane
   ·have:r.filterMap (A66 m lane tick z)= []:=by
      rw [List.filterMap_eq_nil_iff]
      intro q hq
      have:p.Lane_<q.Lane_:=h1 q.Lane_ (List.mem_map_of_mem hq)
      unfold A66
      rw [show (q.Lane_==lane)=false by simp;omega];rfl
    rw [this]
    cases A66 m lane tick z p<;>simp
   ·have:A66 m lane tick z p=none:=by unfold A66;rw [show (p.Lane_==lane)=false by simp [e]];rfl
    rw [this]
    exact B9n m lane tick z r h2
theorem B0n {m:Map}{z:Zone}(Z:ZoneOK m z)(lane tick:Int):(A2q m lane tick z).length≤1:=by
  unfold A2q
  split
  ·simp
  ·exact B9n m lane tick z _ (B1d Z.rise)
theorem B9o {m:Map}(lane tick:Int): ∀l:List Zone,(∀z∈l,ZoneOK m z)→(l.flatMap (A2q m lane tick)).length≤l.length
  | [],_=>by simp
  |z::r,h=>by
   rw [List.flatMap_cons,List.length_append,List.length_cons]
   have:=B0n (h z (by simp)) lane tick
   have:=B9o lane tick r fun y hy=>h y (List.mem_cons_of_mem _ hy)
   omega
theorem C91 {m:Map}(B:BearM m)(V:ValR m)(lane:Int){tick:Int}(ht:0≤tick)(z:Zone)(Z:ZoneOK m z)(hz:z.Signal_≠0): ∀(r:List Part) (i:Nat) (out:List Int),z.Parts.drop i=r→i≤z.Parts.length→out.length+r.length≤1000→
    loop (Z0 m lane tick z) (out,(i:Int))=some (out++r.filterMap (A66 m lane tick z)):=by
  intro r
  induction r with
  |nil=>
   intro i out hi hil hl
   have:=A13 hi
   obtain rfl:i=z.Parts.length:=by omega
   refine H9 ?_
   unfold Z0
   rw [A36];simp
  |cons p r ih=>
   intro i out hi hil hl
   have hlt:=A1u hi
   have hp:=A5f hi
   have hsz:=Z.six
   simp only [List.length_cons]at hl
   have hw:w64 (z.Signal_ - 1)=z.Signal_ - 1:=P1 (by have:=Z.sig;have:=V.signals;omega)
   have hk:(z.Signal_ - 1).toNat<m.Signals.length:=by have:=Z.sig;omega
   have hget:m.Signals[(z.Signal_ - 1).toNat]? =some (A2p m z):=by rw [A2p,List.getD,List.getElem?_eq_getElem hk];rfl
   have hg:F1 m.Signals (z.Signal_ - 1)=some (A2p m z):=by unfold F1;rw [if_pos (by have:=Z.sig;omega),hget]
   have hs:Z0 m lane tick z (out,(i:Int))=some (.go ((match A66 m lane tick z p with|some b=>out++ [b]|none=>out),((i+1:Nat):Int))):=by
     unfold Z0 A66
     dsimp only
     rw [A5g hlt,N7 hp,cond_true,Option.bind_some,hw,hg,A1s hlt (by omega)]
     cases p.Lane_==lane
     ·rfl
     ·simp only [cond_true,Option.bind_some,Bool.true_and]
      rw [B79 (V.sig B hget) lane ht,Option.bind_some]
      cases A84 (A2p m z) lane tick
      ·simp only [Bool.not_false,cond_true,if_true]
       rw [B81 (by simp;omega),Option.bind_some]
      ·rfl
   rw [Y1 hs,List.filterMap_cons]
   cases A66 m lane tick z p with
   |none=>exact ih (i+1) out (T4 hi) (by omega) (by omega)
   |some b=>
    dsimp only
    rw [ih (i+1) (out++ [b]) (T4 hi) (by omega) (by simp;omega)]
    simp
theorem C92 {m:Map}(B:BearM m)(V:ValR m)(lane:Int){tick:Int}(ht:0≤tick): ∀(r:List Zone) (i:Nat) (out:List Int),m.Zones.drop i=r→i≤m.Zones.length→out.length+r.length≤100→
    loop (Z1 m lane tick) (out,(i:Int))=some (out++r.flatMap (A2q m lane tick)):=by
  intro r
  induction r with
  |nil=>
   intro i out hi hil hl
   have:=A13 hi
   obtain rfl:i=m.Zones.length:=by omega
   refine H9 ?_
   unfold Z1
   rw [A36];simp
  |cons z r ih=>
   intro i out hi hil hl
   have hlt:=A1u hi
   have hz:=A5f hi
   have Z:=V.zoneOK (List.mem_of_getElem? hz)
   simp only [List.length_cons]at hl
   have hn:=V.zones
   have hs:Z1 m lane tick (out,(i:Int))=some (.go (out++A2q m lane tick z,((i+1:Nat):Int))):=by
     unfold Z1 A2q
     dsimp only
     rw [A5g hlt,N7 hz,cond_true,Option.bind_some,A1s hlt (by omega)]
     by_cases e:z.Signal_=0
     ·rw [show (z.Signal_==0)=true by simp [e],cond_true,if_pos rfl];simp
     ·rw [show (z.Signal_==0)=false by simp [e],cond_false,if_neg (by simp)]
      have:=C91 B V lane ht z Z e z.Parts 0 out rfl (by omega) (by have:=Z.six;omega)
      have this':loop (Z0 m lane tick z) (out,0)=_:=this
      rw [this',Option.bind_some]
   have:=B0n Z lane tick
   rw [Y1 hs,ih (i+1) _ (T4 hi) (by omega) (by rw [List.length_append];omega),List.flatMap_cons,List.append_assoc]
/-- The red lines: strictly ascending, and those that there are. -/
theorem C7g {m:Map}(B:BearM m)(V:ValR m)(lane:Int){tick:Int}(ht:0≤tick): ∃R,A7m m lane tick=some R∧R.Pairwise (· < ·)∧(∀x,x∈R↔x∈B7a m lane tick)∧R.length≤1000:=by
  have hlen:(B7a m lane tick).length≤12:=Nat.le_trans (B9o lane tick m.Zones fun z hz=>V.zoneOK hz) V.zones
  have h1:loop (Z1 m lane tick) ([],0)=some (B7a m lane tick):=by
    have:=C92 B V lane ht m.Zones 0 [] rfl (by omega) (by simp;have:=V.zones;omega)
    rw [List.nil_append]at this
    exact this
  unfold A7m
  rw [h1,Option.bind_some]
  cases q:B7a m lane tick with
  |nil=>exact ⟨[],by rw [C56];rfl,List.Pairwise.nil,fun x=> .rfl,by simp⟩
  |cons a l=>
   rw [q]at hlen
   obtain ⟨ys,g1,g2,g3⟩:=C7f (a::l) hlen
   have hys:ys≠ []:=by rintro rfl;exact absurd g2.length_eq (by simp)
   have hc:B2b ys=some (A1b ys):=by cases ys with|nil=>exact absurd rfl hys|cons=>rfl
   refine ⟨A1b ys,by rw [show List.isEmpty (a::l)=false from rfl,cond_false,g1,Option.bind_some,hc];rfl,B0m _ (g3.imp fun {a b} h=> ?_),fun x=>(B1c _ _).trans g2.mem_iff,?_⟩
   ·simp only [ltI,decide_eq_false_iff_not]at h;omega
   ·have: ∀l:List Int,(A1b l).length≤l.length:=by
      intro l
      induction l with
      |nil=>simp [A1b]
      |cons a l ih=>
       cases l with
       |nil=>simp [A1b]
       |cons b r=>
        rw [A1b]
        cases a==b
        ·simp only [cond_false,List.length_cons]at ih ⊢;omega
        ·simp only [cond_true,List.length_cons]at ih ⊢;omega
    have h2:=this ys
    rw [g2.length_eq]at h2
    omega
theorem C93 {m:Map}(B:BearM m)(lane tick:Int): ∃R,A7n m lane tick=some R∧R.Pairwise (· < ·)∧(∀x,x∈R↔ (0≤tick∧isM m lane=true∧x∈B7a m lane tick))∧R.length≤1000:=by
  unfold A7n
  rw [B3q B]
  by_cases ht:tick<0
  ·exact ⟨[],by rw [show decide (tick<0)=true from decide_eq_true ht];rfl,List.Pairwise.nil,fun x=>⟨fun h=>absurd h (by simp),fun h=>by omega⟩,by simp⟩
  ·rw [show decide (tick<0)=false from decide_eq_false ht]
   cases hi:isM m lane
   ·exact ⟨[],rfl,List.Pairwise.nil,fun x=>⟨fun h=>absurd h (by simp),fun h=>by cases h.2.1⟩,by simp⟩
   ·obtain ⟨R,g1,g2,g3,g4⟩:=C7g B (isM_true.1 hi).2.2 lane (tick:=tick) (by omega)
    exact ⟨R,by simp only [Bool.not_false,cond_true,Option.bind_some,Bool.not_true,Bool.or_false,cond_false,g1],g2,fun x=>(g3 x).trans ⟨fun h=>⟨by omega,rfl,h⟩,fun h=>h.2.2⟩,g4⟩
end Go.Abs.Roads
/-! RoadsGreens. -/
namespace Go.Abs.Roads
open Go Go.Abs
theorem B4s: ∀(l:List Phase) (a:Int),(∀p∈l,p.Green.length≤1)→∃G:List Int,G.length≤1∧∀lane,B5t lane a l=G.contains lane
  | [],_,_=>⟨[],by simp,fun _=>by simp [B5t]⟩
  |p::r,a,h=>by
   by_cases hc:p.Ticks≤a
   ·obtain ⟨G,g1,g2⟩:=B4s r (a - p.Ticks) fun q hq=>h q (List.mem_cons_of_mem _ hq)
    exact ⟨G,g1,fun lane=>by rw [B5t,if_pos hc];exact g2 lane⟩
   ·exact ⟨p.Green,h p (by simp),fun lane=>by rw [B5t,if_neg hc]⟩
theorem B7b (G:List Int)(hG:G.length≤1): ∀l:List Part,(l.map (·.Lane_)).Pairwise (· < ·)→(l.filter fun p=>G.contains p.Lane_).length≤1
  | [],_=>by simp
  |p::r,h=>by
   obtain ⟨h1,h2⟩:=List.pairwise_cons.1 h
   rw [List.filter_cons]
   split
   ·rename_i hp
    have:(r.filter fun p=>G.contains p.Lane_)= []:=by
      rw [List.filter_eq_nil_iff]
      intro q hq hc
      have:p.Lane_<q.Lane_:=h1 q.Lane_ (List.mem_map_of_mem hq)
      match G,hG with
      | [],_=>simp at hp
      | [g],_=>
        simp at hp hc
        omega
    rw [this];simp
   ·exact B7b G hG r h2
theorem D02 (p:Part)(R:List Int)(hR:R.length≤1000): ∀(r:List Int) (i:Nat) (b:Bool),R.drop i=r→i≤R.length→loop (K3 p R) (b,(i:Int))=some (b||r.contains p.From):=by
  intro r
  induction r with
  |nil=>
   intro i b hi hil
   have:=A13 hi
   obtain rfl:i=R.length:=by omega
   refine H9 ?_
   unfold K3
   rw [A36];simp
  |cons x r ih=>
   intro i b hi hil
   have hlt:=A1u hi
   have hx:=A5f hi
   have hs:K3 p R (b,(i:Int))=some (.go ((b||x==p.From),((i+1:Nat):Int))):=by
     unfold K3
     dsimp only
     rw [A5g hlt,N7 hx,cond_true,A1s hlt (by omega)]
     cases b<;>rfl
   rw [Y1 hs,ih (i+1) _ (T4 hi) (by omega),List.contains_cons,Bool.or_assoc,show (x==p.From)=(p.From==x) from Bool.eq_iff_iff.2 ⟨fun h=>by rw [beq_iff_eq]at h ⊢;exact h.symm,fun h=>by rw [beq_iff_eq]at h ⊢;exact h.symm⟩]
theorem D03 {m:Map}(z:Zone){s:Signal}(S:SigOK s)(hg:F1 m.Signals (w64 (z.Signal_ - 1))=some s): ∀(r:List Phase) (i:Nat) (a:Int),s.Phases.drop i=r→i≤s.Phases.length→0≤a→a+10000*r.length≤1000000→loop (K5 m z) (a,(i:Int))=some (a+A7c r):=by
  intro r
  induction r with
  |nil=>
   intro i a hi hil h0 h1
   have:=A13 hi
   obtain rfl:i=s.Phases.length:=by omega
   refine H9 ?_
   unfold K5
   rw [hg,Option.bind_some,A36];simp [A7c]
  |cons p r ih=>
   intro i a hi hil h0 h1
   have hlt:=A1u hi
   have hp:=A5f hi
   have hb:=S.ticks p (List.mem_of_getElem? hp)
   simp only [List.length_cons]at h1
   have hs:K5 m z (a,(i:Int))=some (.go (a+p.Ticks,((i+1:Nat):Int))):=by
     unfold K5
     dsimp only
     rw [hg,Option.bind_some,A5g hlt,cond_true,Option.bind_some,N7 hp,Option.bind_some,P1 (by omega),A1s hlt (by have:=S.many;omega)]
   rw [Y1 hs,ih (i+1) _ (T4 hi) (by omega) (by omega) (by omega),A7c]
   congr 1;omega
/-- Of the kit's maps: who has one line has one signal. -/
theorem C57 {k:Nat}(hk:k<8)(r:Int): ∀z∈A2u k r,∀z'∈A2u k r,∀p∈z.Parts,∀p'∈z'.Parts,z.Signal_≠0→z'.Signal_≠0→p'.Lane_=p.Lane_→p'.From=p.From→z'.Signal_=z.Signal_:=by
  match k,hk with
  |0,_=>simp [A2u]
  |1,_=>simp [A2u]
  |2,_=>simp [A2u]
  |3,_=>simp [A2u]
  |4,_=>simp [A2u]
  |5,_=>simp [A2u]
  |6,_=>simp [A2u]
  |7,_=>simp [A2u]
theorem C35 {s:Signal}(lane tick j:Int):A84 s lane (tick+A7c s.Phases*j)=A84 s lane tick:=by
  unfold A84
  rw [← Int.add_assoc,Int.add_mul_emod_self_left]
theorem A72 (n tick periods:Int):A19 n tick periods=some true:=by
  obtain ⟨k,q,hk,hq,hm⟩:=C0z n
  have B:=C52 (k:=k) hq
  have V:=C7b hk hq
  unfold A19
  rw [hm,Option.bind_some,B78 (by decide) (by decide),Option.bind_some]
  obtain ⟨t0,t1⟩:=A2o tick (show (0:Int)<1000001 by decide)
  generalize tick % 1000001=t at t0 t1
  have hzs:(B7d k q).Zones=A2u k q.r:=rfl
  have hsg: ∀(i:Nat) s,(B7d k q).Signals[i]? =some s→∀p∈s.Phases,p.Green.length≤1:=fun i s hs p hp=>((B4r k q.o q.o').2 s (List.mem_of_getElem? hs)).2 p hp
  have hU:=C57 hk q.r
  rw [← hzs]at hU
  clear hzs
  generalize B7d k q=m at*
  have hl:=C8w m.Zones (fun _=>false) false (F:=Q5 periods m t) (fun i z hz=> ?_) ?_
  ·rw [hl]
   have:(m.Zones.any fun _=>false)=false:=by simp
   simp only [this]
   rw [if_neg (by simp)]
   show (A1x).bind _=_
   rw [C51];rfl
  ·have hlt:i<m.Zones.length:=(List.getElem?_eq_some_iff.1 hz).1
   have hzm:=List.mem_of_getElem? hz
   have Z:=V.zoneOK hzm
   have hsig:=Z.sig
   have hns:=V.signals
   have hnz:=V.zones
   unfold Q5
   rw [A5g hlt,N7 hz,cond_true,Option.bind_some,A1s hlt (by omega),P1 (n:=z.Signal_ - 1) (by omega)]
   by_cases h0:z.Signal_ - 1<0
   ·rw [show decide (z.Signal_ - 1<0)=true from decide_eq_true h0];rfl
   rw [show decide (z.Signal_ - 1<0)=false from decide_eq_false h0,cond_false]
   have hkk:(z.Signal_ - 1).toNat<m.Signals.length:=by omega
   have hget:m.Signals[(z.Signal_ - 1).toNat]? =some (A2p m z):=by rw [A2p,List.getD,List.getElem?_eq_getElem hkk];rfl
   have hg:F1 m.Signals (w64 (z.Signal_ - 1))=some (A2p m z):=by rw [P1 (by omega)];unfold F1;rw [if_pos (by omega),hget]
   have S:=V.sig B hget
   obtain ⟨s1,s2⟩:=S.sum
   have e2:loop (K5 m z) (0,0)=some (A7c (A2p m z).Phases):=by
     have:=D03 z S hg (A2p m z).Phases 0 0 rfl (by omega) (by omega) (by have:=S.many;omega)
     rw [Int.zero_add]at this;exact this
   rw [e2,Option.bind_some,B4q (by decide) (by decide),Option.bind_some]
   obtain ⟨j0,j1⟩:=A2o periods (show (0:Int)<101 by decide)
   generalize periods % 101=j at j0 j1
   have hj:0≤A7c (A2p m z).Phases*j∧A7c (A2p m z).Phases*j≤60000*100:=
     ⟨Int.mul_nonneg (by omega) j0,Int.mul_le_mul s2 (by omega) j0 (by omega)⟩
   obtain ⟨G,hG1,hG2⟩:=B4s (A2p m z).Phases (((A2p m z).Offset+t) % A7c (A2p m z).Phases) (hsg _ _ hget)
   have hgr: ∀lane,A84 (A2p m z) lane t=G.contains lane:=hG2
   have key: ∀(r:List Part) (i3:Nat) (c:Nat),z.Parts.drop i3=r→i3≤z.Parts.length→c+r.length≤100→
    loop (K4 m t (i:Int) z (A7c (A2p m z).Phases) j) ((c:Int),(i3:Int))=some (.inl (((c+ (r.filter fun p=>G.contains p.Lane_).length:Nat):Int))):=by
     intro r
     induction r with
     |nil=>
      intro i3 c hi hil hc
      have:=A13 hi
      obtain rfl:i3=z.Parts.length:=by omega
      refine H9 ?_
      unfold K4
      rw [N7 hz,Option.bind_some,A36];simp
     |cons p r ih=>
      intro i3 c hi hil hc
      have hlt3:=A1u hi
      have hp:=A5f hi
      have hpm:=List.mem_of_getElem? hp
      have hlane:=A54 Z.rise p.Lane_ (List.mem_map_of_mem hpm)
      have hisM:isM m p.Lane_=true:=isM_true.2 ⟨hlane.1,hlane.2,V⟩
      simp only [List.length_cons]at hc
      have hgm: ∀t',0≤t'→B9l m (z.Signal_ - 1) p.Lane_ t'=A84 (A2p m z) p.Lane_ t':=fun t' h'=>by
        unfold B9l
        rw [hisM,show decide (t'≥0)=true from decide_eq_true h',show decide (z.Signal_ - 1≥0)=true from decide_eq_true (by omega),show decide (z.Signal_ - 1< (m.Signals.length:Int))=true from decide_eq_true (by omega)]
        rfl
      obtain ⟨R,r1,_,r3,r4⟩:=C93 B p.Lane_ t
      have hR:R.contains p.From= !(G.contains p.Lane_):=by
        rw [← hgr]
        have:p.From∈R↔A84 (A2p m z) p.Lane_ t=false:=by
          rw [r3]
          constructor
          ·rintro ⟨_,_,hx⟩
           obtain ⟨z',hz',hx⟩:=List.mem_flatMap.1 hx
           unfold A2q at hx
           split at hx
           ·simp at hx
           ·rename_i hs0
            obtain ⟨p',hp',hx⟩:=List.mem_filterMap.1 hx
            unfold A66 at hx
            split at hx
            ·rename_i hc'
             simp only [Bool.and_eq_true,beq_iff_eq,Bool.not_eq_true']at hc'
             have:=hU z hzm z' hz' p hpm p' hp' (by omega) (by simpa using hs0) hc'.1 (Option.some.inj hx)
             have hsa:A2p m z'=A2p m z:=by unfold A2p;rw [this]
             rw [← hsa];exact hc'.2
            ·cases hx
          ·intro hx
           refine ⟨t0,hisM,List.mem_flatMap.2 ⟨z,hzm,?_⟩⟩
           unfold A2q
           rw [if_neg (by simp;omega)]
           exact List.mem_filterMap.2 ⟨p,hpm,by unfold A66;rw [hx];simp⟩
        cases hgv:A84 (A2p m z) p.Lane_ t
        ·rw [hgv]at this
         exact List.contains_iff_mem.2 (this.2 rfl)
        ·rw [hgv]at this
         cases hcc:R.contains p.From
         ·rfl
         ·exact absurd (this.1 (List.contains_iff_mem.1 hcc)) (by simp)
      have h4:loop (K3 p R) (false,0)=some (!(G.contains p.Lane_)):=by
        have:=D02 p R r4 R 0 false rfl (by omega)
        rw [Bool.false_or,hR]at this
        exact this
      have hw1:w64 (A7c (A2p m z).Phases*j)=A7c (A2p m z).Phases*j:=P1 (by omega)
      have hw2:w64 (t+A7c (A2p m z).Phases*j)=t+A7c (A2p m z).Phases*j:=P1 (by omega)
      have hs:K4 m t (i:Int) z (A7c (A2p m z).Phases) j ((c:Int),(i3:Int))=some (.go ((((if G.contains p.Lane_ then c+1 else c):Nat):Int),((i3+1:Nat):Int))):=by
        unfold K4
        dsimp only
        rw [N7 hz,Option.bind_some,A5g hlt3,cond_true,Option.bind_some,N7 hp,Option.bind_some,P1 (n:=z.Signal_ - 1) (by omega),B9m B,Option.bind_some,hgm t t0,hgr,A1s hlt3 (by have:=Z.six;omega),hw1,hw2,B9m B,hgm _ (by omega),C35,hgr,r1]
        cases hcg:G.contains p.Lane_
        ·rw [hcg]at h4
         simp only [cond_false,Option.bind_some,h4]
         rfl
        ·rw [hcg]at h4
         have hw3:w64 ((c:Int)+1)=((c+1:Nat):Int):=by rw [P1 (by omega)];omega
         simp only [cond_true,Option.bind_some,h4,hw3]
         rfl
      rw [Y1 hs,ih (i3+1) _ (T4 hi) (by omega) (by split<;>omega),List.filter_cons]
      cases G.contains p.Lane_
      ·simp
      ·simp;omega
   have e3:=key z.Parts 0 0 rfl (by omega) (by have:=Z.six;omega)
   have e3':loop (K4 m t (i:Int) z (A7c (A2p m z).Phases) j) (0,0)=_:=e3
   rw [e3']
   have hc1:=B7b G hG1 z.Parts (B1d Z.rise)
   simp only [thenS]
   rw [show decide (((0+ (z.Parts.filter fun p=>G.contains p.Lane_).length:Nat):Int)>1)=false from decide_eq_false (by omega)]
   rfl
  ·unfold Q5
   rw [A36];rfl
end Go.Abs.Roads
