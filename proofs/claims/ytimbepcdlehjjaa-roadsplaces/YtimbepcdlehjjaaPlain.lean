/-
  Plain facts on the functions: what they compute, and that the law holds of it.
-/
import Derived.Test.YtimbepcdlehjjaaFns3
set_option maxRecDepth 100000
set_option linter.unusedVariables false
namespace Go.Abs.Roads
open Go Go.Abs
noncomputable def A24 (p1:Map)(v1:Lane)(x2:Int):Option (Stp Int (Sum Unit Int)):=
  cond (decide (x2< (v1.Next.length:Int))) ((F3 v1.Next x2).bind fun v2=>(F3 p1.Lanes v2).bind fun v3=>cond (v3.Kind !=v1.Kind) (some (.out (.inr 4))) ((F3 v3.Curve_.Pts 0).bind fun v4=>(F3 v1.Curve_.Pts (w64 ((v1.Curve_.Pts.length:Int) - 1))).bind fun v5=>cond (!(v4.X==v5.X&& (v4.Y==v5.Y&&true))) (some (.out (.inr 3))) (some (.go (w64 (x2+1)))))) (some (.out (.inl ())))
noncomputable def A25 (p1:Map)(x1:Int):Option (Stp Int (Sum Unit Int)):=
  cond (decide (x1< (p1.Lanes.length:Int))) ((F3 p1.Lanes x1).bind fun v1=>thenS (loop (A24 p1 v1) 0) (fun _=>some (.go (w64 (x1+1)))) (fun r=>some (.out (.inr r)))) (some (.out (.inl ())))
noncomputable def A9f (p1:Map):Option Int:=
  thenS (loop (A25 p1) 0) (fun _=>some 0) (fun r=>some r)
end Go.Abs.Roads
namespace Go.Abs.Roads
open Go Go.Abs
def A9g (p4:(List Int))(x1:(Int×Lane)):Option (Stp (Int×Lane) Lane):=
  cond (decide ((w64 (x1.1+1))< (p4.length:Int))) ((F3 p4 x1.1).bind fun v1=>(F3 p4 (w64 (x1.1+1))).bind fun v2=>(B0m x1.2.Curve_.Pts [(Spot.mk v1 v2)]).bind fun v3=>some (.go ((w64 (x1.1+2)),(Lane.mk x1.2.Kind (Curve.mk v3) x1.2.Half x1.2.Limit x1.2.Next)))) (some (.out x1.2))
theorem B66 (p4:(List Int))(x1:(Int×Lane)):Le (A9g p4 x1) (A67 p4 x1):=by
  unfold A9g A67
  repeat' first|with_reducible exact Le.refl _|with_reducible refine Le.bind ?_ fun _=> ?_|with_reducible refine Le.cond ?_ ?_|with_reducible refine Le.ite ?_ ?_|with_reducible refine Le.thenS ?_ (fun _=> ?_) (fun _=> ?_)|with_reducible refine Le.loop (fun _=> ?_) _|with_reducible refine Le.loopL (fun _ _=> ?_) _ _|exact Le.refl _
def B1u (p1:Int)(p2:Int)(p3:(List Int))(p4:(List Int)):Option Lane:=
  (A0w (A9g p4) (0,(Lane.mk p1 (Curve.mk []) 1500 p2 p3))).bind fun y1=>cond (p1==3) (some (Lane.mk y1.Kind y1.Curve_ 500 y1.Limit y1.Next)) (some y1)
theorem C0j (p1:Int)(p2:Int)(p3:(List Int))(p4:(List Int)):Le (B1u p1 p2 p3 p4) (T4 p1 p2 p3 p4):=by
  unfold B1u T4
  repeat' first|with_reducible exact Le.refl _|with_reducible exact B66 _ _|with_reducible refine Le.bind ?_ fun _=> ?_|with_reducible refine Le.cond ?_ ?_|with_reducible refine Le.ite ?_ ?_|with_reducible refine Le.thenS ?_ (fun _=> ?_) (fun _=> ?_)|with_reducible refine Le.loop (fun _=> ?_) _|with_reducible refine Le.loopL (fun _ _=> ?_) _ _|exact Le.refl _
def B2v:Option Map:=
  (B1u 1 1500 [] [0,0,100000,0]).bind fun v1=>(B1u 1 1500 [] [50000,(-50000),50000,50000]).bind fun v2=>some (Map.mk 0 [v1,v2] [(Zone.mk [(Part.mk 0 48000 52000 1),(Part.mk 1 48000 52000 0)] 0)] [] [])
theorem B97:Le (B2v) (A9c):=by
  unfold B2v A9c
  repeat' first|with_reducible exact Le.refl _|with_reducible exact C0j _ _ _ _|with_reducible refine Le.bind ?_ fun _=> ?_|with_reducible refine Le.cond ?_ ?_|with_reducible refine Le.ite ?_ ?_|with_reducible refine Le.thenS ?_ (fun _=> ?_) (fun _=> ?_)|with_reducible refine Le.loop (fun _=> ?_) _|with_reducible refine Le.loopL (fun _ _=> ?_) _ _|exact Le.refl _
def S5 (p1:Int)(p2:Int)(p3:Int):Option Bool:=
  some ((decide (p2≤p1))&& (decide (p1≤p3)))
theorem W6 (p1:Int)(p2:Int)(p3:Int):Le (S5 p1 p2 p3) (P5 p1 p2 p3):=by
  unfold S5 P5
  repeat' first|with_reducible exact Le.refl _|with_reducible refine Le.bind ?_ fun _=> ?_|with_reducible refine Le.cond ?_ ?_|with_reducible refine Le.ite ?_ ?_|with_reducible refine Le.thenS ?_ (fun _=> ?_) (fun _=> ?_)|with_reducible refine Le.loop (fun _=> ?_) _|with_reducible refine Le.loopL (fun _ _=> ?_) _ _|exact Le.refl _
def A36 (p1:RoadsCheck):Option Int:=
  (S5 p1.Map_.Version 0 1099511627776).bind fun v1=>cond (!v1) (some 2) (cond ((p1.Map_.Lanes.length:Int)==0) (some 6) (cond ((((decide ((p1.Map_.Lanes.length:Int)>12))||(decide ((p1.Map_.Zones.length:Int)>12)))||(decide ((p1.Map_.Signals.length:Int)>4)))||(decide ((p1.Map_.Works.length:Int)>8))) (some 8) (some 0)))
theorem A8z (p1:RoadsCheck):Le (A36 p1) (P6 p1):=by
  unfold A36 P6
  repeat' first|with_reducible exact Le.refl _|with_reducible exact W6 _ _ _|with_reducible refine Le.bind ?_ fun _=> ?_|with_reducible refine Le.cond ?_ ?_|with_reducible refine Le.ite ?_ ?_|with_reducible refine Le.thenS ?_ (fun _=> ?_) (fun _=> ?_)|with_reducible refine Le.loop (fun _=> ?_) _|with_reducible refine Le.loopL (fun _ _=> ?_) _ _|exact Le.refl _
def A5y (p1:Int):Option (Int×Int×Int):=
  cond ((decide (p1<0))||(decide (p1≥4))) (some (0,0,0)) ((F3 ([(0,0,0),(2000,30,90),(1000,20,60),(300,100,300)]:List (Int×Int×Int)) p1).bind fun v1=>some (v1.1,v1.2.1,v1.2.2))
theorem A9h (p1:Int):Le (A5y p1) (A1h p1):=by
  unfold A5y A1h
  repeat' first|with_reducible exact Le.refl _|with_reducible refine Le.bind ?_ fun _=> ?_|with_reducible refine Le.cond ?_ ?_|with_reducible refine Le.ite ?_ ?_|with_reducible refine Le.thenS ?_ (fun _=> ?_) (fun _=> ?_)|with_reducible refine Le.loop (fun _=> ?_) _|with_reducible refine Le.loopL (fun _ _=> ?_) _ _|exact Le.refl _
def A7c (p1:(List Spot))(x1:Int):Option (Stp Int (Sum Unit Bool)):=
  cond (decide (x1< (p1.length:Int))) ((F3 p1 x1).bind fun v1=>cond ((decide ((mm2 false v1.X v1.Y)< (-16777216)))||(decide ((mm2 true v1.X v1.Y)>16777216))) (some (.out (.inr false))) (some (.go (w64 (x1+1))))) (some (.out (.inl ())))
theorem B3l (p1:(List Spot))(x1:Int):Le (A7c p1 x1) (Y9 p1 x1):=by
  unfold A7c Y9
  repeat' first|with_reducible exact Le.refl _|with_reducible refine Le.bind ?_ fun _=> ?_|with_reducible refine Le.cond ?_ ?_|with_reducible refine Le.ite ?_ ?_|with_reducible refine Le.thenS ?_ (fun _=> ?_) (fun _=> ?_)|with_reducible refine Le.loop (fun _=> ?_) _|with_reducible refine Le.loopL (fun _ _=> ?_) _ _|exact Le.refl _
def B13 (p1:(List Spot)):Option Bool:=
  thenS (A0w (A7c p1) 0) (fun _=>some true) (fun r=>some r)
theorem B7n (p1:(List Spot)):Le (B13 p1) (A4l p1):=by
  unfold B13 A4l
  repeat' first|with_reducible exact Le.refl _|with_reducible exact B3l _ _|with_reducible refine Le.bind ?_ fun _=> ?_|with_reducible refine Le.cond ?_ ?_|with_reducible refine Le.ite ?_ ?_|with_reducible refine Le.thenS ?_ (fun _=> ?_) (fun _=> ?_)|with_reducible refine Le.loop (fun _=> ?_) _|with_reducible refine Le.loopL (fun _ _=> ?_) _ _|exact Le.refl _
def A8a (p1:Spot)(p2:Spot):Option CurveVector:=
  some (CurveVector.mk (w64 (p2.X - p1.X)) (w64 (p2.Y - p1.Y)))
theorem B1v (p1:Spot)(p2:Spot):Le (A8a p1 p2) (A3u p1 p2):=by
  unfold A8a A3u
  repeat' first|with_reducible exact Le.refl _|with_reducible refine Le.bind ?_ fun _=> ?_|with_reducible refine Le.cond ?_ ?_|with_reducible refine Le.ite ?_ ?_|with_reducible refine Le.thenS ?_ (fun _=> ?_) (fun _=> ?_)|with_reducible refine Le.loop (fun _=> ?_) _|with_reducible refine Le.loopL (fun _ _=> ?_) _ _|exact Le.refl _
def A1c (p1:CurveVector)(p2:CurveVector):Option Int:=
  some (w64 ((w64 (p1.x*p2.x))+ (w64 (p1.y*p2.y))))
theorem A6f (p1:CurveVector)(p2:CurveVector):Le (A1c p1 p2) (S4 p1 p2):=by
  unfold A1c S4
  repeat' first|with_reducible exact Le.refl _|with_reducible refine Le.bind ?_ fun _=> ?_|with_reducible refine Le.cond ?_ ?_|with_reducible refine Le.ite ?_ ?_|with_reducible refine Le.thenS ?_ (fun _=> ?_) (fun _=> ?_)|with_reducible refine Le.loop (fun _=> ?_) _|with_reducible refine Le.loopL (fun _ _=> ?_) _ _|exact Le.refl _
def A7d (p1:Int)(x1:(Int×Int)):Option (Stp (Int×Int) Int):=
  cond (decide (x1.1<x1.2)) (cond (decide ((w64 ((w64 ((w64 (x1.1+x1.2)).tdiv 2))* (w64 ((w64 (x1.1+x1.2)).tdiv 2))))<p1)) (some (.go ((w64 ((w64 ((w64 (x1.1+x1.2)).tdiv 2))+1)),x1.2))) (some (.go (x1.1,(w64 ((w64 (x1.1+x1.2)).tdiv 2)))))) (some (.out x1.1))
theorem B3m (p1:Int)(x1:(Int×Int)):Le (A7d p1 x1) (A1j p1 x1):=by
  unfold A7d A1j
  repeat' first|with_reducible exact Le.refl _|with_reducible refine Le.bind ?_ fun _=> ?_|with_reducible refine Le.cond ?_ ?_|with_reducible refine Le.ite ?_ ?_|with_reducible refine Le.thenS ?_ (fun _=> ?_) (fun _=> ?_)|with_reducible refine Le.loop (fun _=> ?_) _|with_reducible refine Le.loopL (fun _ _=> ?_) _ _|exact Le.refl _
def A8b (p1:Int):Option (Int×Bool):=
  (A0w (A7d p1) (0,67108864)).bind fun y1=>some (y1,((w64 (y1*y1))==p1))
theorem B1w (p1:Int):Le (A8b p1) (A2x p1):=by
  unfold A8b A2x
  repeat' first|with_reducible exact Le.refl _|with_reducible exact B3m _ _|with_reducible refine Le.bind ?_ fun _=> ?_|with_reducible refine Le.cond ?_ ?_|with_reducible refine Le.ite ?_ ?_|with_reducible refine Le.thenS ?_ (fun _=> ?_) (fun _=> ?_)|with_reducible refine Le.loop (fun _=> ?_) _|with_reducible refine Le.loopL (fun _ _=> ?_) _ _|exact Le.refl _
def A6g (p1:Curve)(x1:(Int×CurveVector)):Option (Stp (Int×CurveVector) (Sum Unit Int)):=
  cond (decide (x1.1< (w64 ((p1.Pts.length:Int) - 1)))) ((F3 p1.Pts x1.1).bind fun v2=>(F3 p1.Pts (w64 (x1.1+1))).bind fun v3=>(A8a v2 v3).bind fun v4=>(A1c v4 v4).bind fun v5=>(A8b v5).bind fun v6=>cond (!v6.2) (some (.out (.inr 3))) (cond ((decide (v6.1<1000))||(decide (v6.1>1048576))) (some (.out (.inr 2))) (((cond (decide (x1.1>0)) (A1c x1.2 v4) (some default))).bind fun v7=>cond ((decide (x1.1>0))&& (decide (v7≤0))) (some (.out (.inr 12))) (some (.go ((w64 (x1.1+1)),v4)))))) (some (.out (.inl ())))
theorem B2w (p1:Curve)(x1:(Int×CurveVector)):Le (A6g p1 x1) (V3 p1 x1):=by
  unfold A6g V3
  repeat' first|with_reducible exact Le.refl _|with_reducible exact B1v _ _|with_reducible exact A6f _ _|with_reducible exact B1w _|with_reducible refine Le.bind ?_ fun _=> ?_|with_reducible refine Le.cond ?_ ?_|with_reducible refine Le.ite ?_ ?_|with_reducible refine Le.thenS ?_ (fun _=> ?_) (fun _=> ?_)|with_reducible refine Le.loop (fun _=> ?_) _|with_reducible refine Le.loopL (fun _ _=> ?_) _ _|exact Le.refl _
def A73 (p1:Curve):Option Int:=
  cond (decide ((p1.Pts.length:Int)<2)) (some 6) (cond (decide ((p1.Pts.length:Int)>16)) (some 5) ((B13 p1.Pts).bind fun v1=>cond (!v1) (some 2) (thenS (A0w (A6g p1) (0,(CurveVector.mk 0 0))) (fun _=>some 0) (fun r=>some r))))
theorem B0o (p1:Curve):Le (A73 p1) (A2b p1):=by
  unfold A73 A2b
  repeat' first|with_reducible exact Le.refl _|with_reducible exact B7n _|with_reducible exact B2w _ _|with_reducible refine Le.bind ?_ fun _=> ?_|with_reducible refine Le.cond ?_ ?_|with_reducible refine Le.ite ?_ ?_|with_reducible refine Le.thenS ?_ (fun _=> ?_) (fun _=> ?_)|with_reducible refine Le.loop (fun _=> ?_) _|with_reducible refine Le.loopL (fun _ _=> ?_) _ _|exact Le.refl _
def A5j (p1:(List Int))(p3:Int)(x1:(Int×Int)):Option (Stp (Int×Int) (Sum Unit Bool)):=
  cond (decide (x1.2< (p1.length:Int))) ((F3 p1 x1.2).bind fun v1=>cond ((decide (v1<x1.1))||(decide (v1≥p3))) (some (.out (.inr false))) (some (.go ((w64 (v1+1)),(w64 (x1.2+1)))))) (some (.out (.inl ())))
theorem B1x (p1:(List Int))(p3:Int)(x1:(Int×Int)):Le (A5j p1 p3 x1) (T9 p1 p3 x1):=by
  unfold A5j T9
  repeat' first|with_reducible exact Le.refl _|with_reducible refine Le.bind ?_ fun _=> ?_|with_reducible refine Le.cond ?_ ?_|with_reducible refine Le.ite ?_ ?_|with_reducible refine Le.thenS ?_ (fun _=> ?_) (fun _=> ?_)|with_reducible refine Le.loop (fun _=> ?_) _|with_reducible refine Le.loopL (fun _ _=> ?_) _ _|exact Le.refl _
def A47 (p1:(List Int))(p2:Int)(p3:Int):Option Bool:=
  thenS (A0w (A5j p1 p3) (p2,0)) (fun _=>some true) (fun r=>some r)
theorem A6h (p1:(List Int))(p2:Int)(p3:Int):Le (A47 p1 p2 p3) (A0m p1 p2 p3):=by
  unfold A47 A0m
  repeat' first|with_reducible exact Le.refl _|with_reducible exact B1x _ _ _|with_reducible refine Le.bind ?_ fun _=> ?_|with_reducible refine Le.cond ?_ ?_|with_reducible refine Le.ite ?_ ?_|with_reducible refine Le.thenS ?_ (fun _=> ?_) (fun _=> ?_)|with_reducible refine Le.loop (fun _=> ?_) _|with_reducible refine Le.loopL (fun _ _=> ?_) _ _|exact Le.refl _
def A2k (p1:RoadsCheck)(x1:Int):Option (Stp Int (Sum Unit Int)):=
  cond (decide (x1< (p1.Map_.Lanes.length:Int))) ((F3 p1.Map_.Lanes x1).bind fun v1=>(A5y v1.Kind).bind fun v2=>cond (v2.1==0) (some (.out (.inr 4))) ((A73 v1.Curve_).bind fun v3=>cond (v3 !=0) (some (.out (.inr v3))) ((S5 v1.Half 200 4000).bind fun v4=>((cond (!(!v4)) (S5 v1.Limit 1 v2.1) (some default))).bind fun v5=>cond ((!v4)||(!v5)) (some (.out (.inr 2))) (cond (decide ((v1.Next.length:Int)>3)) (some (.out (.inr 8))) ((A47 v1.Next (w64 (x1+1)) (p1.Map_.Lanes.length:Int)).bind fun v6=>cond (!v6) (some (.out (.inr 11))) (some (.go (w64 (x1+1))))))))) (some (.out (.inl ())))
theorem A8c (p1:RoadsCheck)(x1:Int):Le (A2k p1 x1) (O1 p1 x1):=by
  unfold A2k O1
  repeat' first|with_reducible exact Le.refl _|with_reducible exact A9h _|with_reducible exact B0o _|with_reducible exact W6 _ _ _|with_reducible exact A6h _ _ _|with_reducible refine Le.bind ?_ fun _=> ?_|with_reducible refine Le.cond ?_ ?_|with_reducible refine Le.ite ?_ ?_|with_reducible refine Le.thenS ?_ (fun _=> ?_) (fun _=> ?_)|with_reducible refine Le.loop (fun _=> ?_) _|with_reducible refine Le.loopL (fun _ _=> ?_) _ _|exact Le.refl _
def A48 (p1:RoadsCheck):Option Int:=
  thenS (A0w (A2k p1) 0) (fun _=>some 0) (fun r=>some r)
theorem B0b (p1:RoadsCheck):Le (A48 p1) (S9 p1):=by
  unfold A48 S9
  repeat' first|with_reducible exact Le.refl _|with_reducible exact A8c _ _|with_reducible refine Le.bind ?_ fun _=> ?_|with_reducible refine Le.cond ?_ ?_|with_reducible refine Le.ite ?_ ?_|with_reducible refine Le.thenS ?_ (fun _=> ?_) (fun _=> ?_)|with_reducible refine Le.loop (fun _=> ?_) _|with_reducible refine Le.loopL (fun _ _=> ?_) _ _|exact Le.refl _
def A1x (p1:RoadsCheck)(v1:Lane)(v2:Spot)(x2:Int):Option (Stp Int (Sum Unit Int)):=
  cond (decide (x2< (v1.Next.length:Int))) ((F3 v1.Next x2).bind fun v3=>(F3 p1.Map_.Lanes v3).bind fun v4=>cond (v4.Kind !=v1.Kind) (some (.out (.inr 4))) ((F3 p1.Map_.Lanes v3).bind fun v5=>(F3 v5.Curve_.Pts 0).bind fun v6=>cond (!(v6.X==v2.X&& (v6.Y==v2.Y&&true))) (some (.out (.inr 3))) (some (.go (w64 (x2+1)))))) (some (.out (.inl ())))
theorem A7v (p1:RoadsCheck)(v1:Lane)(v2:Spot)(x2:Int):Le (A1x p1 v1 v2 x2) (M8 p1 v1 v2 x2):=by
  unfold A1x M8
  repeat' first|with_reducible exact Le.refl _|with_reducible refine Le.bind ?_ fun _=> ?_|with_reducible refine Le.cond ?_ ?_|with_reducible refine Le.ite ?_ ?_|with_reducible refine Le.thenS ?_ (fun _=> ?_) (fun _=> ?_)|with_reducible refine Le.loop (fun _=> ?_) _|with_reducible refine Le.loopL (fun _ _=> ?_) _ _|exact Le.refl _
def A1y (p1:RoadsCheck)(x1:Int):Option (Stp Int (Sum Unit Int)):=
  cond (decide (x1< (p1.Map_.Lanes.length:Int))) ((F3 p1.Map_.Lanes x1).bind fun v1=>(F3 v1.Curve_.Pts (w64 ((v1.Curve_.Pts.length:Int) - 1))).bind fun v2=>thenS (A0w (A1x p1 v1 v2) 0) (fun _=>some (.go (w64 (x1+1)))) (fun r=>some (.out (.inr r)))) (some (.out (.inl ())))
theorem A7w (p1:RoadsCheck)(x1:Int):Le (A1y p1 x1) (M9 p1 x1):=by
  unfold A1y M9
  repeat' first|with_reducible exact Le.refl _|with_reducible exact A7v _ _ _ _|with_reducible refine Le.bind ?_ fun _=> ?_|with_reducible refine Le.cond ?_ ?_|with_reducible refine Le.ite ?_ ?_|with_reducible refine Le.thenS ?_ (fun _=> ?_) (fun _=> ?_)|with_reducible refine Le.loop (fun _=> ?_) _|with_reducible refine Le.loopL (fun _ _=> ?_) _ _|exact Le.refl _
def A3p (p1:RoadsCheck):Option Int:=
  thenS (A0w (A1y p1) 0) (fun _=>some 0) (fun r=>some r)
theorem A9i (p1:RoadsCheck):Le (A3p p1) (R2 p1):=by
  unfold A3p R2
  repeat' first|with_reducible exact Le.refl _|with_reducible exact A7w _ _|with_reducible refine Le.bind ?_ fun _=> ?_|with_reducible refine Le.cond ?_ ?_|with_reducible refine Le.ite ?_ ?_|with_reducible refine Le.thenS ?_ (fun _=> ?_) (fun _=> ?_)|with_reducible refine Le.loop (fun _=> ?_) _|with_reducible refine Le.loopL (fun _ _=> ?_) _ _|exact Le.refl _
def A1z (p1:Phase):Option Bool:=
  (S5 p1.Ticks 1 10000).bind fun v1=>some (!v1)
theorem A7x (p1:Phase):Le (A1z p1) (T0 p1):=by
  unfold A1z T0
  repeat' first|with_reducible exact Le.refl _|with_reducible exact W6 _ _ _|with_reducible refine Le.bind ?_ fun _=> ?_|with_reducible refine Le.cond ?_ ?_|with_reducible refine Le.ite ?_ ?_|with_reducible refine Le.thenS ?_ (fun _=> ?_) (fun _=> ?_)|with_reducible refine Le.loop (fun _=> ?_) _|with_reducible refine Le.loopL (fun _ _=> ?_) _ _|exact Le.refl _
def J0 (p1:(List Phase))(x1:Int):Option (Stp Int (Sum Unit Int)):=
  cond (decide (x1< (p1.length:Int))) ((F3 p1 x1).bind fun v1=>(A1z v1).bind fun v2=>cond v2 (some (.out (.inr x1))) (some (.go (w64 (x1+1))))) (some (.out (.inl ())))
theorem X3 (p1:(List Phase))(x1:Int):Le (J0 p1 x1) (C1 p1 x1):=by
  unfold J0 C1
  repeat' first|with_reducible exact Le.refl _|with_reducible exact A7x _|with_reducible refine Le.bind ?_ fun _=> ?_|with_reducible refine Le.cond ?_ ?_|with_reducible refine Le.ite ?_ ?_|with_reducible refine Le.thenS ?_ (fun _=> ?_) (fun _=> ?_)|with_reducible refine Le.loop (fun _=> ?_) _|with_reducible refine Le.loopL (fun _ _=> ?_) _ _|exact Le.refl _
def K0 (p1:(List Phase)):Option Int:=
  thenS (A0w (J0 p1) 0) (fun _=>some (-1)) (fun r=>some r)
theorem Z2 (p1:(List Phase)):Le (K0 p1) (D4 p1):=by
  unfold K0 D4
  repeat' first|with_reducible exact Le.refl _|with_reducible exact X3 _ _|with_reducible refine Le.bind ?_ fun _=> ?_|with_reducible refine Le.cond ?_ ?_|with_reducible refine Le.ite ?_ ?_|with_reducible refine Le.thenS ?_ (fun _=> ?_) (fun _=> ?_)|with_reducible refine Le.loop (fun _=> ?_) _|with_reducible refine Le.loopL (fun _ _=> ?_) _ _|exact Le.refl _
def J1 (p1:(List Phase)):Option Bool:=
  (K0 p1).bind fun v1=>some (decide (v1≥0))
theorem X4 (p1:(List Phase)):Le (J1 p1) (C2 p1):=by
  unfold J1 C2
  repeat' first|with_reducible exact Le.refl _|with_reducible exact Z2 _|with_reducible refine Le.bind ?_ fun _=> ?_|with_reducible refine Le.cond ?_ ?_|with_reducible refine Le.ite ?_ ?_|with_reducible refine Le.thenS ?_ (fun _=> ?_) (fun _=> ?_)|with_reducible refine Le.loop (fun _=> ?_) _|with_reducible refine Le.loopL (fun _ _=> ?_) _ _|exact Le.refl _
def A1d (p1:Phase)(p2:RoadsCheck):Option Bool:=
  (A47 p1.Green 0 (p2.Map_.Lanes.length:Int)).bind fun v1=>some (!v1)
theorem A6w (p1:Phase)(p2:RoadsCheck):Le (A1d p1 p2) (Q5 p1 p2):=by
  unfold A1d Q5
  repeat' first|with_reducible exact Le.refl _|with_reducible exact A6h _ _ _|with_reducible refine Le.bind ?_ fun _=> ?_|with_reducible refine Le.cond ?_ ?_|with_reducible refine Le.ite ?_ ?_|with_reducible refine Le.thenS ?_ (fun _=> ?_) (fun _=> ?_)|with_reducible refine Le.loop (fun _=> ?_) _|with_reducible refine Le.loopL (fun _ _=> ?_) _ _|exact Le.refl _
def I6 (p1:(List Phase))(p2:RoadsCheck)(x1:Int):Option (Stp Int (Sum Unit Int)):=
  cond (decide (x1< (p1.length:Int))) ((F3 p1 x1).bind fun v1=>(A1d v1 p2).bind fun v2=>cond v2 (some (.out (.inr x1))) (some (.go (w64 (x1+1))))) (some (.out (.inl ())))
theorem W7 (p1:(List Phase))(p2:RoadsCheck)(x1:Int):Le (I6 p1 p2 x1) (B9 p1 p2 x1):=by
  unfold I6 B9
  repeat' first|with_reducible exact Le.refl _|with_reducible exact A6w _ _|with_reducible refine Le.bind ?_ fun _=> ?_|with_reducible refine Le.cond ?_ ?_|with_reducible refine Le.ite ?_ ?_|with_reducible refine Le.thenS ?_ (fun _=> ?_) (fun _=> ?_)|with_reducible refine Le.loop (fun _=> ?_) _|with_reducible refine Le.loopL (fun _ _=> ?_) _ _|exact Le.refl _
def J5 (p1:(List Phase))(p2:RoadsCheck):Option Int:=
  thenS (A0w (I6 p1 p2) 0) (fun _=>some (-1)) (fun r=>some r)
theorem Y8 (p1:(List Phase))(p2:RoadsCheck):Le (J5 p1 p2) (D2 p1 p2):=by
  unfold J5 D2
  repeat' first|with_reducible exact Le.refl _|with_reducible exact W7 _ _ _|with_reducible refine Le.bind ?_ fun _=> ?_|with_reducible refine Le.cond ?_ ?_|with_reducible refine Le.ite ?_ ?_|with_reducible refine Le.thenS ?_ (fun _=> ?_) (fun _=> ?_)|with_reducible refine Le.loop (fun _=> ?_) _|with_reducible refine Le.loopL (fun _ _=> ?_) _ _|exact Le.refl _
def I7 (p1:(List Phase))(p2:RoadsCheck):Option Bool:=
  (J5 p1 p2).bind fun v1=>some (decide (v1≥0))
theorem W8 (p1:(List Phase))(p2:RoadsCheck):Le (I7 p1 p2) (C0 p1 p2):=by
  unfold I7 C0
  repeat' first|with_reducible exact Le.refl _|with_reducible exact Y8 _ _|with_reducible refine Le.bind ?_ fun _=> ?_|with_reducible refine Le.cond ?_ ?_|with_reducible refine Le.ite ?_ ?_|with_reducible refine Le.thenS ?_ (fun _=> ?_) (fun _=> ?_)|with_reducible refine Le.loop (fun _=> ?_) _|with_reducible refine Le.loopL (fun _ _=> ?_) _ _|exact Le.refl _
def A1n (p1:RoadsCheck)(x1:Int):Option (Stp Int (Sum Unit Int)):=
  cond (decide (x1< (p1.Map_.Signals.length:Int))) ((F3 p1.Map_.Signals x1).bind fun v1=>cond ((v1.Phases.length:Int)==0) (some (.out (.inr 6))) (cond (decide ((v1.Phases.length:Int)>6)) (some (.out (.inr 8))) ((S5 v1.Offset 0 1099511627776).bind fun v2=>cond (!v2) (some (.out (.inr 2))) ((J1 v1.Phases).bind fun v3=>cond v3 (some (.out (.inr 2))) ((I7 v1.Phases p1).bind fun v4=>cond v4 (some (.out (.inr 11))) (some (.go (w64 (x1+1))))))))) (some (.out (.inl ())))
theorem A7e (p1:RoadsCheck)(x1:Int):Le (A1n p1 x1) (M0 p1 x1):=by
  unfold A1n M0
  repeat' first|with_reducible exact Le.refl _|with_reducible exact W6 _ _ _|with_reducible exact X4 _|with_reducible exact W8 _ _|with_reducible refine Le.bind ?_ fun _=> ?_|with_reducible refine Le.cond ?_ ?_|with_reducible refine Le.ite ?_ ?_|with_reducible refine Le.thenS ?_ (fun _=> ?_) (fun _=> ?_)|with_reducible refine Le.loop (fun _=> ?_) _|with_reducible refine Le.loopL (fun _ _=> ?_) _ _|exact Le.refl _
def A37 (p1:RoadsCheck):Option Int:=
  thenS (A0w (A1n p1) 0) (fun _=>some 0) (fun r=>some r)
theorem A90 (p1:RoadsCheck):Le (A37 p1) (P7 p1):=by
  unfold A37 P7
  repeat' first|with_reducible exact Le.refl _|with_reducible exact A7e _ _|with_reducible refine Le.bind ?_ fun _=> ?_|with_reducible refine Le.cond ?_ ?_|with_reducible refine Le.ite ?_ ?_|with_reducible refine Le.thenS ?_ (fun _=> ?_) (fun _=> ?_)|with_reducible refine Le.loop (fun _=> ?_) _|with_reducible refine Le.loopL (fun _ _=> ?_) _ _|exact Le.refl _
def B1y (pts:List Spot):Nat→Nat→Int→Option (List (Int×CurvePiece))
  |0,_,_=>some []
  |n+1,i,start=>(pts[i]?).bind fun p=>(pts[i+1]?).bind fun q=>(A8a p q).bind fun v=>(A1c v v).bind fun d=>(A8b d).bind fun r=>
   (B1y pts n (i+1) (w64 (start+r.1))).bind fun l=>some (((i:Int),CurvePiece.mk p v r.1 start)::l)
theorem B59 (pts:List Spot): ∀(n i:Nat) (s:Int),Le (B1y pts n i s) (A43 pts n i s)
  |0,i,s=>Le.refl _
  |n+1,i,s=>by
   rw [A43,B1y]
   exact Le.bind (Le.refl _) fun _=>Le.bind (Le.refl _) fun _=>Le.bind (B1v _ _) fun _=>Le.bind (A6f _ _) fun _=>Le.bind (B1w _) fun _=>Le.bind (B59 pts n _ _) fun _=>Le.refl _
def B7o (pts:List Spot):Option (List (Int×CurvePiece)):=if pts.length≤1000000 then B1y pts (pts.length - 1) 0 0 else none
theorem C30 (pts:List Spot):Le (B7o pts) (B11 pts):=by
  unfold B7o B11
  repeat' first|with_reducible exact Le.refl _|with_reducible exact B59 _ _ _ _|with_reducible refine Le.bind ?_ fun _=> ?_|with_reducible refine Le.cond ?_ ?_|with_reducible refine Le.ite ?_ ?_|with_reducible refine Le.thenS ?_ (fun _=> ?_) (fun _=> ?_)|with_reducible refine Le.loop (fun _=> ?_) _|with_reducible refine Le.loopL (fun _ _=> ?_) _ _|exact Le.refl _
def A5k (x1:(List Int))(a1:(Int×CurvePiece)):Option (Stp (List Int) (List Int)):=
  (B0m x1 [a1.2.l]).bind fun v3=>some (.go v3)
theorem B1z (x1:(List Int))(a1:(Int×CurvePiece)):Le (A5k x1 a1) (V8 x1 a1):=by
  unfold A5k V8
  repeat' first|with_reducible exact Le.refl _|with_reducible refine Le.bind ?_ fun _=> ?_|with_reducible refine Le.cond ?_ ?_|with_reducible refine Le.ite ?_ ?_|with_reducible refine Le.thenS ?_ (fun _=> ?_) (fun _=> ?_)|with_reducible refine Le.loop (fun _=> ?_) _|with_reducible refine Le.loopL (fun _ _=> ?_) _ _|exact Le.refl _
def A8d (p1:Curve):Option (List Int):=
  (A73 p1).bind fun v1=>cond (v1 !=0) (some []) (((B7o p1.Pts).bind fun v2=>loopL (A5k) (fun (x1:(List Int))=>x1) v2 []).bind fun y1=>some y1)
theorem B5a (p1:Curve):Le (A8d p1) (A2c p1):=by
  unfold A8d A2c
  repeat' first|with_reducible exact Le.refl _|with_reducible exact B0o _|with_reducible exact C30 _|with_reducible exact B1z _ _|with_reducible refine Le.bind ?_ fun _=> ?_|with_reducible refine Le.cond ?_ ?_|with_reducible refine Le.ite ?_ ?_|with_reducible refine Le.thenS ?_ (fun _=> ?_) (fun _=> ?_)|with_reducible refine Le.loop (fun _=> ?_) _|with_reducible refine Le.loopL (fun _ _=> ?_) _ _|exact Le.refl _
def A5l (v1:(List Int))(x1:(Int×Int)):Option (Stp (Int×Int) Int):=
  cond (decide (x1.2< (v1.length:Int))) ((F3 v1 x1.2).bind fun v2=>some (.go ((w64 (x1.1+v2)),(w64 (x1.2+1))))) (some (.out x1.1))
theorem B20 (v1:(List Int))(x1:(Int×Int)):Le (A5l v1 x1) (R8 v1 x1):=by
  unfold A5l R8
  repeat' first|with_reducible exact Le.refl _|with_reducible refine Le.bind ?_ fun _=> ?_|with_reducible refine Le.cond ?_ ?_|with_reducible refine Le.ite ?_ ?_|with_reducible refine Le.thenS ?_ (fun _=> ?_) (fun _=> ?_)|with_reducible refine Le.loop (fun _=> ?_) _|with_reducible refine Le.loopL (fun _ _=> ?_) _ _|exact Le.refl _
def A5z (p1:Curve):Option Int:=
  (A8d p1).bind fun v1=>(A0w (A5l v1) (0,0)).bind fun y1=>some y1
theorem A9j (p1:Curve):Le (A5z p1) (A2d p1):=by
  unfold A5z A2d
  repeat' first|with_reducible exact Le.refl _|with_reducible exact B5a _|with_reducible exact B20 _ _|with_reducible refine Le.bind ?_ fun _=> ?_|with_reducible refine Le.cond ?_ ?_|with_reducible refine Le.ite ?_ ?_|with_reducible refine Le.thenS ?_ (fun _=> ?_) (fun _=> ?_)|with_reducible refine Le.loop (fun _=> ?_) _|with_reducible refine Le.loopL (fun _ _=> ?_) _ _|exact Le.refl _
def A2l (p1:Map)(p2:Int):Option Int:=
  (F3 p1.Lanes p2).bind fun v1=>(A5z v1.Curve_).bind fun v2=>some v2
theorem A32 (p1:Map)(p2:Int):Le (A2l p1 p2) (Z9 p1 p2):=by
  unfold A2l Z9
  repeat' first|with_reducible exact Le.refl _|with_reducible exact A9j _|with_reducible refine Le.bind ?_ fun _=> ?_|with_reducible refine Le.cond ?_ ?_|with_reducible refine Le.ite ?_ ?_|with_reducible refine Le.thenS ?_ (fun _=> ?_) (fun _=> ?_)|with_reducible refine Le.loop (fun _=> ?_) _|with_reducible refine Le.loopL (fun _ _=> ?_) _ _|exact Le.refl _
def A2m (p1:RoadsCheck)(v1:Zone)(x3:Int):Option (Stp Int (Sum Unit Int)):=
  cond (decide (x3< (v1.Parts.length:Int))) ((F3 v1.Parts x3).bind fun v5=>((cond (!((decide (v5.From<0))||(decide (v5.From≥v5.To)))) (A2l p1.Map_ v5.Lane_) (some default))).bind fun v6=>cond (((((decide (v5.From<0))||(decide (v5.From≥v5.To)))||(decide (v5.To>v6)))||(decide (v5.Rank<0)))||(decide (v5.Rank>100))) (some (.out (.inr 2))) (some (.go (w64 (x3+1))))) (some (.out (.inl ())))
theorem A8e (p1:RoadsCheck)(v1:Zone)(x3:Int):Le (A2m p1 v1 x3) (O2 p1 v1 x3):=by
  unfold A2m O2
  repeat' first|with_reducible exact Le.refl _|with_reducible exact A32 _ _|with_reducible refine Le.bind ?_ fun _=> ?_|with_reducible refine Le.cond ?_ ?_|with_reducible refine Le.ite ?_ ?_|with_reducible refine Le.thenS ?_ (fun _=> ?_) (fun _=> ?_)|with_reducible refine Le.loop (fun _=> ?_) _|with_reducible refine Le.loopL (fun _ _=> ?_) _ _|exact Le.refl _
def A2n (v1:Zone)(x2:((List Int)×Int)):Option (Stp ((List Int)×Int) (List Int)):=
  cond (decide (x2.2< (v1.Parts.length:Int))) ((F3 v1.Parts x2.2).bind fun v2=>(B0m x2.1 [v2.Lane_]).bind fun v3=>some (.go (v3,(w64 (x2.2+1))))) (some (.out x2.1))
theorem A8f (v1:Zone)(x2:((List Int)×Int)):Le (A2n v1 x2) (U2 v1 x2):=by
  unfold A2n U2
  repeat' first|with_reducible exact Le.refl _|with_reducible refine Le.bind ?_ fun _=> ?_|with_reducible refine Le.cond ?_ ?_|with_reducible refine Le.ite ?_ ?_|with_reducible refine Le.thenS ?_ (fun _=> ?_) (fun _=> ?_)|with_reducible refine Le.loop (fun _=> ?_) _|with_reducible refine Le.loopL (fun _ _=> ?_) _ _|exact Le.refl _
def A2o (p1:RoadsCheck)(x1:Int):Option (Stp Int (Sum Unit Int)):=
  cond (decide (x1< (p1.Map_.Zones.length:Int))) ((F3 p1.Map_.Zones x1).bind fun v1=>cond (decide ((v1.Parts.length:Int)<2)) (some (.out (.inr 6))) (cond (decide ((v1.Parts.length:Int)>6)) (some (.out (.inr 8))) (cond ((decide (v1.Signal_<0))||(decide (v1.Signal_>(p1.Map_.Signals.length:Int)))) (some (.out (.inr 2))) ((A0w (A2n v1) ([],0)).bind fun y2=>(A47 y2 0 (p1.Map_.Lanes.length:Int)).bind fun v4=>cond (!v4) (some (.out (.inr 11))) (thenS (A0w (A2m p1 v1) 0) (fun _=>some (.go (w64 (x1+1)))) (fun r=>some (.out (.inr r)))))))) (some (.out (.inl ())))
theorem A8g (p1:RoadsCheck)(x1:Int):Le (A2o p1 x1) (O3 p1 x1):=by
  unfold A2o O3
  repeat' first|with_reducible exact Le.refl _|with_reducible exact A8f _ _|with_reducible exact A6h _ _ _|with_reducible exact A8e _ _ _|with_reducible refine Le.bind ?_ fun _=> ?_|with_reducible refine Le.cond ?_ ?_|with_reducible refine Le.ite ?_ ?_|with_reducible refine Le.thenS ?_ (fun _=> ?_) (fun _=> ?_)|with_reducible refine Le.loop (fun _=> ?_) _|with_reducible refine Le.loopL (fun _ _=> ?_) _ _|exact Le.refl _
def A49 (p1:RoadsCheck):Option Int:=
  thenS (A0w (A2o p1) 0) (fun _=>some 0) (fun r=>some r)
theorem B0c (p1:RoadsCheck):Le (A49 p1) (T1 p1):=by
  unfold A49 T1
  repeat' first|with_reducible exact Le.refl _|with_reducible exact A8g _ _|with_reducible refine Le.bind ?_ fun _=> ?_|with_reducible refine Le.cond ?_ ?_|with_reducible refine Le.ite ?_ ?_|with_reducible refine Le.thenS ?_ (fun _=> ?_) (fun _=> ?_)|with_reducible refine Le.loop (fun _=> ?_) _|with_reducible refine Le.loopL (fun _ _=> ?_) _ _|exact Le.refl _
def A2p (p1:RoadsCheck)(x1:Int):Option (Stp Int (Sum Unit Int)):=
  cond (decide (x1< (p1.Map_.Works.length:Int))) ((F3 p1.Map_.Works x1).bind fun v1=>cond ((decide (v1.Lane_<0))||(decide (v1.Lane_≥(p1.Map_.Lanes.length:Int)))) (some (.out (.inr 7))) ((F3 p1.Map_.Lanes v1.Lane_).bind fun v2=>(A5y v2.Kind).bind fun v3=>((cond (!((decide (v1.From<0))||(decide (v1.From>v1.To)))) (A2l p1.Map_ v1.Lane_) (some default))).bind fun v4=>((cond (!((((((decide (v1.From<0))||(decide (v1.From>v1.To)))||(decide (v1.To>v4)))||(decide (v1.Begin<0)))||(decide (v1.Begin≥v1.End)))||(decide (v1.End>1099511627776)))) (S5 v1.Limit 0 v3.1) (some default))).bind fun v5=>cond (((((((decide (v1.From<0))||(decide (v1.From>v1.To)))||(decide (v1.To>v4)))||(decide (v1.Begin<0)))||(decide (v1.Begin≥v1.End)))||(decide (v1.End>1099511627776)))||(!v5)) (some (.out (.inr 2))) (some (.go (w64 (x1+1)))))) (some (.out (.inl ())))
theorem A8h (p1:RoadsCheck)(x1:Int):Le (A2p p1 x1) (O4 p1 x1):=by
  unfold A2p O4
  repeat' first|with_reducible exact Le.refl _|with_reducible exact A9h _|with_reducible exact A32 _ _|with_reducible exact W6 _ _ _|with_reducible refine Le.bind ?_ fun _=> ?_|with_reducible refine Le.cond ?_ ?_|with_reducible refine Le.ite ?_ ?_|with_reducible refine Le.thenS ?_ (fun _=> ?_) (fun _=> ?_)|with_reducible refine Le.loop (fun _=> ?_) _|with_reducible refine Le.loopL (fun _ _=> ?_) _ _|exact Le.refl _
def A4a (p1:RoadsCheck):Option Int:=
  thenS (A0w (A2p p1) 0) (fun _=>some 0) (fun r=>some r)
theorem B0d (p1:RoadsCheck):Le (A4a p1) (T3 p1):=by
  unfold A4a T3
  repeat' first|with_reducible exact Le.refl _|with_reducible exact A8h _ _|with_reducible refine Le.bind ?_ fun _=> ?_|with_reducible refine Le.cond ?_ ?_|with_reducible refine Le.ite ?_ ?_|with_reducible refine Le.thenS ?_ (fun _=> ?_) (fun _=> ?_)|with_reducible refine Le.loop (fun _=> ?_) _|with_reducible refine Le.loopL (fun _ _=> ?_) _ _|exact Le.refl _
def A06 (v:Nat)(p1:RoadsCheck):Option Int:=
  cond (Nat.beq v 43) (A36 p1) (cond (Nat.beq v 44) (A48 p1) (cond (Nat.beq v 45) (A3p p1) (cond (Nat.beq v 46) (A37 p1) (cond (Nat.beq v 47) (A49 p1) (cond (Nat.beq v 48) (A4a p1) (none))))))
theorem A5m (v:Nat)(p1:RoadsCheck):Le (A06 v p1) (Q7 v p1):=by
  unfold A06 Q7
  repeat' first|with_reducible exact Le.refl _|with_reducible exact A8z _|with_reducible exact B0b _|with_reducible exact A9i _|with_reducible exact A90 _|with_reducible exact B0c _|with_reducible exact B0d _|with_reducible refine Le.bind ?_ fun _=> ?_|with_reducible refine Le.cond ?_ ?_|with_reducible refine Le.ite ?_ ?_|with_reducible refine Le.thenS ?_ (fun _=> ?_) (fun _=> ?_)|with_reducible refine Le.loop (fun _=> ?_) _|with_reducible refine Le.loopL (fun _ _=> ?_) _ _|exact Le.refl _
def A6i (p1:Map)(x1:Int):Option (Stp Int (Sum Unit Int)):=
  cond (decide (x1< ([43,44,45,46,47,48].length:Int))) ((F3 [43,44,45,46,47,48] x1).bind fun v1=>(A06 v1 (RoadsCheck.mk p1)).bind fun v2=>cond (v2 !=0) (some (.out (.inr v2))) (some (.go (w64 (x1+1))))) (some (.out (.inl ())))
theorem B2x (p1:Map)(x1:Int):Le (A6i p1 x1) (L4 p1 x1):=by
  unfold A6i L4
  repeat' first|with_reducible exact Le.refl _|with_reducible exact A5m _ _|with_reducible refine Le.bind ?_ fun _=> ?_|with_reducible refine Le.cond ?_ ?_|with_reducible refine Le.ite ?_ ?_|with_reducible refine Le.thenS ?_ (fun _=> ?_) (fun _=> ?_)|with_reducible refine Le.loop (fun _=> ?_) _|with_reducible refine Le.loopL (fun _ _=> ?_) _ _|exact Le.refl _
def A2q (p1:Map):Option Int:=
  thenS (A0w (A6i p1) 0) (fun _=>some 0) (fun r=>some r)
theorem A3g (p1:Map):Le (A2q p1) (A0s p1):=by
  unfold A2q A0s
  repeat' first|with_reducible exact Le.refl _|with_reducible exact B2x _ _|with_reducible refine Le.bind ?_ fun _=> ?_|with_reducible refine Le.cond ?_ ?_|with_reducible refine Le.ite ?_ ?_|with_reducible refine Le.thenS ?_ (fun _=> ?_) (fun _=> ?_)|with_reducible refine Le.loop (fun _=> ?_) _|with_reducible refine Le.loopL (fun _ _=> ?_) _ _|exact Le.refl _
def A1e (p1:(List Int))(p2:Int)(x1:Int):Option (Stp Int (Sum Unit Int)):=
  cond (decide (x1< (p1.length:Int))) ((F3 p1 x1).bind fun v1=>cond (p2==v1) (some (.out (.inr x1))) (some (.go (w64 (x1+1))))) (some (.out (.inl ())))
theorem A6x (p1:(List Int))(p2:Int)(x1:Int):Le (A1e p1 p2 x1) (N4 p1 p2 x1):=by
  unfold A1e N4
  repeat' first|with_reducible exact Le.refl _|with_reducible refine Le.bind ?_ fun _=> ?_|with_reducible refine Le.cond ?_ ?_|with_reducible refine Le.ite ?_ ?_|with_reducible refine Le.thenS ?_ (fun _=> ?_) (fun _=> ?_)|with_reducible refine Le.loop (fun _=> ?_) _|with_reducible refine Le.loopL (fun _ _=> ?_) _ _|exact Le.refl _
def A2r (p1:(List Int))(p2:Int):Option Int:=
  thenS (A0w (A1e p1 p2) 0) (fun _=>some (-1)) (fun r=>some r)
theorem A8i (p1:(List Int))(p2:Int):Le (A2r p1 p2) (U3 p1 p2):=by
  unfold A2r U3
  repeat' first|with_reducible exact Le.refl _|with_reducible exact A6x _ _ _|with_reducible refine Le.bind ?_ fun _=> ?_|with_reducible refine Le.cond ?_ ?_|with_reducible refine Le.ite ?_ ?_|with_reducible refine Le.thenS ?_ (fun _=> ?_) (fun _=> ?_)|with_reducible refine Le.loop (fun _=> ?_) _|with_reducible refine Le.loopL (fun _ _=> ?_) _ _|exact Le.refl _
def P4 (p1:(List Int))(p2:Int):Option Bool:=
  (A2r p1 p2).bind fun v1=>some (decide (v1≥0))
theorem A0f (p1:(List Int))(p2:Int):Le (P4 p1 p2) (H7 p1 p2):=by
  unfold P4 H7
  repeat' first|with_reducible exact Le.refl _|with_reducible exact A8i _ _|with_reducible refine Le.bind ?_ fun _=> ?_|with_reducible refine Le.cond ?_ ?_|with_reducible refine Le.ite ?_ ?_|with_reducible refine Le.thenS ?_ (fun _=> ?_) (fun _=> ?_)|with_reducible refine Le.loop (fun _=> ?_) _|with_reducible refine Le.loopL (fun _ _=> ?_) _ _|exact Le.refl _
def A5n (p1:Map)(p2:Int)(x1:((List Int)×Int)):Option (Stp ((List Int)×Int) (List Int)):=
  cond (decide (x1.2< (p1.Lanes.length:Int))) ((F3 p1.Lanes x1.2).bind fun v1=>(P4 v1.Next p2).bind fun v2=>cond v2 ((B0m x1.1 [x1.2]).bind fun v3=>some (.go (v3,(w64 (x1.2+1))))) (some (.go (x1.1,(w64 (x1.2+1)))))) (some (.out x1.1))
theorem B21 (p1:Map)(p2:Int)(x1:((List Int)×Int)):Le (A5n p1 p2 x1) (A03 p1 p2 x1):=by
  unfold A5n A03
  repeat' first|with_reducible exact Le.refl _|with_reducible exact A0f _ _|with_reducible refine Le.bind ?_ fun _=> ?_|with_reducible refine Le.cond ?_ ?_|with_reducible refine Le.ite ?_ ?_|with_reducible refine Le.thenS ?_ (fun _=> ?_) (fun _=> ?_)|with_reducible refine Le.loop (fun _=> ?_) _|with_reducible refine Le.loopL (fun _ _=> ?_) _ _|exact Le.refl _
def A4b (p1:Map)(p2:Int):Option (List Int):=
  (A0w (A5n p1 p2) ([],0)).bind fun y1=>some y1
theorem A6j (p1:Map)(p2:Int):Le (A4b p1 p2) (A0n p1 p2):=by
  unfold A4b A0n
  repeat' first|with_reducible exact Le.refl _|with_reducible exact B21 _ _ _|with_reducible refine Le.bind ?_ fun _=> ?_|with_reducible refine Le.cond ?_ ?_|with_reducible refine Le.ite ?_ ?_|with_reducible refine Le.thenS ?_ (fun _=> ?_) (fun _=> ?_)|with_reducible refine Le.loop (fun _=> ?_) _|with_reducible refine Le.loopL (fun _ _=> ?_) _ _|exact Le.refl _
def A38 (p1:Map)(v7:List Int)(x1:(Int×Int)):Option (Stp (Int×Int) (Sum Unit Int)):=
  cond (decide (x1.2< (v7.length:Int))) ((F3 v7 x1.2).bind fun v8=>(F3 p1.Lanes x1.1).bind fun v9=>(P4 v9.Next v8).bind fun v10=>cond (!v10) (some (.out (.inr 13))) (some (.go (v8,(w64 (x1.2+1)))))) (some (.out (.inl ())))
theorem A91 (p1:Map)(v7:List Int)(x1:(Int×Int)):Le (A38 p1 v7 x1) (N5 p1 v7 x1):=by
  unfold A38 N5
  repeat' first|with_reducible exact Le.refl _|with_reducible exact A0f _ _|with_reducible refine Le.bind ?_ fun _=> ?_|with_reducible refine Le.cond ?_ ?_|with_reducible refine Le.ite ?_ ?_|with_reducible refine Le.thenS ?_ (fun _=> ?_) (fun _=> ?_)|with_reducible refine Le.loop (fun _=> ?_) _|with_reducible refine Le.loopL (fun _ _=> ?_) _ _|exact Le.refl _
def A4m (p1:Map)(p2:(List Int)):Option Int:=
  (A2q p1).bind fun v1=>cond (v1 !=0) (some v1) (((cond (!(((p2.length:Int)==0)||(decide ((p2.length:Int)>8)))) (F3 p2 0) (some default))).bind fun v2=>((cond (!((((p2.length:Int)==0)||(decide ((p2.length:Int)>8)))||(decide (v2<0)))) (F3 p2 0) (some default))).bind fun v3=>((cond (!(((((p2.length:Int)==0)||(decide ((p2.length:Int)>8)))||(decide (v2<0)))||(decide (v3≥(p1.Lanes.length:Int))))) (F3 p2 0) (some default))).bind fun v4=>((cond (!(((((p2.length:Int)==0)||(decide ((p2.length:Int)>8)))||(decide (v2<0)))||(decide (v3≥(p1.Lanes.length:Int))))) (A4b p1 v4) (some default))).bind fun v5=>cond ((((((p2.length:Int)==0)||(decide ((p2.length:Int)>8)))||(decide (v2<0)))||(decide (v3≥(p1.Lanes.length:Int))))||(decide ((v5.length:Int)>0))) (some 13) ((F3 p2 0).bind fun v6=>(C3n p2 1 (p2.length:Int)).bind fun v7=>thenS (A0w (A38 p1 v7) (v6,0)) (fun _=>some 0) (fun r=>some r)))
theorem B14 (p1:Map)(p2:(List Int)):Le (A4m p1 p2) (X7 p1 p2):=by
  unfold A4m X7
  repeat' first|with_reducible exact Le.refl _|with_reducible exact A3g _|with_reducible exact A6j _ _|with_reducible exact A91 _ _ _|with_reducible refine Le.bind ?_ fun _=> ?_|with_reducible refine Le.cond ?_ ?_|with_reducible refine Le.ite ?_ ?_|with_reducible refine Le.thenS ?_ (fun _=> ?_) (fun _=> ?_)|with_reducible refine Le.loop (fun _=> ?_) _|with_reducible refine Le.loopL (fun _ _=> ?_) _ _|exact Le.refl _
def A5o (p1:Map)(p2:(List Int))(x1:(Int×RoadsWay)):Option (Stp (Int×RoadsWay) RoadsWay):=
  cond (decide (x1.1< (p2.length:Int))) ((F3 p2 x1.1).bind fun v2=>(B0m x1.2.starts [x1.2.length]).bind fun v3=>(A2l p1 v2).bind fun v4=>some (.go ((w64 (x1.1+1)),(RoadsWay.mk x1.2.Map_ x1.2.lanes v3 (w64 (x1.2.length+v4)))))) (some (.out x1.2))
theorem B22 (p1:Map)(p2:(List Int))(x1:(Int×RoadsWay)):Le (A5o p1 p2 x1) (U1 p1 p2 x1):=by
  unfold A5o U1
  repeat' first|with_reducible exact Le.refl _|with_reducible exact A32 _ _|with_reducible refine Le.bind ?_ fun _=> ?_|with_reducible refine Le.cond ?_ ?_|with_reducible refine Le.ite ?_ ?_|with_reducible refine Le.thenS ?_ (fun _=> ?_) (fun _=> ?_)|with_reducible refine Le.loop (fun _=> ?_) _|with_reducible refine Le.loopL (fun _ _=> ?_) _ _|exact Le.refl _
def A8j (p1:Map)(p2:(List Int)):Option RoadsWay:=
  (A4m p1 p2).bind fun v1=>cond (v1 !=0) (some (RoadsWay.mk (Map.mk 0 [] [] [] []) [] [] 0)) ((A0w (A5o p1 p2) (0,(RoadsWay.mk p1 p2 [] 0))).bind fun y1=>some y1)
theorem B5b (p1:Map)(p2:(List Int)):Le (A8j p1 p2) (Z7 p1 p2):=by
  unfold A8j Z7
  repeat' first|with_reducible exact Le.refl _|with_reducible exact B14 _ _|with_reducible exact B22 _ _ _|with_reducible refine Le.bind ?_ fun _=> ?_|with_reducible refine Le.cond ?_ ?_|with_reducible refine Le.ite ?_ ?_|with_reducible refine Le.thenS ?_ (fun _=> ?_) (fun _=> ?_)|with_reducible refine Le.loop (fun _=> ?_) _|with_reducible refine Le.loopL (fun _ _=> ?_) _ _|exact Le.refl _
def A6k (p3:Int)(v1:RoadsWay)(x1:Int):Option (Stp Int Int):=
  (F3 v1.starts x1).bind fun v3=>cond (decide (v3>p3)) (some (.go (w64 (x1 - 1)))) (some (.out x1))
theorem B2y (p3:Int)(v1:RoadsWay)(x1:Int):Le (A6k p3 v1 x1) (V4 p3 v1 x1):=by
  unfold A6k V4
  repeat' first|with_reducible exact Le.refl _|with_reducible refine Le.bind ?_ fun _=> ?_|with_reducible refine Le.cond ?_ ?_|with_reducible refine Le.ite ?_ ?_|with_reducible refine Le.thenS ?_ (fun _=> ?_) (fun _=> ?_)|with_reducible refine Le.loop (fun _=> ?_) _|with_reducible refine Le.loopL (fun _ _=> ?_) _ _|exact Le.refl _
def A9k (p1:Map)(p2:(List Int))(p3:Int):Option (Int×Int×Bool):=
  (A8j p1 p2).bind fun v1=>((cond (!((v1.lanes.length:Int)==0)) (S5 p3 0 v1.length) (some default))).bind fun v2=>cond (((v1.lanes.length:Int)==0)||(!v2)) (some (0,0,false)) ((A0w (A6k p3 v1) (w64 ((v1.lanes.length:Int) - 1))).bind fun y1=>(F3 v1.lanes y1).bind fun v4=>(F3 v1.starts y1).bind fun v5=>some (v4,(w64 (p3 - v5)),true))
theorem B67 (p1:Map)(p2:(List Int))(p3:Int):Le (A9k p1 p2 p3) (A1k p1 p2 p3):=by
  unfold A9k A1k
  repeat' first|with_reducible exact Le.refl _|with_reducible exact B5b _ _|with_reducible exact W6 _ _ _|with_reducible exact B2y _ _ _|with_reducible refine Le.bind ?_ fun _=> ?_|with_reducible refine Le.cond ?_ ?_|with_reducible refine Le.ite ?_ ?_|with_reducible refine Le.thenS ?_ (fun _=> ?_) (fun _=> ?_)|with_reducible refine Le.loop (fun _=> ?_) _|with_reducible refine Le.loopL (fun _ _=> ?_) _ _|exact Le.refl _
def A6l (p1:Part)(p2:Int):Option Bool:=
  some (p1.Lane_==p2)
theorem B2z (p1:Part)(p2:Int):Le (A6l p1 p2) (A3c p1 p2):=by
  unfold A6l A3c
  repeat' first|with_reducible exact Le.refl _|with_reducible refine Le.bind ?_ fun _=> ?_|with_reducible refine Le.cond ?_ ?_|with_reducible refine Le.ite ?_ ?_|with_reducible refine Le.thenS ?_ (fun _=> ?_) (fun _=> ?_)|with_reducible refine Le.loop (fun _=> ?_) _|with_reducible refine Le.loopL (fun _ _=> ?_) _ _|exact Le.refl _
def M5 (p1:(List Part))(p2:Int)(x1:Int):Option (Stp Int (Sum Unit Int)):=
  cond (decide (x1< (p1.length:Int))) ((F3 p1 x1).bind fun v1=>(A6l v1 p2).bind fun v2=>cond v2 (some (.out (.inr x1))) (some (.go (w64 (x1+1))))) (some (.out (.inl ())))
theorem A0y (p1:(List Part))(p2:Int)(x1:Int):Le (M5 p1 p2 x1) (G9 p1 p2 x1):=by
  unfold M5 G9
  repeat' first|with_reducible exact Le.refl _|with_reducible exact B2z _ _|with_reducible refine Le.bind ?_ fun _=> ?_|with_reducible refine Le.cond ?_ ?_|with_reducible refine Le.ite ?_ ?_|with_reducible refine Le.thenS ?_ (fun _=> ?_) (fun _=> ?_)|with_reducible refine Le.loop (fun _=> ?_) _|with_reducible refine Le.loopL (fun _ _=> ?_) _ _|exact Le.refl _
def O7 (p1:(List Part))(p2:Int):Option Int:=
  thenS (A0w (M5 p1 p2) 0) (fun _=>some (-1)) (fun r=>some r)
theorem A1o (p1:(List Part))(p2:Int):Le (O7 p1 p2) (H6 p1 p2):=by
  unfold O7 H6
  repeat' first|with_reducible exact Le.refl _|with_reducible exact A0y _ _ _|with_reducible refine Le.bind ?_ fun _=> ?_|with_reducible refine Le.cond ?_ ?_|with_reducible refine Le.ite ?_ ?_|with_reducible refine Le.thenS ?_ (fun _=> ?_) (fun _=> ?_)|with_reducible refine Le.loop (fun _=> ?_) _|with_reducible refine Le.loopL (fun _ _=> ?_) _ _|exact Le.refl _
def A4n (p1:Zone)(p2:Int):Option (Part×Bool):=
  (O7 p1.Parts p2).bind fun v1=>cond (decide (v1<0)) (some ((Part.mk 0 0 0 0),false)) ((F3 p1.Parts v1).bind fun v2=>some (v2,true))
theorem A8k (p1:Zone)(p2:Int):Le (A4n p1 p2) (A3v p1 p2):=by
  unfold A4n A3v
  repeat' first|with_reducible exact Le.refl _|with_reducible exact A1o _ _|with_reducible refine Le.bind ?_ fun _=> ?_|with_reducible refine Le.cond ?_ ?_|with_reducible refine Le.ite ?_ ?_|with_reducible refine Le.thenS ?_ (fun _=> ?_) (fun _=> ?_)|with_reducible refine Le.loop (fun _=> ?_) _|with_reducible refine Le.loopL (fun _ _=> ?_) _ _|exact Le.refl _
def A5p (p1:Map)(p2:Zone)(v2:(List Int))(x1:Int):Option (Stp Int (Sum Unit Bool)):=
  cond (decide (x1< (v2.length:Int))) ((F3 v2 x1).bind fun v3=>(A4n p2 v3).bind fun v4=>((cond (!(!v4.2)) (A2l p1 v3) (some default))).bind fun v5=>cond ((!v4.2)||(v4.1.To !=v5)) (some (.out (.inr false))) (some (.go (w64 (x1+1))))) (some (.out (.inl ())))
theorem B23 (p1:Map)(p2:Zone)(v2:(List Int))(x1:Int):Le (A5p p1 p2 v2 x1) (A2f p1 p2 v2 x1):=by
  unfold A5p A2f
  repeat' first|with_reducible exact Le.refl _|with_reducible exact A8k _ _|with_reducible exact A32 _ _|with_reducible refine Le.bind ?_ fun _=> ?_|with_reducible refine Le.cond ?_ ?_|with_reducible refine Le.ite ?_ ?_|with_reducible refine Le.thenS ?_ (fun _=> ?_) (fun _=> ?_)|with_reducible refine Le.loop (fun _=> ?_) _|with_reducible refine Le.loopL (fun _ _=> ?_) _ _|exact Le.refl _
def A60 (p1:Map)(p2:Zone)(p3:Int):Option Bool:=
  (A4n p2 p3).bind fun v1=>cond ((!v1.2)||(v1.1.From !=0)) (some false) ((A4b p1 p3).bind fun v2=>thenS (A0w (A5p p1 p2 v2) 0) (fun _=>some true) (fun r=>some r))
theorem A9l (p1:Map)(p2:Zone)(p3:Int):Le (A60 p1 p2 p3) (A3w p1 p2 p3):=by
  unfold A60 A3w
  repeat' first|with_reducible exact Le.refl _|with_reducible exact A8k _ _|with_reducible exact A6j _ _|with_reducible exact B23 _ _ _ _|with_reducible refine Le.bind ?_ fun _=> ?_|with_reducible refine Le.cond ?_ ?_|with_reducible refine Le.ite ?_ ?_|with_reducible refine Le.thenS ?_ (fun _=> ?_) (fun _=> ?_)|with_reducible refine Le.loop (fun _=> ?_) _|with_reducible refine Le.loopL (fun _ _=> ?_) _ _|exact Le.refl _
def A6m (x1:(Int× (Int×Int×Int×Int×Int×Int×Int×Int×Int×Int×Int×Int)))(v1:Lane)(x2:(Int× (Int×Int×Int×Int×Int×Int×Int×Int×Int×Int×Int×Int))):Option (Stp (Int× (Int×Int×Int×Int×Int×Int×Int×Int×Int×Int×Int×Int)) (Int×Int×Int×Int×Int×Int×Int×Int×Int×Int×Int×Int)):=
  cond (decide (x2.1< (v1.Next.length:Int))) ((F3 v1.Next x2.1).bind fun v2=>(F3 ([x2.2.1,x2.2.2.1,x2.2.2.2.1,x2.2.2.2.2.1,x2.2.2.2.2.2.1,x2.2.2.2.2.2.2.1,x2.2.2.2.2.2.2.2.1,x2.2.2.2.2.2.2.2.2.1,x2.2.2.2.2.2.2.2.2.2.1,x2.2.2.2.2.2.2.2.2.2.2.1,x2.2.2.2.2.2.2.2.2.2.2.2.1,x2.2.2.2.2.2.2.2.2.2.2.2.2]:List Int) x1.1).bind fun v3=>(F3 ([x2.2.1,x2.2.2.1,x2.2.2.2.1,x2.2.2.2.2.1,x2.2.2.2.2.2.1,x2.2.2.2.2.2.2.1,x2.2.2.2.2.2.2.2.1,x2.2.2.2.2.2.2.2.2.1,x2.2.2.2.2.2.2.2.2.2.1,x2.2.2.2.2.2.2.2.2.2.2.1,x2.2.2.2.2.2.2.2.2.2.2.2.1,x2.2.2.2.2.2.2.2.2.2.2.2.2]:List Int) v2).bind fun v4=>(D1z .u32 1 (IntKind.wrap .u64 v2)).bind fun v5=>(F3 ([x2.2.1,x2.2.2.1,x2.2.2.2.1,x2.2.2.2.2.1,x2.2.2.2.2.2.1,x2.2.2.2.2.2.2.1,x2.2.2.2.2.2.2.2.1,x2.2.2.2.2.2.2.2.2.1,x2.2.2.2.2.2.2.2.2.2.1,x2.2.2.2.2.2.2.2.2.2.2.1,x2.2.2.2.2.2.2.2.2.2.2.2.1,x2.2.2.2.2.2.2.2.2.2.2.2.2]:List Int) x1.1).bind fun v6=>(D0b ([x2.2.1,x2.2.2.1,x2.2.2.2.1,x2.2.2.2.2.1,x2.2.2.2.2.2.1,x2.2.2.2.2.2.2.1,x2.2.2.2.2.2.2.2.1,x2.2.2.2.2.2.2.2.2.1,x2.2.2.2.2.2.2.2.2.2.1,x2.2.2.2.2.2.2.2.2.2.2.1,x2.2.2.2.2.2.2.2.2.2.2.2.1,x2.2.2.2.2.2.2.2.2.2.2.2.2]:List Int) x1.1 (IntKind.wrap .u32 (((BitVec.ofInt (IntKind.bits .u32) v3|||(BitVec.ofInt (IntKind.bits .u32) (IntKind.wrap .u32 (((BitVec.ofInt (IntKind.bits .u32) v4|||(BitVec.ofInt (IntKind.bits .u32) v5)).toNat:Nat))))).toNat:Nat)))).bind fun v7=>some (.go ((w64 (x2.1+1)),((v7.getD 0 0),(v7.getD 1 0),(v7.getD 2 0),(v7.getD 3 0),(v7.getD 4 0),(v7.getD 5 0),(v7.getD 6 0),(v7.getD 7 0),(v7.getD 8 0),(v7.getD 9 0),(v7.getD 10 0),(v7.getD 11 0))))) (some (.out x2.2))
theorem B30 (x1:(Int× (Int×Int×Int×Int×Int×Int×Int×Int×Int×Int×Int×Int)))(v1:Lane)(x2:(Int× (Int×Int×Int×Int×Int×Int×Int×Int×Int×Int×Int×Int))):Le (A6m x1 v1 x2) (A3d x1 v1 x2):=by
  unfold A6m A3d
  repeat' first|with_reducible exact Le.refl _|with_reducible refine Le.bind ?_ fun _=> ?_|with_reducible refine Le.cond ?_ ?_|with_reducible refine Le.ite ?_ ?_|with_reducible refine Le.thenS ?_ (fun _=> ?_) (fun _=> ?_)|with_reducible refine Le.loop (fun _=> ?_) _|with_reducible refine Le.loopL (fun _ _=> ?_) _ _|exact Le.refl _
def A6n (p1:Map)(x1:(Int× (Int×Int×Int×Int×Int×Int×Int×Int×Int×Int×Int×Int))):Option (Stp (Int× (Int×Int×Int×Int×Int×Int×Int×Int×Int×Int×Int×Int)) (Int×Int×Int×Int×Int×Int×Int×Int×Int×Int×Int×Int)):=
  cond (decide (x1.1≥0)) ((F3 p1.Lanes x1.1).bind fun v1=>(A0w (A6m x1 v1) (0,x1.2)).bind fun y2=>some (.go ((w64 (x1.1 - 1)),y2))) (some (.out x1.2))
theorem B31 (p1:Map)(x1:(Int× (Int×Int×Int×Int×Int×Int×Int×Int×Int×Int×Int×Int))):Le (A6n p1 x1) (A3e p1 x1):=by
  unfold A6n A3e
  repeat' first|with_reducible exact Le.refl _|with_reducible exact B30 _ _ _|with_reducible refine Le.bind ?_ fun _=> ?_|with_reducible refine Le.cond ?_ ?_|with_reducible refine Le.ite ?_ ?_|with_reducible refine Le.thenS ?_ (fun _=> ?_) (fun _=> ?_)|with_reducible refine Le.loop (fun _=> ?_) _|with_reducible refine Le.loopL (fun _ _=> ?_) _ _|exact Le.refl _
def A9m (p1:Map):Option (Int×Int×Int×Int×Int×Int×Int×Int×Int×Int×Int×Int):=
  (A0w (A6n p1) ((w64 ((p1.Lanes.length:Int) - 1)),(0,0,0,0,0,0,0,0,0,0,0,0))).bind fun y1=>some y1
theorem B68 (p1:Map):Le (A9m p1) (A6b p1):=by
  unfold A9m A6b
  repeat' first|with_reducible exact Le.refl _|with_reducible exact B31 _ _|with_reducible refine Le.bind ?_ fun _=> ?_|with_reducible refine Le.cond ?_ ?_|with_reducible refine Le.ite ?_ ?_|with_reducible refine Le.thenS ?_ (fun _=> ?_) (fun _=> ?_)|with_reducible refine Le.loop (fun _=> ?_) _|with_reducible refine Le.loopL (fun _ _=> ?_) _ _|exact Le.refl _
def A7f (p1:Int)(p2:Int):Option Bool:=
  (D20 .u32 p1 (IntKind.wrap .u64 p2)).bind fun v1=>some ((IntKind.wrap .u32 (((BitVec.ofInt (IntKind.bits .u32) v1&&&(BitVec.ofInt (IntKind.bits .u32) 1)).toNat:Nat)))==1)
theorem B3n (p1:Int)(p2:Int):Le (A7f p1 p2) (A45 p1 p2):=by
  unfold A7f A45
  repeat' first|with_reducible exact Le.refl _|with_reducible refine Le.bind ?_ fun _=> ?_|with_reducible refine Le.cond ?_ ?_|with_reducible refine Le.ite ?_ ?_|with_reducible refine Le.thenS ?_ (fun _=> ?_) (fun _=> ?_)|with_reducible refine Le.loop (fun _=> ?_) _|with_reducible refine Le.loopL (fun _ _=> ?_) _ _|exact Le.refl _
def A4c (p1:Part)(p2:(Int×Int×Int×Int×Int×Int×Int×Int×Int×Int×Int×Int))(p3:Int):Option Bool:=
  (F3 ([p2.1,p2.2.1,p2.2.2.1,p2.2.2.2.1,p2.2.2.2.2.1,p2.2.2.2.2.2.1,p2.2.2.2.2.2.2.1,p2.2.2.2.2.2.2.2.1,p2.2.2.2.2.2.2.2.2.1,p2.2.2.2.2.2.2.2.2.2.1,p2.2.2.2.2.2.2.2.2.2.2.1,p2.2.2.2.2.2.2.2.2.2.2.2]:List Int) p1.Lane_).bind fun v1=>(A7f v1 p3).bind fun v2=>some v2
theorem B0e (p1:Part)(p2:(Int×Int×Int×Int×Int×Int×Int×Int×Int×Int×Int×Int))(p3:Int):Le (A4c p1 p2 p3) (A1a p1 p2 p3):=by
  unfold A4c A1a
  repeat' first|with_reducible exact Le.refl _|with_reducible exact B3n _ _|with_reducible refine Le.bind ?_ fun _=> ?_|with_reducible refine Le.cond ?_ ?_|with_reducible refine Le.ite ?_ ?_|with_reducible refine Le.thenS ?_ (fun _=> ?_) (fun _=> ?_)|with_reducible refine Le.loop (fun _=> ?_) _|with_reducible refine Le.loopL (fun _ _=> ?_) _ _|exact Le.refl _
def L7 (p1:(List Part))(p2:(Int×Int×Int×Int×Int×Int×Int×Int×Int×Int×Int×Int))(p3:Int)(x1:Int):Option (Stp Int (Sum Unit Int)):=
  cond (decide (x1< (p1.length:Int))) ((F3 p1 x1).bind fun v1=>(A4c v1 p2 p3).bind fun v2=>cond v2 (some (.out (.inr x1))) (some (.go (w64 (x1+1))))) (some (.out (.inl ())))
theorem A0q (p1:(List Part))(p2:(Int×Int×Int×Int×Int×Int×Int×Int×Int×Int×Int×Int))(p3:Int)(x1:Int):Le (L7 p1 p2 p3 x1) (G4 p1 p2 p3 x1):=by
  unfold L7 G4
  repeat' first|with_reducible exact Le.refl _|with_reducible exact B0e _ _ _|with_reducible refine Le.bind ?_ fun _=> ?_|with_reducible refine Le.cond ?_ ?_|with_reducible refine Le.ite ?_ ?_|with_reducible refine Le.thenS ?_ (fun _=> ?_) (fun _=> ?_)|with_reducible refine Le.loop (fun _=> ?_) _|with_reducible refine Le.loopL (fun _ _=> ?_) _ _|exact Le.refl _
def N6 (p1:(List Part))(p2:(Int×Int×Int×Int×Int×Int×Int×Int×Int×Int×Int×Int))(p3:Int):Option Int:=
  thenS (A0w (L7 p1 p2 p3) 0) (fun _=>some (-1)) (fun r=>some r)
theorem A1f (p1:(List Part))(p2:(Int×Int×Int×Int×Int×Int×Int×Int×Int×Int×Int×Int))(p3:Int):Le (N6 p1 p2 p3) (H5 p1 p2 p3):=by
  unfold N6 H5
  repeat' first|with_reducible exact Le.refl _|with_reducible exact A0q _ _ _ _|with_reducible refine Le.bind ?_ fun _=> ?_|with_reducible refine Le.cond ?_ ?_|with_reducible refine Le.ite ?_ ?_|with_reducible refine Le.thenS ?_ (fun _=> ?_) (fun _=> ?_)|with_reducible refine Le.loop (fun _=> ?_) _|with_reducible refine Le.loopL (fun _ _=> ?_) _ _|exact Le.refl _
def L8 (p1:(List Part))(p2:(Int×Int×Int×Int×Int×Int×Int×Int×Int×Int×Int×Int))(p3:Int):Option Bool:=
  (N6 p1 p2 p3).bind fun v1=>some (decide (v1≥0))
theorem A0r (p1:(List Part))(p2:(Int×Int×Int×Int×Int×Int×Int×Int×Int×Int×Int×Int))(p3:Int):Le (L8 p1 p2 p3) (G5 p1 p2 p3):=by
  unfold L8 G5
  repeat' first|with_reducible exact Le.refl _|with_reducible exact A1f _ _ _|with_reducible refine Le.bind ?_ fun _=> ?_|with_reducible refine Le.cond ?_ ?_|with_reducible refine Le.ite ?_ ?_|with_reducible refine Le.thenS ?_ (fun _=> ?_) (fun _=> ?_)|with_reducible refine Le.loop (fun _=> ?_) _|with_reducible refine Le.loopL (fun _ _=> ?_) _ _|exact Le.refl _
def A5b (p1:Map)(p2:Zone)(p3:Int):Option Bool:=
  (A9m p1).bind fun v1=>(L8 p2.Parts v1 p3).bind fun v2=>some (!v2)
theorem A7g (p1:Map)(p2:Zone)(p3:Int):Le (A5b p1 p2 p3) (A3n p1 p2 p3):=by
  unfold A5b A3n
  repeat' first|with_reducible exact Le.refl _|with_reducible exact B68 _|with_reducible exact A0r _ _ _|with_reducible refine Le.bind ?_ fun _=> ?_|with_reducible refine Le.cond ?_ ?_|with_reducible refine Le.ite ?_ ?_|with_reducible refine Le.thenS ?_ (fun _=> ?_) (fun _=> ?_)|with_reducible refine Le.loop (fun _=> ?_) _|with_reducible refine Le.loopL (fun _ _=> ?_) _ _|exact Le.refl _
def A2s (p1:Int)(p2:Map)(p3:Zone):Option Bool:=
  (A5b p2 p3 p1).bind fun v1=>some (!v1)
theorem A8l (p1:Int)(p2:Map)(p3:Zone):Le (A2s p1 p2 p3) (Y5 p1 p2 p3):=by
  unfold A2s Y5
  repeat' first|with_reducible exact Le.refl _|with_reducible exact A7g _ _ _|with_reducible refine Le.bind ?_ fun _=> ?_|with_reducible refine Le.cond ?_ ?_|with_reducible refine Le.ite ?_ ?_|with_reducible refine Le.thenS ?_ (fun _=> ?_) (fun _=> ?_)|with_reducible refine Le.loop (fun _=> ?_) _|with_reducible refine Le.loopL (fun _ _=> ?_) _ _|exact Le.refl _
def L5 (p1:(List Int))(p2:Map)(p3:Zone)(x1:Int):Option (Stp Int (Sum Unit Int)):=
  cond (decide (x1< (p1.length:Int))) ((F3 p1 x1).bind fun v1=>(A2s v1 p2 p3).bind fun v2=>cond v2 (some (.out (.inr x1))) (some (.go (w64 (x1+1))))) (some (.out (.inl ())))
theorem A0g (p1:(List Int))(p2:Map)(p3:Zone)(x1:Int):Le (L5 p1 p2 p3 x1) (F9 p1 p2 p3 x1):=by
  unfold L5 F9
  repeat' first|with_reducible exact Le.refl _|with_reducible exact A8l _ _ _|with_reducible refine Le.bind ?_ fun _=> ?_|with_reducible refine Le.cond ?_ ?_|with_reducible refine Le.ite ?_ ?_|with_reducible refine Le.thenS ?_ (fun _=> ?_) (fun _=> ?_)|with_reducible refine Le.loop (fun _=> ?_) _|with_reducible refine Le.loopL (fun _ _=> ?_) _ _|exact Le.refl _
def M6 (p1:(List Int))(p2:Map)(p3:Zone):Option Int:=
  thenS (A0w (L5 p1 p2 p3) 0) (fun _=>some (-1)) (fun r=>some r)
theorem A0z (p1:(List Int))(p2:Map)(p3:Zone):Le (M6 p1 p2 p3) (H4 p1 p2 p3):=by
  unfold M6 H4
  repeat' first|with_reducible exact Le.refl _|with_reducible exact A0g _ _ _ _|with_reducible refine Le.bind ?_ fun _=> ?_|with_reducible refine Le.cond ?_ ?_|with_reducible refine Le.ite ?_ ?_|with_reducible refine Le.thenS ?_ (fun _=> ?_) (fun _=> ?_)|with_reducible refine Le.loop (fun _=> ?_) _|with_reducible refine Le.loopL (fun _ _=> ?_) _ _|exact Le.refl _
def L6 (p1:(List Int))(p2:Map)(p3:Zone):Option Bool:=
  (M6 p1 p2 p3).bind fun v1=>some (decide (v1≥0))
theorem A0h (p1:(List Int))(p2:Map)(p3:Zone):Le (L6 p1 p2 p3) (G0 p1 p2 p3):=by
  unfold L6 G0
  repeat' first|with_reducible exact Le.refl _|with_reducible exact A0z _ _ _|with_reducible refine Le.bind ?_ fun _=> ?_|with_reducible refine Le.cond ?_ ?_|with_reducible refine Le.ite ?_ ?_|with_reducible refine Le.thenS ?_ (fun _=> ?_) (fun _=> ?_)|with_reducible refine Le.loop (fun _=> ?_) _|with_reducible refine Le.loopL (fun _ _=> ?_) _ _|exact Le.refl _
def A2t (p1:Zone)(p2:Map)(p3:Int)(p4:(List Int)):Option Bool:=
  (A60 p2 p1 p3).bind fun v1=>((cond v1 (L6 p4 p2 p1) (some default))).bind fun v2=>some (v1&& (!v2))
theorem A8m (p1:Zone)(p2:Map)(p3:Int)(p4:(List Int)):Le (A2t p1 p2 p3 p4) (Y6 p1 p2 p3 p4):=by
  unfold A2t Y6
  repeat' first|with_reducible exact Le.refl _|with_reducible exact A9l _ _ _|with_reducible exact A0h _ _ _|with_reducible refine Le.bind ?_ fun _=> ?_|with_reducible refine Le.cond ?_ ?_|with_reducible refine Le.ite ?_ ?_|with_reducible refine Le.thenS ?_ (fun _=> ?_) (fun _=> ?_)|with_reducible refine Le.loop (fun _=> ?_) _|with_reducible refine Le.loopL (fun _ _=> ?_) _ _|exact Le.refl _
def K7 (p1:(List Zone))(p2:Map)(p3:Int)(p4:(List Int))(x1:Int):Option (Stp Int (Sum Unit Int)):=
  cond (decide (x1< (p1.length:Int))) ((F3 p1 x1).bind fun v1=>(A2t v1 p2 p3 p4).bind fun v2=>cond v2 (some (.out (.inr x1))) (some (.go (w64 (x1+1))))) (some (.out (.inl ())))
theorem A0a (p1:(List Zone))(p2:Map)(p3:Int)(p4:(List Int))(x1:Int):Le (K7 p1 p2 p3 p4 x1) (F5 p1 p2 p3 p4 x1):=by
  unfold K7 F5
  repeat' first|with_reducible exact Le.refl _|with_reducible exact A8m _ _ _ _|with_reducible refine Le.bind ?_ fun _=> ?_|with_reducible refine Le.cond ?_ ?_|with_reducible refine Le.ite ?_ ?_|with_reducible refine Le.thenS ?_ (fun _=> ?_) (fun _=> ?_)|with_reducible refine Le.loop (fun _=> ?_) _|with_reducible refine Le.loopL (fun _ _=> ?_) _ _|exact Le.refl _
def M4 (p1:(List Zone))(p2:Map)(p3:Int)(p4:(List Int)):Option Int:=
  thenS (A0w (K7 p1 p2 p3 p4) 0) (fun _=>some (-1)) (fun r=>some r)
theorem A0u (p1:(List Zone))(p2:Map)(p3:Int)(p4:(List Int)):Le (M4 p1 p2 p3 p4) (G8 p1 p2 p3 p4):=by
  unfold M4 G8
  repeat' first|with_reducible exact Le.refl _|with_reducible exact A0a _ _ _ _ _|with_reducible refine Le.bind ?_ fun _=> ?_|with_reducible refine Le.cond ?_ ?_|with_reducible refine Le.ite ?_ ?_|with_reducible refine Le.thenS ?_ (fun _=> ?_) (fun _=> ?_)|with_reducible refine Le.loop (fun _=> ?_) _|with_reducible refine Le.loopL (fun _ _=> ?_) _ _|exact Le.refl _
def K8 (p1:(List Zone))(p2:Map)(p3:Int)(p4:(List Int)):Option Bool:=
  (M4 p1 p2 p3 p4).bind fun v1=>some (decide (v1≥0))
theorem A0b (p1:(List Zone))(p2:Map)(p3:Int)(p4:(List Int)):Le (K8 p1 p2 p3 p4) (F6 p1 p2 p3 p4):=by
  unfold K8 F6
  repeat' first|with_reducible exact Le.refl _|with_reducible exact A0u _ _ _ _|with_reducible refine Le.bind ?_ fun _=> ?_|with_reducible refine Le.cond ?_ ?_|with_reducible refine Le.ite ?_ ?_|with_reducible refine Le.thenS ?_ (fun _=> ?_) (fun _=> ?_)|with_reducible refine Le.loop (fun _=> ?_) _|with_reducible refine Le.loopL (fun _ _=> ?_) _ _|exact Le.refl _
def A5q (p1:Map)(x1:((List Clash)×Int)):Option (Stp ((List Clash)×Int) (List Clash)):=
  cond (decide (x1.2< (p1.Lanes.length:Int))) ((A4b p1 x1.2).bind fun v1=>(K8 p1.Zones p1 x1.2 v1).bind fun v2=>cond ((decide ((v1.length:Int)>1))&& (!v2)) ((B0m x1.1 [(Clash.mk 1 (-1) x1.2 (-1))]).bind fun v3=>some (.go (v3,(w64 (x1.2+1))))) (some (.go (x1.1,(w64 (x1.2+1)))))) (some (.out x1.1))
theorem B24 (p1:Map)(x1:((List Clash)×Int)):Le (A5q p1 x1) (A2g p1 x1):=by
  unfold A5q A2g
  repeat' first|with_reducible exact Le.refl _|with_reducible exact A6j _ _|with_reducible exact A0b _ _ _ _|with_reducible refine Le.bind ?_ fun _=> ?_|with_reducible refine Le.cond ?_ ?_|with_reducible refine Le.ite ?_ ?_|with_reducible refine Le.thenS ?_ (fun _=> ?_) (fun _=> ?_)|with_reducible refine Le.loop (fun _=> ?_) _|with_reducible refine Le.loopL (fun _ _=> ?_) _ _|exact Le.refl _
def A8n (p1:Map):Option (List Clash):=
  (A0w (A5q p1) ([],0)).bind fun y1=>some y1
theorem B5c (p1:Map):Le (A8n p1) (A57 p1):=by
  unfold A8n A57
  repeat' first|with_reducible exact Le.refl _|with_reducible exact B24 _ _|with_reducible refine Le.bind ?_ fun _=> ?_|with_reducible refine Le.cond ?_ ?_|with_reducible refine Le.ite ?_ ?_|with_reducible refine Le.thenS ?_ (fun _=> ?_) (fun _=> ?_)|with_reducible refine Le.loop (fun _=> ?_) _|with_reducible refine Le.loopL (fun _ _=> ?_) _ _|exact Le.refl _
def A5r (p1:Map)(x1:((List Clash)×Int))(v1:Zone)(x2:((List Clash)×Int)):Option (Stp ((List Clash)×Int) (List Clash)):=
  cond (decide (x2.2< (v1.Parts.length:Int))) ((F3 v1.Parts x2.2).bind fun v2=>(A5b p1 v1 v2.Lane_).bind fun v3=>((cond (!v3) (A60 p1 v1 v2.Lane_) (some default))).bind fun v4=>cond ((!v3)&& (!v4)) ((B0m x2.1 [(Clash.mk 2 x1.2 v2.Lane_ (-1))]).bind fun v5=>some (.go (v5,(w64 (x2.2+1))))) (some (.go (x2.1,(w64 (x2.2+1)))))) (some (.out x2.1))
theorem B25 (p1:Map)(x1:((List Clash)×Int))(v1:Zone)(x2:((List Clash)×Int)):Le (A5r p1 x1 v1 x2) (A2h p1 x1 v1 x2):=by
  unfold A5r A2h
  repeat' first|with_reducible exact Le.refl _|with_reducible exact A7g _ _ _|with_reducible exact A9l _ _ _|with_reducible refine Le.bind ?_ fun _=> ?_|with_reducible refine Le.cond ?_ ?_|with_reducible refine Le.ite ?_ ?_|with_reducible refine Le.thenS ?_ (fun _=> ?_) (fun _=> ?_)|with_reducible refine Le.loop (fun _=> ?_) _|with_reducible refine Le.loopL (fun _ _=> ?_) _ _|exact Le.refl _
def A5s (p1:Map)(x1:((List Clash)×Int)):Option (Stp ((List Clash)×Int) (List Clash)):=
  cond (decide (x1.2< (p1.Zones.length:Int))) ((F3 p1.Zones x1.2).bind fun v1=>(A0w (A5r p1 x1 v1) (x1.1,0)).bind fun y2=>some (.go (y2,(w64 (x1.2+1))))) (some (.out x1.1))
theorem B26 (p1:Map)(x1:((List Clash)×Int)):Le (A5s p1 x1) (A2i p1 x1):=by
  unfold A5s A2i
  repeat' first|with_reducible exact Le.refl _|with_reducible exact B25 _ _ _ _|with_reducible refine Le.bind ?_ fun _=> ?_|with_reducible refine Le.cond ?_ ?_|with_reducible refine Le.ite ?_ ?_|with_reducible refine Le.thenS ?_ (fun _=> ?_) (fun _=> ?_)|with_reducible refine Le.loop (fun _=> ?_) _|with_reducible refine Le.loopL (fun _ _=> ?_) _ _|exact Le.refl _
def A8o (p1:Map):Option (List Clash):=
  (A0w (A5s p1) ([],0)).bind fun y1=>some y1
theorem B5d (p1:Map):Le (A8o p1) (A58 p1):=by
  unfold A8o A58
  repeat' first|with_reducible exact Le.refl _|with_reducible exact B26 _ _|with_reducible refine Le.bind ?_ fun _=> ?_|with_reducible refine Le.cond ?_ ?_|with_reducible refine Le.ite ?_ ?_|with_reducible refine Le.thenS ?_ (fun _=> ?_) (fun _=> ?_)|with_reducible refine Le.loop (fun _=> ?_) _|with_reducible refine Le.loopL (fun _ _=> ?_) _ _|exact Le.refl _
def A4o (p1:Map)(p2:Zone)(x1:((List Int)×Int)):Option (Stp ((List Int)×Int) (List Int)):=
  cond (decide (x1.2< (p2.Parts.length:Int))) ((F3 p2.Parts x1.2).bind fun v1=>(A5b p1 p2 v1.Lane_).bind fun v2=>cond v2 ((B0m x1.1 [v1.Lane_]).bind fun v3=>some (.go (v3,(w64 (x1.2+1))))) (some (.go (x1.1,(w64 (x1.2+1)))))) (some (.out x1.1))
theorem B15 (p1:Map)(p2:Zone)(x1:((List Int)×Int)):Le (A4o p1 p2 x1) (A1s p1 p2 x1):=by
  unfold A4o A1s
  repeat' first|with_reducible exact Le.refl _|with_reducible exact A7g _ _ _|with_reducible refine Le.bind ?_ fun _=> ?_|with_reducible refine Le.cond ?_ ?_|with_reducible refine Le.ite ?_ ?_|with_reducible refine Le.thenS ?_ (fun _=> ?_) (fun _=> ?_)|with_reducible refine Le.loop (fun _=> ?_) _|with_reducible refine Le.loopL (fun _ _=> ?_) _ _|exact Le.refl _
def A4v (p1:Map)(p2:Zone):Option (List Int):=
  (A0w (A4o p1 p2) ([],0)).bind fun y1=>some y1
theorem A8w (p1:Map)(p2:Zone):Le (A4v p1 p2) (A1m p1 p2):=by
  unfold A4v A1m
  repeat' first|with_reducible exact Le.refl _|with_reducible exact B15 _ _ _|with_reducible refine Le.bind ?_ fun _=> ?_|with_reducible refine Le.cond ?_ ?_|with_reducible refine Le.ite ?_ ?_|with_reducible refine Le.thenS ?_ (fun _=> ?_) (fun _=> ?_)|with_reducible refine Le.loop (fun _=> ?_) _|with_reducible refine Le.loopL (fun _ _=> ?_) _ _|exact Le.refl _
def A7h (p1:Zone)(p2:Int)(p3:Int):Option Bool:=
  (A4n p1 p2).bind fun v1=>(A4n p1 p3).bind fun v2=>some ((p1.Signal_==0)&& (v1.1.Rank==v2.1.Rank))
theorem B3o (p1:Zone)(p2:Int)(p3:Int):Le (A7h p1 p2 p3) (A46 p1 p2 p3):=by
  unfold A7h A46
  repeat' first|with_reducible exact Le.refl _|with_reducible exact A8k _ _|with_reducible refine Le.bind ?_ fun _=> ?_|with_reducible refine Le.cond ?_ ?_|with_reducible refine Le.ite ?_ ?_|with_reducible refine Le.thenS ?_ (fun _=> ?_) (fun _=> ?_)|with_reducible refine Le.loop (fun _=> ?_) _|with_reducible refine Le.loopL (fun _ _=> ?_) _ _|exact Le.refl _
def X8 (p2:Int)(x1:((List Clash)×Int))(v1:Zone)(v3:Int)(v4:List Int)(x3:((List Clash)×Int)):Option (Stp ((List Clash)×Int) (List Clash)):=
  cond (decide (x3.2< (v4.length:Int))) ((F3 v4 x3.2).bind fun v5=>(A7h v1 v3 v5).bind fun v6=>cond v6 ((B0m x3.1 [(Clash.mk p2 x1.2 v3 v5)]).bind fun v7=>some (.go (v7,(w64 (x3.2+1))))) (some (.go (x3.1,(w64 (x3.2+1)))))) (some (.out x3.1))
theorem A4p (p2:Int)(x1:((List Clash)×Int))(v1:Zone)(v3:Int)(v4:List Int)(x3:((List Clash)×Int)):Le (X8 p2 x1 v1 v3 v4 x3) (O8 p2 x1 v1 v3 v4 x3):=by
  unfold X8 O8
  repeat' first|with_reducible exact Le.refl _|with_reducible exact B3o _ _ _|with_reducible refine Le.bind ?_ fun _=> ?_|with_reducible refine Le.cond ?_ ?_|with_reducible refine Le.ite ?_ ?_|with_reducible refine Le.thenS ?_ (fun _=> ?_) (fun _=> ?_)|with_reducible refine Le.loop (fun _=> ?_) _|with_reducible refine Le.loopL (fun _ _=> ?_) _ _|exact Le.refl _
def X9 (p2:Int)(x1:((List Clash)×Int))(v1:Zone)(v2:(List Int))(x2:((List Clash)×Int)):Option (Stp ((List Clash)×Int) (List Clash)):=
  cond (decide (x2.2< (v2.length:Int))) ((F3 v2 x2.2).bind fun v3=>(C3n v2 (w64 (x2.2+1)) (v2.length:Int)).bind fun v4=>(A0w (X8 p2 x1 v1 v3 v4) (x2.1,0)).bind fun y3=>some (.go (y3,(w64 (x2.2+1))))) (some (.out x2.1))
theorem A4q (p2:Int)(x1:((List Clash)×Int))(v1:Zone)(v2:(List Int))(x2:((List Clash)×Int)):Le (X9 p2 x1 v1 v2 x2) (O9 p2 x1 v1 v2 x2):=by
  unfold X9 O9
  repeat' first|with_reducible exact Le.refl _|with_reducible exact A4p _ _ _ _ _ _|with_reducible refine Le.bind ?_ fun _=> ?_|with_reducible refine Le.cond ?_ ?_|with_reducible refine Le.ite ?_ ?_|with_reducible refine Le.thenS ?_ (fun _=> ?_) (fun _=> ?_)|with_reducible refine Le.loop (fun _=> ?_) _|with_reducible refine Le.loopL (fun _ _=> ?_) _ _|exact Le.refl _
def Y3 (p1:Map)(p2:Int)(x1:((List Clash)×Int)):Option (Stp ((List Clash)×Int) (List Clash)):=
  cond (decide (x1.2< (p1.Zones.length:Int))) ((F3 p1.Zones x1.2).bind fun v1=>(A4v p1 v1).bind fun v2=>(A0w (X9 p2 x1 v1 v2) (x1.1,0)).bind fun y2=>some (.go (y2,(w64 (x1.2+1))))) (some (.out x1.1))
theorem A4r (p1:Map)(p2:Int)(x1:((List Clash)×Int)):Le (Y3 p1 p2 x1) (P0 p1 p2 x1):=by
  unfold Y3 P0
  repeat' first|with_reducible exact Le.refl _|with_reducible exact A8w _ _|with_reducible exact A4q _ _ _ _ _|with_reducible refine Le.bind ?_ fun _=> ?_|with_reducible refine Le.cond ?_ ?_|with_reducible refine Le.ite ?_ ?_|with_reducible refine Le.thenS ?_ (fun _=> ?_) (fun _=> ?_)|with_reducible refine Le.loop (fun _=> ?_) _|with_reducible refine Le.loopL (fun _ _=> ?_) _ _|exact Le.refl _
def A0i (p1:Map)(p2:Int):Option (List Clash):=
  (A0w (Y3 p1 p2) ([],0)).bind fun y1=>some y1
theorem A61 (p1:Map)(p2:Int):Le (A0i p1 p2) (S3 p1 p2):=by
  unfold A0i S3
  repeat' first|with_reducible exact Le.refl _|with_reducible exact A4r _ _ _|with_reducible refine Le.bind ?_ fun _=> ?_|with_reducible refine Le.cond ?_ ?_|with_reducible refine Le.ite ?_ ?_|with_reducible refine Le.thenS ?_ (fun _=> ?_) (fun _=> ?_)|with_reducible refine Le.loop (fun _=> ?_) _|with_reducible refine Le.loopL (fun _ _=> ?_) _ _|exact Le.refl _
def A9n (p1:Map):Option (List Clash):=
  (A0i p1 3).bind fun v1=>some v1
theorem B69 (p1:Map):Le (A9n p1) (A6c p1):=by
  unfold A9n A6c
  repeat' first|with_reducible exact Le.refl _|with_reducible exact A61 _ _|with_reducible refine Le.bind ?_ fun _=> ?_|with_reducible refine Le.cond ?_ ?_|with_reducible refine Le.ite ?_ ?_|with_reducible refine Le.thenS ?_ (fun _=> ?_) (fun _=> ?_)|with_reducible refine Le.loop (fun _=> ?_) _|with_reducible refine Le.loopL (fun _ _=> ?_) _ _|exact Le.refl _
def A2u (p1:Phase)(p2:Int)(p3:Int):Option Bool:=
  (P4 p1.Green p2).bind fun v1=>((cond v1 (P4 p1.Green p3) (some default))).bind fun v2=>some (v1&&v2)
theorem A8p (p1:Phase)(p2:Int)(p3:Int):Le (A2u p1 p2 p3) (Y7 p1 p2 p3):=by
  unfold A2u Y7
  repeat' first|with_reducible exact Le.refl _|with_reducible exact A0f _ _|with_reducible refine Le.bind ?_ fun _=> ?_|with_reducible refine Le.cond ?_ ?_|with_reducible refine Le.ite ?_ ?_|with_reducible refine Le.thenS ?_ (fun _=> ?_) (fun _=> ?_)|with_reducible refine Le.loop (fun _=> ?_) _|with_reducible refine Le.loopL (fun _ _=> ?_) _ _|exact Le.refl _
def K1 (p1:(List Phase))(p2:Int)(p3:Int)(x1:Int):Option (Stp Int (Sum Unit Int)):=
  cond (decide (x1< (p1.length:Int))) ((F3 p1 x1).bind fun v1=>(A2u v1 p2 p3).bind fun v2=>cond v2 (some (.out (.inr x1))) (some (.go (w64 (x1+1))))) (some (.out (.inl ())))
theorem Z3 (p1:(List Phase))(p2:Int)(p3:Int)(x1:Int):Le (K1 p1 p2 p3 x1) (E6 p1 p2 p3 x1):=by
  unfold K1 E6
  repeat' first|with_reducible exact Le.refl _|with_reducible exact A8p _ _ _|with_reducible refine Le.bind ?_ fun _=> ?_|with_reducible refine Le.cond ?_ ?_|with_reducible refine Le.ite ?_ ?_|with_reducible refine Le.thenS ?_ (fun _=> ?_) (fun _=> ?_)|with_reducible refine Le.loop (fun _=> ?_) _|with_reducible refine Le.loopL (fun _ _=> ?_) _ _|exact Le.refl _
def K9 (p1:(List Phase))(p2:Int)(p3:Int):Option Int:=
  thenS (A0w (K1 p1 p2 p3) 0) (fun _=>some (-1)) (fun r=>some r)
theorem A0c (p1:(List Phase))(p2:Int)(p3:Int):Le (K9 p1 p2 p3) (F7 p1 p2 p3):=by
  unfold K9 F7
  repeat' first|with_reducible exact Le.refl _|with_reducible exact Z3 _ _ _ _|with_reducible refine Le.bind ?_ fun _=> ?_|with_reducible refine Le.cond ?_ ?_|with_reducible refine Le.ite ?_ ?_|with_reducible refine Le.thenS ?_ (fun _=> ?_) (fun _=> ?_)|with_reducible refine Le.loop (fun _=> ?_) _|with_reducible refine Le.loopL (fun _ _=> ?_) _ _|exact Le.refl _
def K2 (p1:(List Phase))(p2:Int)(p3:Int):Option Bool:=
  (K9 p1 p2 p3).bind fun v1=>some (decide (v1≥0))
theorem Z4 (p1:(List Phase))(p2:Int)(p3:Int):Le (K2 p1 p2 p3) (E7 p1 p2 p3):=by
  unfold K2 E7
  repeat' first|with_reducible exact Le.refl _|with_reducible exact A0c _ _ _|with_reducible refine Le.bind ?_ fun _=> ?_|with_reducible refine Le.cond ?_ ?_|with_reducible refine Le.ite ?_ ?_|with_reducible refine Le.thenS ?_ (fun _=> ?_) (fun _=> ?_)|with_reducible refine Le.loop (fun _=> ?_) _|with_reducible refine Le.loopL (fun _ _=> ?_) _ _|exact Le.refl _
def A4s (p1:Zone)(p2:Int)(p3:Int)(p4:Map):Option Bool:=
  ((cond (decide (p1.Signal_>0)) (F3 p4.Signals (w64 (p1.Signal_ - 1))) (some default))).bind fun v1=>((cond (decide (p1.Signal_>0)) (K2 v1.Phases p2 p3) (some default))).bind fun v2=>some ((decide (p1.Signal_>0))&&v2)
theorem B16 (p1:Zone)(p2:Int)(p3:Int)(p4:Map):Le (A4s p1 p2 p3 p4) (A0j p1 p2 p3 p4):=by
  unfold A4s A0j
  repeat' first|with_reducible exact Le.refl _|with_reducible exact Z4 _ _ _|with_reducible refine Le.bind ?_ fun _=> ?_|with_reducible refine Le.cond ?_ ?_|with_reducible refine Le.ite ?_ ?_|with_reducible refine Le.thenS ?_ (fun _=> ?_) (fun _=> ?_)|with_reducible refine Le.loop (fun _=> ?_) _|with_reducible refine Le.loopL (fun _ _=> ?_) _ _|exact Le.refl _
def U9 (p2:Int)(p3:Map)(x1:((List Clash)×Int))(v1:Zone)(v3:Int)(v4:List Int)(x3:((List Clash)×Int)):Option (Stp ((List Clash)×Int) (List Clash)):=
  cond (decide (x3.2< (v4.length:Int))) ((F3 v4 x3.2).bind fun v5=>(A4s v1 v3 v5 p3).bind fun v6=>cond v6 ((B0m x3.1 [(Clash.mk p2 x1.2 v3 v5)]).bind fun v7=>some (.go (v7,(w64 (x3.2+1))))) (some (.go (x3.1,(w64 (x3.2+1)))))) (some (.out x3.1))
theorem A4d (p2:Int)(p3:Map)(x1:((List Clash)×Int))(v1:Zone)(v3:Int)(v4:List Int)(x3:((List Clash)×Int)):Le (U9 p2 p3 x1 v1 v3 v4 x3) (N0 p2 p3 x1 v1 v3 v4 x3):=by
  unfold U9 N0
  repeat' first|with_reducible exact Le.refl _|with_reducible exact B16 _ _ _ _|with_reducible refine Le.bind ?_ fun _=> ?_|with_reducible refine Le.cond ?_ ?_|with_reducible refine Le.ite ?_ ?_|with_reducible refine Le.thenS ?_ (fun _=> ?_) (fun _=> ?_)|with_reducible refine Le.loop (fun _=> ?_) _|with_reducible refine Le.loopL (fun _ _=> ?_) _ _|exact Le.refl _
def V1 (p2:Int)(p3:Map)(x1:((List Clash)×Int))(v1:Zone)(v2:(List Int))(x2:((List Clash)×Int)):Option (Stp ((List Clash)×Int) (List Clash)):=
  cond (decide (x2.2< (v2.length:Int))) ((F3 v2 x2.2).bind fun v3=>(C3n v2 (w64 (x2.2+1)) (v2.length:Int)).bind fun v4=>(A0w (U9 p2 p3 x1 v1 v3 v4) (x2.1,0)).bind fun y3=>some (.go (y3,(w64 (x2.2+1))))) (some (.out x2.1))
theorem A4e (p2:Int)(p3:Map)(x1:((List Clash)×Int))(v1:Zone)(v2:(List Int))(x2:((List Clash)×Int)):Le (V1 p2 p3 x1 v1 v2 x2) (N1 p2 p3 x1 v1 v2 x2):=by
  unfold V1 N1
  repeat' first|with_reducible exact Le.refl _|with_reducible exact A4d _ _ _ _ _ _ _|with_reducible refine Le.bind ?_ fun _=> ?_|with_reducible refine Le.cond ?_ ?_|with_reducible refine Le.ite ?_ ?_|with_reducible refine Le.thenS ?_ (fun _=> ?_) (fun _=> ?_)|with_reducible refine Le.loop (fun _=> ?_) _|with_reducible refine Le.loopL (fun _ _=> ?_) _ _|exact Le.refl _
def V2 (p1:Map)(p2:Int)(p3:Map)(x1:((List Clash)×Int)):Option (Stp ((List Clash)×Int) (List Clash)):=
  cond (decide (x1.2< (p1.Zones.length:Int))) ((F3 p1.Zones x1.2).bind fun v1=>(A4v p1 v1).bind fun v2=>(A0w (V1 p2 p3 x1 v1 v2) (x1.1,0)).bind fun y2=>some (.go (y2,(w64 (x1.2+1))))) (some (.out x1.1))
theorem A4f (p1:Map)(p2:Int)(p3:Map)(x1:((List Clash)×Int)):Le (V2 p1 p2 p3 x1) (N2 p1 p2 p3 x1):=by
  unfold V2 N2
  repeat' first|with_reducible exact Le.refl _|with_reducible exact A8w _ _|with_reducible exact A4e _ _ _ _ _ _|with_reducible refine Le.bind ?_ fun _=> ?_|with_reducible refine Le.cond ?_ ?_|with_reducible refine Le.ite ?_ ?_|with_reducible refine Le.thenS ?_ (fun _=> ?_) (fun _=> ?_)|with_reducible refine Le.loop (fun _=> ?_) _|with_reducible refine Le.loopL (fun _ _=> ?_) _ _|exact Le.refl _
def Z5 (p1:Map)(p2:Int)(p3:Map):Option (List Clash):=
  (A0w (V2 p1 p2 p3) ([],0)).bind fun y1=>some y1
theorem A5c (p1:Map)(p2:Int)(p3:Map):Le (Z5 p1 p2 p3) (P8 p1 p2 p3):=by
  unfold Z5 P8
  repeat' first|with_reducible exact Le.refl _|with_reducible exact A4f _ _ _ _|with_reducible refine Le.bind ?_ fun _=> ?_|with_reducible refine Le.cond ?_ ?_|with_reducible refine Le.ite ?_ ?_|with_reducible refine Le.thenS ?_ (fun _=> ?_) (fun _=> ?_)|with_reducible refine Le.loop (fun _=> ?_) _|with_reducible refine Le.loopL (fun _ _=> ?_) _ _|exact Le.refl _
def A8q (p1:Map):Option (List Clash):=
  (Z5 p1 4 p1).bind fun v1=>some v1
theorem B5e (p1:Map):Le (A8q p1) (A5a p1):=by
  unfold A8q A5a
  repeat' first|with_reducible exact Le.refl _|with_reducible exact A5c _ _ _|with_reducible refine Le.bind ?_ fun _=> ?_|with_reducible refine Le.cond ?_ ?_|with_reducible refine Le.ite ?_ ?_|with_reducible refine Le.thenS ?_ (fun _=> ?_) (fun _=> ?_)|with_reducible refine Le.loop (fun _=> ?_) _|with_reducible refine Le.loopL (fun _ _=> ?_) _ _|exact Le.refl _
def B32 (p1:Map):Option Bool:=
  (A2q p1).bind fun v1=>((cond (v1==0) (A8n p1) (some default))).bind fun v2=>((cond (v1==0) (A8o p1) (some default))).bind fun v3=>((cond (v1==0) (A9n p1) (some default))).bind fun v4=>((cond (v1==0) (A8q p1) (some default))).bind fun v5=>some ((v1==0)&& ((w64 ((w64 ((w64 ((v2.length:Int)+ (v3.length:Int)))+ (v4.length:Int)))+ (v5.length:Int)))==0))
theorem B98 (p1:Map):Le (B32 p1) (A9e p1):=by
  unfold B32 A9e
  repeat' first|with_reducible exact Le.refl _|with_reducible exact A3g _|with_reducible exact B5c _|with_reducible exact B5d _|with_reducible exact B69 _|with_reducible exact B5e _|with_reducible refine Le.bind ?_ fun _=> ?_|with_reducible refine Le.cond ?_ ?_|with_reducible refine Le.ite ?_ ?_|with_reducible refine Le.thenS ?_ (fun _=> ?_) (fun _=> ?_)|with_reducible refine Le.loop (fun _=> ?_) _|with_reducible refine Le.loopL (fun _ _=> ?_) _ _|exact Le.refl _
def B27 (p1:Map)(p2:Int):Option Bool:=
  ((cond ((decide (p2≥0))&& (decide (p2< (p1.Lanes.length:Int)))) (A2q p1) (some default))).bind fun v1=>some (((decide (p2≥0))&& (decide (p2< (p1.Lanes.length:Int))))&& (v1==0))
theorem B5f (p1:Map)(p2:Int):Le (B27 p1 p2) (A71 p1 p2):=by
  unfold B27 A71
  repeat' first|with_reducible exact Le.refl _|with_reducible exact A3g _|with_reducible refine Le.bind ?_ fun _=> ?_|with_reducible refine Le.cond ?_ ?_|with_reducible refine Le.ite ?_ ?_|with_reducible refine Le.thenS ?_ (fun _=> ?_) (fun _=> ?_)|with_reducible refine Le.loop (fun _=> ?_) _|with_reducible refine Le.loopL (fun _ _=> ?_) _ _|exact Le.refl _
def A8r (p1:Map)(p2:Int):Option Int:=
  (B27 p1 p2).bind fun v1=>cond (!v1) (some 0) ((A2l p1 p2).bind fun v2=>some v2)
theorem B5g (p1:Map)(p2:Int):Le (A8r p1 p2) (V9 p1 p2):=by
  unfold A8r V9
  repeat' first|with_reducible exact Le.refl _|with_reducible exact B5f _ _|with_reducible exact A32 _ _|with_reducible refine Le.bind ?_ fun _=> ?_|with_reducible refine Le.cond ?_ ?_|with_reducible refine Le.ite ?_ ?_|with_reducible refine Le.thenS ?_ (fun _=> ?_) (fun _=> ?_)|with_reducible refine Le.loop (fun _=> ?_) _|with_reducible refine Le.loopL (fun _ _=> ?_) _ _|exact Le.refl _
def A6o (p1:Map)(p2:Int)(p3:Int)(p4:Int)(x1:(Int×Int)):Option (Stp (Int×Int) Int):=
  cond (decide (x1.2< (p1.Works.length:Int))) ((F3 p1.Works x1.2).bind fun v5=>((cond (v5.Lane_==p2) (S5 p3 v5.From v5.To) (some default))).bind fun v6=>((cond ((v5.Lane_==p2)&&v6) (S5 p4 v5.Begin (w64 (v5.End - 1))) (some default))).bind fun v7=>cond (((v5.Lane_==p2)&&v6)&&v7) (some (.go ((mm2 false x1.1 v5.Limit),(w64 (x1.2+1))))) (some (.go (x1.1,(w64 (x1.2+1)))))) (some (.out x1.1))
theorem B33 (p1:Map)(p2:Int)(p3:Int)(p4:Int)(x1:(Int×Int)):Le (A6o p1 p2 p3 p4 x1) (A3f p1 p2 p3 p4 x1):=by
  unfold A6o A3f
  repeat' first|with_reducible exact Le.refl _|with_reducible exact W6 _ _ _|with_reducible refine Le.bind ?_ fun _=> ?_|with_reducible refine Le.cond ?_ ?_|with_reducible refine Le.ite ?_ ?_|with_reducible refine Le.thenS ?_ (fun _=> ?_) (fun _=> ?_)|with_reducible refine Le.loop (fun _=> ?_) _|with_reducible refine Le.loopL (fun _ _=> ?_) _ _|exact Le.refl _
def A9o (p1:Map)(p2:Int)(p3:Int)(p4:Int):Option Int:=
  (B27 p1 p2).bind fun v1=>((cond (!(!v1)) (A2l p1 p2) (some default))).bind fun v2=>((cond (!(!v1)) (S5 p3 0 v2) (some default))).bind fun v3=>cond ((!v1)||(!v3)) (some 0) ((F3 p1.Lanes p2).bind fun v4=>(A0w (A6o p1 p2 p3 p4) (v4.Limit,0)).bind fun y1=>some y1)
theorem B6a (p1:Map)(p2:Int)(p3:Int)(p4:Int):Le (A9o p1 p2 p3 p4) (A6e p1 p2 p3 p4):=by
  unfold A9o A6e
  repeat' first|with_reducible exact Le.refl _|with_reducible exact B5f _ _|with_reducible exact A32 _ _|with_reducible exact W6 _ _ _|with_reducible exact B33 _ _ _ _ _|with_reducible refine Le.bind ?_ fun _=> ?_|with_reducible refine Le.cond ?_ ?_|with_reducible refine Le.ite ?_ ?_|with_reducible refine Le.thenS ?_ (fun _=> ?_) (fun _=> ?_)|with_reducible refine Le.loop (fun _=> ?_) _|with_reducible refine Le.loopL (fun _ _=> ?_) _ _|exact Le.refl _
def B3b:Option Bool:=
  (B2v).bind fun v1=>(A9k v1 [0] 60000).bind fun v2=>(A2q v1).bind fun v3=>((cond (v3==0) (B32 v1) (some default))).bind fun v4=>((cond (((((v3==0)&&v4)&& (v2.1==0))&& (v2.2.1==60000))&&v2.2.2) (A8r v1 1) (some default))).bind fun v5=>((cond ((((((v3==0)&&v4)&& (v2.1==0))&& (v2.2.1==60000))&&v2.2.2)&& (v5==100000)) (A9o v1 0 10 5) (some default))).bind fun v6=>some (((((((v3==0)&&v4)&& (v2.1==0))&& (v2.2.1==60000))&&v2.2.2)&& (v5==100000))&& (v6==1500))
theorem B6b:Le (B3b) (A3o):=by
  unfold B3b A3o
  repeat' first|with_reducible exact Le.refl _|with_reducible exact B97|with_reducible exact B67 _ _ _|with_reducible exact A3g _|with_reducible exact B98 _|with_reducible exact B5g _ _|with_reducible exact B6a _ _ _ _|with_reducible refine Le.bind ?_ fun _=> ?_|with_reducible refine Le.cond ?_ ?_|with_reducible refine Le.ite ?_ ?_|with_reducible refine Le.thenS ?_ (fun _=> ?_) (fun _=> ?_)|with_reducible refine Le.loop (fun _=> ?_) _|with_reducible refine Le.loopL (fun _ _=> ?_) _ _|exact Le.refl _
end Go.Abs.Roads
namespace Go.Abs.Roads
open Go Go.Abs
theorem A2v (n:Int): ∃y,A2x n=some (y,y*y==n)∧0≤y∧y≤67108864∧(∀m,0≤m→m<y→m*m<n)∧(y=67108864∨n≤y*y):=by
  have key:=C76 (f:=A1j n) (fun x=>0≤x.1∧x.1≤x.2∧x.2≤67108864∧(∀m,0≤m→m<x.1→m*m<n)∧(x.2=67108864∨n≤x.2*x.2)) (fun x=>(x.2 - x.1).toNat)
    (fun y=>0≤y∧y≤67108864∧(∀m,0≤m→m<y→m*m<n)∧(y=67108864∨n≤y*y)) (by
      rintro ⟨lo,hi⟩ ⟨h1,h2,h3,h4,h5⟩
      dsimp only at h1 h2 h3 h4 h5
      unfold A1j
      dsimp only
      by_cases hlt:lo<hi
      ·have e1:w64 (lo+hi)=lo+hi:=G3 (by omega)
       have e2:w64 ((lo+hi).tdiv 2)=(lo+hi) / 2:=by rw [Int.tdiv_eq_ediv_of_nonneg (by omega)];exact G3 (by omega)
       have hm:lo≤(lo+hi) / 2∧(lo+hi) / 2<hi:=by omega
       generalize hmid:(lo+hi) / 2=mid at*
       have hmm:mid*mid≤67108864*67108864:=D1b (by omega) (by omega)
       have hmm0:=B8t mid
       have e3:w64 (mid*mid)=mid*mid:=G3 (by omega)
       have e4:w64 (mid+1)=mid+1:=G3 (by omega)
       simp only [e1,e2,e3,e4,hlt,decide_true,cond_true]
       by_cases hc:mid*mid<n
       ·simp only [hc,decide_true,cond_true]
        refine ⟨_,rfl,⟨by omega,by omega,h3,fun m hm0 hm1=> ?_,h5⟩,by dsimp only;omega⟩
        rcases Int.lt_or_le m mid with q|q
        ·have:=Int.mul_le_mul (show m≤mid by omega) (show m≤mid by omega) hm0 (by omega);omega
        ·have:m=mid:=by dsimp only at hm1;omega
         subst this;exact hc
       ·simp only [hc,decide_false,cond_false]
        exact ⟨_,rfl,⟨h1,by dsimp only;omega,by dsimp only;omega,h4, .inr (by dsimp only;omega)⟩,by dsimp only;omega⟩
      ·simp only [hlt,decide_false,cond_false]
       obtain rfl:lo=hi:=by omega
       exact ⟨_,rfl,h1,h3,h4,h5⟩) (0,67108864) ⟨by decide,by decide,by decide,fun m h1 h2=>by dsimp only at h2;omega, .inl rfl⟩
  obtain ⟨y,hy,h1,h2,h3,h4⟩:=key
  refine ⟨y,?_,h1,h2,h3,h4⟩
  have hmm:y*y≤67108864*67108864:=D1b (by omega) (by omega)
  have hmm0:=B8t y
  unfold A2x
  rw [hy,Option.bind_some,G3 (by omega)]
/-- The least number whose square is not less. -/
noncomputable def rt (n:Int):Int:=(A2v n).choose
theorem B28 (n:Int):A2x n=some (rt n,rt n*rt n==n):=(A2v n).choose_spec.1
theorem C59 (n:Int):0≤rt n:=(A2v n).choose_spec.2.1
theorem D1l (n m:Int)(h1:0≤m)(h2:m<rt n):m*m<n:=(A2v n).choose_spec.2.2.2.1 m h1 h2
theorem D1m (n:Int):rt n=67108864∨n≤rt n*rt n:=(A2v n).choose_spec.2.2.2.2
theorem D2k {l:Int}(h0:0≤l)(h1:l≤67108864):rt (l*l)=l:=by
  rcases Int.lt_trichotomy (rt (l*l)) l with q|q|q
  ·rcases D1m (l*l)with h|h
   ·omega
   ·have h2:=C59 (l*l)
    have:=Int.mul_lt_mul' (show rt (l*l)≤l by omega) q h2 (by omega);omega
  ·exact q
  ·have:=D1l (l*l) l h0 q;omega
end Go.Abs.Roads
namespace Go.Abs.Roads
open Go Go.Abs
def okS (p:Spot):Bool:=decide (-16777216≤p.X)&&decide (p.X≤16777216)&&decide (-16777216≤p.Y)&&decide (p.Y≤16777216)
theorem okS_iff {p:Spot}:okS p=true↔ -16777216≤p.X∧p.X≤16777216∧ -16777216≤p.Y∧p.Y≤16777216:=by simp [okS,and_assoc]
theorem C5a (p:Spot):((decide ((mm2 false p.X p.Y)< (-16777216)))||(decide ((mm2 true p.X p.Y)>16777216)))= !okS p:=by
  rw [C9l,C9k]
  cases h:okS p with
  |true=>have:=okS_iff.1 h;simp;omega
  |false=>
   have: ¬(-16777216≤p.X∧p.X≤16777216∧ -16777216≤p.Y∧p.Y≤16777216):=fun q=>by rw [okS_iff.2 q]at h;cases h
   simp;omega
theorem B7p (l:List Spot)(hl:l.length≤1000000): ∀(r:List Spot) (i:Nat),l.drop i=r→loop (Y9 l) (i:Int)=some (if r.all okS then .inl ()else .inr false):=by
  intro r
  induction r with
  |nil=>
   intro i hi
   have:=A3j hi
   refine G1 ?_
   unfold Y9
   simp only [show ¬(i:Int)<l.length by omega,decide_false,cond_false,List.all_nil,if_true]
  |cons p r ih=>
   intro i hi
   have hlt:=A29 hi
   have hstep:Y9 l (i:Int)=if okS p then some (.go ((i+1:Nat):Int))else some (.out (.inr false)):=by
     unfold Y9
     simp only [show (i:Int)<l.length by omega,decide_true,cond_true,A94 hi,Option.bind_some,C5a]
     cases h:okS p with
     |true=>simp only [Bool.not_true,cond_false,if_true];rw [G3 (by omega)];rfl
     |false=>simp
   cases h:okS p with
   |true=>
    rw [h,if_pos rfl]at hstep
    rw [Q4 hstep,ih (i+1) (A0k hi)]
    simp [h]
   |false=>
    rw [h]at hstep
    rw [G1 hstep]
    simp [h]
theorem B7q (l:List Spot)(hl:l.length≤1000000):A4l l=some (l.all okS):=by
  unfold A4l
  have:=B7p l hl l 0 (by simp)
  rw [show ((0:Nat):Int)=0 from rfl]at this
  rw [this]
  cases l.all okS<;>rfl
def vec (p q:Spot):CurveVector:=⟨q.X - p.X,q.Y - p.Y⟩
def A3h (v w:CurveVector):Int:=v.x*w.x+v.y*w.y
/-- A vector between valid spots. -/
def okV (v:CurveVector):Prop:= -33554432≤v.x∧v.x≤33554432∧ -33554432≤v.y∧v.y≤33554432
theorem C5b {p q:Spot}(hp:okS p=true)(hq:okS q=true):okV (vec p q):=by
  have:=okS_iff.1 hp;have:=okS_iff.1 hq
  unfold okV vec;dsimp only;omega
theorem B29 {p q:Spot}(hp:okS p=true)(hq:okS q=true):A3u p q=some (vec p q):=by
  have:=okS_iff.1 hp;have:=okS_iff.1 hq
  unfold A3u vec
  rw [G3 (by omega),G3 (by omega)]
theorem D1n {v w:CurveVector}(hv:okV v)(hw:okV w): -2251799813685248≤A3h v w∧A3h v w≤2251799813685248∧(-1125899906842624≤v.x*w.x∧v.x*w.x≤1125899906842624)∧ -1125899906842624≤v.y*w.y∧v.y*w.y≤1125899906842624:=by
  obtain ⟨a1,a2,a3,a4⟩:=hv
  obtain ⟨b1,b2,b3,b4⟩:=hw
  have h1:=C8e ⟨a1,a2⟩ ⟨b1,b2⟩
  have h2:=C8e ⟨a3,a4⟩ ⟨b3,b4⟩
  unfold A3h
  omega
theorem A9p {v w:CurveVector}(hv:okV v)(hw:okV w):S4 v w=some (A3h v w):=by
  have h:=D1n hv hw
  unfold S4
  rw [G3 (n:=v.x*w.x) (by omega),G3 (n:=v.y*w.y) (by omega),G3 (by unfold A3h at h;omega)]
  rfl
/-- The error of a chain of points, from a piece on; the piece ahead of it. -/
noncomputable def goM:Option CurveVector→List Spot→Int
  |last,p::q::r=>
   if rt (A3h (vec p q) (vec p q))*rt (A3h (vec p q) (vec p q))≠A3h (vec p q) (vec p q)then 3
   else if rt (A3h (vec p q) (vec p q))<1000∨rt (A3h (vec p q) (vec p q))>1048576 then 2
   else match last with
     |some u=>if A3h u (vec p q)≤0 then 12 else goM (some (vec p q)) (q::r)
     |none=>goM (some (vec p q)) (q::r)
  |_,_=>0
theorem B7r (last:Option CurveVector)(p q:Spot)(r:List Spot):goM last (p::q::r)=
    if rt (A3h (vec p q) (vec p q))*rt (A3h (vec p q) (vec p q))≠A3h (vec p q) (vec p q)then 3
    else if rt (A3h (vec p q) (vec p q))<1000∨rt (A3h (vec p q) (vec p q))>1048576 then 2
    else match last with
      |some u=>if A3h u (vec p q)≤0 then 12 else goM (some (vec p q)) (q::r)
      |none=>goM (some (vec p q)) (q::r):=by
  conv=>lhs;unfold goM
noncomputable def A5d (l:List Spot):Int:=if l.length<2 then 6 else if l.length>16 then 5 else if l.all okS then goM none l else 2
theorem B6c (c:Curve)(hl:c.Pts.length≤1000000)(hok:c.Pts.all okS=true): ∀(r:List Spot) (p:Spot) (i:Nat) (last:CurveVector),c.Pts.drop i=p::r→okV last→
    loop (V3 c) ((i:Int),last)=some (if goM (if i=0 then none else some last) (p::r)=0 then .inl ()else .inr (goM (if i=0 then none else some last) (p::r))):=by
  intro r
  induction r with
  |nil=>
   intro p i last hi hlast
   have hlt:=A29 hi
   have:=A3j (A0k hi)
   refine G1 ?_
   unfold V3
   dsimp only
   rw [G3 (n:=(c.Pts.length:Int) - 1) (by omega)]
   simp only [show ¬(i:Int)< (c.Pts.length:Int) - 1 by omega,decide_false,cond_false,goM,if_true]
  |cons q r ih=>
   intro p i last hi hlast
   have hlt:=A29 hi
   have hi1:=A0k hi
   have hlt1:=A29 hi1
   have hp:okS p=true:=List.all_eq_true.1 hok p (List.mem_of_mem_drop (i:=i) (by rw [hi];simp))
   have hq:okS q=true:=List.all_eq_true.1 hok q (List.mem_of_mem_drop (i:=i) (by rw [hi];simp))
   have hv:=C5b hp hq
   have hg1:F3 c.Pts ((i:Int)+1)=some q:=by have:=A94 hi1;simpa using this
   have hstep:V3 c ((i:Int),last)=
    if rt (A3h (vec p q) (vec p q))*rt (A3h (vec p q) (vec p q))≠A3h (vec p q) (vec p q)then some (.out (.inr 3))
    else if rt (A3h (vec p q) (vec p q))<1000∨rt (A3h (vec p q) (vec p q))>1048576 then some (.out (.inr 2))
    else if i≠0∧A3h last (vec p q)≤0 then some (.out (.inr 12))else some (.go (((i+1:Nat):Int),vec p q)):=by
     unfold V3
     dsimp only
     rw [G3 (n:=(c.Pts.length:Int) - 1) (by omega),G3 (n:=(i:Int)+1) (by omega)]
     simp only [show (i:Int)< (c.Pts.length:Int) - 1 by omega,decide_true,cond_true,A94 hi,hg1,Option.bind_some,B29 hp hq,A9p hv hv,B28]
     by_cases h1:rt (A3h (vec p q) (vec p q))*rt (A3h (vec p q) (vec p q))=A3h (vec p q) (vec p q)
     ·simp only [h1,beq_self_eq_true,Bool.not_true,cond_false,ne_eq,not_true_eq_false,if_false]
      by_cases h2:rt (A3h (vec p q) (vec p q))<1000∨rt (A3h (vec p q) (vec p q))>1048576
      ·rw [if_pos h2]
       have:(decide (rt (A3h (vec p q) (vec p q))<1000)||decide (rt (A3h (vec p q) (vec p q))>1048576))=true:=by simpa using h2
       rw [this];rfl
      ·rw [if_neg h2]
       have:(decide (rt (A3h (vec p q) (vec p q))<1000)||decide (rt (A3h (vec p q) (vec p q))>1048576))=false:=by simpa using h2
       rw [this]
       simp only [cond_false]
       by_cases h3:i=0
       ·subst h3
        simp only [Int.natCast_zero,gt_iff_lt,Int.lt_irrefl,decide_false,cond_false,Bool.false_and,Option.bind_some,not_true_eq_false,false_and,if_false]
        rfl
       ·have h4:(i:Int)>0:=by omega
        simp only [h4,decide_true,cond_true,A9p hlast hv,Option.bind_some,Bool.true_and,h3,not_false_eq_true,true_and]
        by_cases h5:A3h last (vec p q)≤0<;>simp [h5]
     ·have:(rt (A3h (vec p q) (vec p q))*rt (A3h (vec p q) (vec p q))==A3h (vec p q) (vec p q))=false:=by simpa using h1
      simp only [this,Bool.not_false,cond_true,ne_eq,h1,not_false_eq_true,if_true]
   rw [B7r]
   by_cases h1:rt (A3h (vec p q) (vec p q))*rt (A3h (vec p q) (vec p q))≠A3h (vec p q) (vec p q)
   ·rw [if_pos h1]at hstep
    rw [G1 hstep,if_pos h1];rfl
   ·rw [if_neg h1]at hstep ⊢
    by_cases h2:rt (A3h (vec p q) (vec p q))<1000∨rt (A3h (vec p q) (vec p q))>1048576
    ·rw [if_pos h2]at hstep
     rw [G1 hstep,if_pos h2];rfl
    ·rw [if_neg h2]at hstep ⊢
     by_cases h3:i=0
     ·subst h3
      rw [if_neg (by simp)]at hstep
      rw [Q4 hstep,ih q (0+1) (vec p q) hi1 hv]
      simp
     ·by_cases h5:A3h last (vec p q)≤0
      ·rw [if_pos ⟨h3,h5⟩]at hstep
       rw [G1 hstep]
       simp [h3,h5]
      ·rw [if_neg (fun h=>h5 h.2)]at hstep
       rw [Q4 hstep,ih q (i+1) (vec p q) hi1 hv]
       simp [h3,h5]
theorem B0p (c:Curve)(hl:c.Pts.length≤1000000):A2b c=some (A5d c.Pts):=by
  unfold A2b A5d
  by_cases h1:c.Pts.length<2
  ·rw [if_pos h1,show decide ((c.Pts.length:Int)<2)=true by simp;omega];rfl
  ·rw [if_neg h1,show decide ((c.Pts.length:Int)<2)=false by simp;omega]
   simp only [cond_false]
   by_cases h2:c.Pts.length>16
   ·rw [if_pos h2,show decide ((c.Pts.length:Int)>16)=true by simp;omega];rfl
   ·rw [if_neg h2,show decide ((c.Pts.length:Int)>16)=false by simp;omega]
    simp only [cond_false,B7q c.Pts hl,Option.bind_some]
    cases h3:c.Pts.all okS with
    |false=>rfl
    |true=>
     simp only [Bool.not_true,cond_false,if_true]
     cases hp:c.Pts with
     |nil=>rw [hp]at h1;simp at h1
     |cons p r=>
      have:=B6c c hl h3 r p 0 ⟨0,0⟩ (by rw [hp];rfl) ⟨by decide,by decide,by decide,by decide⟩
      rw [if_pos rfl,show ((0:Nat):Int)=0 from rfl]at this
      rw [this]
      by_cases h4:goM none (p::r)=0
      ·rw [if_pos h4,h4];rfl
      ·rw [if_neg h4];rfl
end Go.Abs.Roads
namespace Go.Abs.Roads
open Go Go.Abs
/-- What a valid chain is. -/
inductive Good:Option CurveVector→List Spot→Prop
  |one (last:Option CurveVector) (p:Spot):Good last [p]
  |cons (last:Option CurveVector) (p q:Spot) (r:List Spot) (h1:rt (A3h (vec p q) (vec p q))*rt (A3h (vec p q) (vec p q))=A3h (vec p q) (vec p q)) (h2:1000≤rt (A3h (vec p q) (vec p q))) (h3:rt (A3h (vec p q) (vec p q))≤1048576)
     (h4: ∀u,last=some u→0<A3h u (vec p q)) (h:Good (some (vec p q)) (q::r)):Good last (p::q::r)
theorem C0k: ∀(r:List Spot) (p:Spot) (last:Option CurveVector),goM last (p::r)=0→Good last (p::r):=by
  intro r
  induction r with
  |nil=>intro p last _;exact .one _ _
  |cons q r ih=>
   intro p last h
   rw [B7r]at h
   split at h
   ·cases h
   ·rename_i h1
    split at h
    ·cases h
    ·rename_i h2
     have h1:rt (A3h (vec p q) (vec p q))*rt (A3h (vec p q) (vec p q))=A3h (vec p q) (vec p q):=by simpa using h1
     cases last with
     |none=>exact .cons _ _ _ _ h1 (by omega) (by omega) (fun u hu=>by cases hu) (ih q _ h)
     |some u=>
      dsimp only at h
      split at h
      ·cases h
      ·exact .cons _ _ _ _ h1 (by omega) (by omega) (fun u' hu=>by cases hu;omega) (ih q _ h)
theorem C0l {last:Option CurveVector}{l:List Spot}(h:Good last l):goM last l=0:=by
  induction h with
  |one=>rfl
  |cons last p q r h1 h2 h3 h4 h ih=>
   rw [B7r,if_neg (by simpa using h1),if_neg (by omega)]
   cases last with
   |none=>exact ih
   |some u=>dsimp only;rw [if_neg (by have:=h4 u rfl;omega)];exact ih
structure Valid (l:List Spot):Prop where
  two:2≤l.length
  most:l.length≤16
  ok:l.all okS=true
  good:Good none l
theorem checkM_zero {l:List Spot}:A5d l=0↔Valid l:=by
  unfold A5d
  constructor
  ·intro h
   split at h
   ·cases h
   ·rename_i h1
    split at h
    ·cases h
    ·rename_i h2
     split at h
     ·rename_i h3
      cases l with
      |nil=>simp at h1
      |cons p r=>exact ⟨by omega,by omega,h3,C0k r p none h⟩
     ·cases h
  ·rintro ⟨h1,h2,h3,h4⟩
   rw [if_neg (by omega),if_neg (by omega),if_pos h3]
   exact C0l h4
end Go.Abs.Roads
namespace Go.Abs.Roads
open Go Go.Abs
/-- The pieces of a chain: the number, the piece. -/
noncomputable def B17:Nat→Int→List Spot→List (Int×CurvePiece)
  |i,s,p::q::r=>((i:Int),⟨p,vec p q,rt (A3h (vec p q) (vec p q)),s⟩)::B17 (i+1) (w64 (s+rt (A3h (vec p q) (vec p q)))) (q::r)
  |_,_,_=> []
theorem B3c (i:Nat)(s:Int)(p q:Spot)(r:List Spot):B17 i s (p::q::r)=((i:Int),⟨p,vec p q,rt (A3h (vec p q) (vec p q)),s⟩)::B17 (i+1) (w64 (s+rt (A3h (vec p q) (vec p q)))) (q::r):=by conv=>lhs;unfold B17
theorem C0m (pts:List Spot)(hok:pts.all okS=true): ∀(r:List Spot) (p:Spot) (i:Nat) (s:Int),pts.drop i=p::r→A43 pts r.length i s=some (B17 i s (p::r)):=by
  intro r
  induction r with
  |nil=>intro p i s _;rfl
  |cons q r ih=>
   intro p i s hi
   have hi1:=A0k hi
   have hp:okS p=true:=List.all_eq_true.1 hok p (List.mem_of_mem_drop (i:=i) (by rw [hi];simp))
   have hq:okS q=true:=List.all_eq_true.1 hok q (List.mem_of_mem_drop (i:=i) (by rw [hi];simp))
   have hv:=C5b hp hq
   have h0:pts[i]? =some p:=by have:=congrArg (fun z=>z[0]?) hi;simpa using this
   have h1:pts[i+1]? =some q:=by have:=congrArg (fun z=>z[0]?) hi1;simpa using this
   rw [List.length_cons,A43,h0,h1]
   simp only [Option.bind_some,B29 hp hq,A9p hv hv,B28]
   rw [ih q (i+1) _ hi1,B3c]
   rfl
theorem C31 {pts:List Spot}(h:Valid pts):B11 pts=some (B17 0 0 pts):=by
  unfold B11
  have:=h.most
  rw [if_pos (by omega)]
  cases hp:pts with
  |nil=>have:=h.two;rw [hp]at this;simp at this
  |cons p r=>exact C0m (p::r) (by rw [← hp];exact h.ok) r p 0 0 rfl
/-- The lengths. -/
noncomputable def C32:List Spot→List Int
  |p::q::r=>rt (A3h (vec p q) (vec p q))::C32 (q::r)
  |_=> []
theorem B2a (p q:Spot)(r:List Spot):C32 (p::q::r)=rt (A3h (vec p q) (vec p q))::C32 (q::r):=by conv=>lhs;unfold C32
theorem A8s: ∀(r:List Spot) (p:Spot),(C32 (p::r)).length=r.length
  | [],_=>rfl
  |q::r,p=>by rw [B2a,List.length_cons,A8s r q,List.length_cons]
theorem B3d: ∀(r:List Spot) (p:Spot) (i:Nat) (s:Int),(B17 i s (p::r)).map (·.2.l)=C32 (p::r)
  | [],_,_,_=>rfl
  |q::r,p,i,s=>by rw [B3c,B2a,List.map_cons,B3d r q]
theorem C0n: ∀(L:List (Int×CurvePiece)) (out:List Int),out.length+L.length≤1000000000→loopL V8 (fun x=>x) L out=some (out++L.map (·.2.l)):=by
  intro L
  induction L with
  |nil=>intro out _;simp [loopL]
  |cons a L ih=>
   intro out h
   simp only [List.length_cons]at h
   have:V8 out a=some (.go (out++ [a.2.l])):=by
     unfold V8
     rw [A95 (by simp;omega)];rfl
   rw [loopL,this]
   dsimp only
   rw [ih _ (by simp;omega)]
   simp
theorem B5h (c:Curve)(hl:c.Pts.length≤1000000):A2c c=some (if A5d c.Pts=0 then C32 c.Pts else []):=by
  unfold A2c
  rw [B0p c hl,Option.bind_some]
  by_cases h:A5d c.Pts=0
  ·rw [if_pos h,h]
   have hv:=checkM_zero.1 h
   have:=hv.most
   simp only [bne_self_eq_false,cond_false,C31 hv,Option.bind_some]
   cases hp:c.Pts with
   |nil=>have:=hv.two;rw [hp]at this;simp at this
   |cons p r=>
    have e:=B3d r p 0 0
    rw [C0n _ _ (by
     have:=congrArg List.length e
     rw [List.length_map,A8s]at this
     rw [this];rw [hp]at hl;simp at hl ⊢;omega)]
    rw [e];rfl
  ·rw [if_neg h,show (A5d c.Pts !=0)=true from bne_iff_ne.2 h];rfl
/-- A sum, as the programs take it. -/
def C5c:Int→List Int→Int
  |s,[]=>s
  |s,a::l=>C5c (w64 (s+a)) l
theorem B34 (l:List Int)(hl:l.length≤1000000): ∀(r:List Int) (i:Nat) (s:Int),l.drop i=r→loop (R8 l) (s,(i:Int))=some (C5c s r):=by
  intro r
  induction r with
  |nil=>
   intro i s hi
   have:=A3j hi
   refine G1 ?_
   unfold R8
   simp only [show ¬(i:Int)<l.length by omega,decide_false,cond_false,C5c]
  |cons a r ih=>
   intro i s hi
   have hlt:=A29 hi
   have hstep:R8 l (s,(i:Int))=some (.go (w64 (s+a),((i+1:Nat):Int))):=by
     unfold R8
     simp only [show (i:Int)<l.length by omega,decide_true,cond_true,A94 hi,Option.bind_some]
     rw [G3 (n:=(i:Int)+1) (by omega)];rfl
   rw [Q4 hstep,ih (i+1) _ (A0k hi),C5c]
noncomputable def A9q (c:Curve):List Int:=if A5d c.Pts=0 then C32 c.Pts else []
theorem C9u: ∀l:List Spot,(C32 l).length≤l.length
  | []=>by simp [C32]
  |p::r=>by rw [A8s];simp
theorem C33 (c:Curve):(A9q c).length≤c.Pts.length:=by
  unfold A9q
  split
  ·exact C9u _
  ·simp
theorem A9r (c:Curve)(hl:c.Pts.length≤1000000):A2d c=some (C5c 0 (A9q c)):=by
  unfold A2d
  rw [B5h c hl,Option.bind_some]
  have:=C33 c
  have h:=B34 (A9q c) (by omega) (A9q c) 0 0 (by simp)
  rw [show ((0:Nat):Int)=0 from rfl]at h
  show (loop (R8 (A9q c)) (0,0)).bind _=_
  rw [h];rfl
end Go.Abs.Roads
namespace Go.Abs.Roads
open Go Go.Abs
/-- A quarter turn, so many times. -/
def D0c:Nat→CurveVector→CurveVector
  |0,v=>v
  |n+1,v=>D0c n ⟨-v.y,v.x⟩
theorem C0o: ∀(n:Nat) (v w:CurveVector),A3h (D0c n v) (D0c n w)=A3h v w
  |0,_,_=>rfl
  |n+1,v,w=>by rw [D0c,D0c,C0o n];unfold A3h;grind
/-- A piece's vector, made of numbers: in one quadrant. -/
def D2l (n:Nat)(v:CurveVector):Prop:= ∃x y L:Int,v=D0c n ⟨x,y⟩∧0<x∧0≤y∧x*x+y*y=L*L∧1000≤L∧L≤3029∧x≤L∧y≤L
inductive Ch (Q:CurveVector→Prop):List Spot→Prop
  |one (p:Spot):Ch Q [p]
  |cons (p q:Spot) (r:List Spot) (h:Q (vec p q)) (hr:Ch Q (q::r)):Ch Q (p::q::r)
theorem B6t {n:Nat}: ∀(r:List Spot) (p:Spot) (last:Option CurveVector),Ch (D2l n) (p::r)→(∀u,last=some u→D2l n u)→Good last (p::r)
  | [],p,last,_,_=> .one _ _
  |q::r,p,last,hc,hl=>by
   cases hc with
   |cons _ _ _ h1 h2=>
    have hq:=h1
    obtain ⟨x,y,L,hv,hx,hy,hsq,hL1,hL2,hxL,hyL⟩:=h1
    have hd:A3h (vec p q) (vec p q)=L*L:=by rw [hv,C0o];unfold A3h;exact hsq
    have hrt:rt (A3h (vec p q) (vec p q))=L:=by rw [hd];exact D2k (by omega) (by omega)
    refine .cons _ _ _ _ (by rw [hrt,hd]) (by rw [hrt];exact hL1) (by rw [hrt];omega) (fun u hu=> ?_) (B6t r q _ h2 (fun u hu=>by cases hu;exact hq))
    obtain ⟨x',y',L',hv',hx',hy',_⟩:=hl u hu
    rw [hv,hv',C0o]
    unfold A3h
    have:=Int.mul_pos hx' hx
    have:=Int.mul_nonneg hy' hy
    dsimp only
    omega
/-- What the curves made of numbers are like. -/
structure Made (l:List Spot):Prop where
  two:2≤l.length
  six:l.length≤6
  ch: ∃n,Ch (D2l n) l
  bd: ∀p∈l, -50000≤p.X∧p.X≤50000∧ -50000≤p.Y∧p.Y≤50000
theorem Made.valid {l:List Spot}(h:Made l):Valid l:=by
  obtain ⟨n,hc⟩:=h.ch
  have:=h.two;have:=h.six
  refine ⟨h.two,by omega,List.all_eq_true.2 fun p hp=>okS_iff.2 (by have:=h.bd p hp;omega),?_⟩
  match l,h,hc with
  |p::r,_,hc=>exact B6t r p none hc (fun u hu=>by cases hu)
  | [],h,_=>exact absurd h.two (by simp)
end Go.Abs.Roads
namespace Go.Abs.Roads
open Go Go.Abs
/-! ### Loops that look for the first error -/
def R3 {α β:Type}(g:Nat→α→Option β):Nat→List α→Option β
  |_,[]=>none
  |i,a::r=>match g i a with
   |some e=>some e
   |none=>R3 g (i+1) r
def D22 {β:Type}:Option β→Sum Unit β
  |some e=> .inr e
  |none=> .inl ()
theorem A5e {α β:Type}(l:List α)(F:Int→Option (Stp Int (Sum Unit β)))(g:Nat→α→Option β)(hF: ∀(i:Nat) a,l[i]? =some a→F (i:Int)=some (match g i a with|some e=> .out (.inr e)|none=> .go ((i+1:Nat):Int)))(h0:F (l.length:Int)=some (.out (.inl ()))):
    loop F 0=some (D22 (R3 g 0 l)):=by
  have key: ∀(r:List α) (i:Nat),l.drop i=r→i≤l.length→loop F (i:Int)=some (D22 (R3 g i r)):=by
    intro r
    induction r with
    |nil=>
     intro i hi hil
     have:i=l.length:=by have:=List.drop_eq_nil_iff.1 hi;omega
     subst this
     exact G1 h0
    |cons a r ih=>
     intro i hi hil
     have hlt:i<l.length:=by
       rcases Nat.lt_or_ge i l.length with q|q
       ·exact q
       ·rw [List.drop_eq_nil_of_le q]at hi;cases hi
     have ha:l[i]? =some a:=by have:=congrArg (fun z=>z[0]?) hi;simpa using this
     have hr:l.drop (i+1)=r:=by have:=congrArg (fun z=>z.drop 1) hi;simpa using this
     have hs:=hF i a ha
     unfold R3
     cases hg:g i a with
     |some e=>rw [hg]at hs;exact G1 hs
     |none=>rw [hg]at hs;rw [Q4 hs];exact ih (i+1) hr (by omega)
  have:=key l 0 rfl (by omega)
  exact this
theorem firstE_none {α β:Type}{g:Nat→α→Option β}: ∀{l:List α} {i:Nat},R3 g i l=none↔∀(j:Nat) a,l[j]? =some a→g (i+j) a=none
  | [],i=>by simp [R3]
  |a::r,i=>by
   unfold R3
   cases h:g i a with
   |some e=>
    constructor
    ·intro h';cases h'
    ·intro h';have:=h' 0 a rfl;rw [Nat.add_zero,h]at this;cases this
   |none=>
    dsimp only
    rw [firstE_none (l:=r)]
    constructor
    ·intro h' j b hj
     cases j with
     |zero=>cases hj;exact h
     |succ j=>have:=h' j b hj;rwa [show i+1+j=i+ (j+1) by omega]at this
    ·intro h' j b hj
     have:=h' (j+1) b hj
     rwa [show i+ (j+1)=i+1+j by omega]at this
/-! ### Numbers -/
def inR (n a b:Int):Bool:=decide (a≤n)&&decide (n≤b)
theorem A6p (n a b:Int):P5 n a b=some (inR n a b):=rfl
def C34 (kind:Int):Int×Int×Int:=if kind=1 then (2000,30,90)else if kind=2 then (1000,20,60)else if kind=3 then (300,100,300)else (0,0,0)
theorem B99 (k:Int):A1h k=some (C34 k):=by
  unfold A1h C34
  by_cases h:k<0∨k≥4
  ·rw [show ((decide (k<0))||(decide (k≥4)))=true by simpa using h,cond_true,if_neg (by omega),if_neg (by omega),if_neg (by omega)]
  ·rw [show ((decide (k<0))||(decide (k≥4)))=false by rw [Bool.eq_false_iff];simpa using h,cond_false]
   obtain ⟨h1,h2⟩:=not_or.1 h
   rcases (show k=0∨k=1∨k=2∨k=3 by omega)with rfl|rfl|rfl|rfl<;>rfl
end Go.Abs.Roads
namespace Go.Abs.Roads
open Go Go.Abs
theorem wid {n:Int}(h: -9223372036854775808≤n∧n≤9223372036854775807):w64 n=n:=Go.IntWalk.i64_in n h
theorem N7 {α:Type}{l:List α}{i:Nat}{a:α}(h:l[i]? =some a):F3 l (i:Int)=some a:=by
  unfold F3;rw [if_pos (by omega),Int.toNat_natCast];exact h
theorem A4g {α:Type}{l:List α}{i:Nat}{a:α}(h:l[i]? =some a):i<l.length:=(List.getElem?_eq_some_iff.1 h).1
theorem C9v {α:Type}(c:Bool)(a b:α):cond c (some a) (some b)=some (cond c a b):=by cases c<;>rfl
def A7i (high:Int):Int→List Int→Bool
  |_,[]=>true
  |low,n::r=>decide (low≤n)&&decide (n<high)&&A7i high (n+1) r
theorem B5i (l:List Int)(low high:Int)(hl:l.length≤1000000)(hh:high≤1000000000)(h0:0≤low):A0m l low high=some (A7i high low l):=by
  have key: ∀(r:List Int) (i:Nat) (lo:Int),0≤lo→l.drop i=r→i≤l.length→loop (T9 l high) (lo,(i:Int))=some (if A7i high lo r then .inl ()else .inr false):=by
    intro r
    induction r with
    |nil=>
     intro i lo _ hi hil
     have:=A3j hi
     refine G1 ?_
     unfold T9
     dsimp only
     rw [show decide ((i:Int)< (l.length:Int))=false from decide_eq_false (by omega)];rfl
    |cons n r ih=>
     intro i lo hlo hi hil
     have hlt:=A29 hi
     have hs:T9 l high (lo,(i:Int))=some (if decide (lo≤n)&&decide (n<high)then .go (n+1,((i+1:Nat):Int))else .out (.inr false)):=by
       unfold T9
       dsimp only
       rw [show decide ((i:Int)< (l.length:Int))=true from decide_eq_true (by omega),A94 hi,cond_true,Option.bind_some,wid (n:=(i:Int)+1) (by omega)]
       by_cases q:lo≤n∧n<high
       ·rw [show ((decide (n<lo))||(decide (n≥high)))=false by rw [Bool.eq_false_iff];simp;omega,cond_false,wid (n:=n+1) (by omega),if_pos (by simpa using q)];rfl
       ·rw [show ((decide (n<lo))||(decide (n≥high)))=true by simp;omega,cond_true,if_neg (by simpa using q)]
     unfold A7i
     cases q:(decide (lo≤n)&&decide (n<high))
     ·rw [q]at hs;rw [G1 hs];rfl
     ·rw [q]at hs
      simp only [Bool.and_eq_true,decide_eq_true_eq]at q
      rw [Q4 hs,ih (i+1) (n+1) (by omega) (A0k hi) (by omega)];rfl
  unfold A0m
  have:=key l 0 low h0 rfl (by omega)
  rw [show ((0:Nat):Int)=0 from rfl]at this
  rw [this]
  cases A7i high low l<;>rfl
end Go.Abs.Roads
namespace Go.Abs.Roads
open Go Go.Abs
noncomputable def B45 (c:Curve):Int:=C5c 0 (A9q c)
theorem C9w {m:Map}{i:Nat}{l:Lane}(h:m.Lanes[i]? =some l)(hl:l.Curve_.Pts.length≤1000000):Z9 m (i:Int)=some (B45 l.Curve_):=by
  unfold Z9
  rw [N7 h,Option.bind_some,A9r _ hl];rfl
/-- The lists of a map are of bearable lengths. -/
structure Bear (m:Map):Prop where
  lanes:m.Lanes.length≤1000000
  pts: ∀l∈m.Lanes,l.Curve_.Pts.length≤1000000∧l.Next.length≤1000000
noncomputable def laneE (n:Nat)(i:Nat)(l:Lane):Option Int:=
  if (C34 l.Kind).1=0 then some 4
  else if A5d l.Curve_.Pts≠0 then some (A5d l.Curve_.Pts)
  else if (inR l.Half 200 4000&&inR l.Limit 1 (C34 l.Kind).1)=false then some 2
  else if 3<l.Next.length then some 8
  else if A7i n (i+1) l.Next=false then some 11 else none
theorem C7l {m:Map}(B:Bear m):S9 ⟨m⟩=some ((R3 (laneE m.Lanes.length) 0 m.Lanes).getD 0):=by
  have h:=A5e m.Lanes (O1 ⟨m⟩) (laneE m.Lanes.length) (fun i l hl=>by
    have hi:=A4g hl
    have hb:=B.lanes
    obtain ⟨p1,p2⟩:=B.pts l (List.mem_of_getElem? hl)
    unfold O1 laneE
    dsimp only
    rw [show decide ((i:Int)< (m.Lanes.length:Int))=true from decide_eq_true (by omega),N7 hl,cond_true,Option.bind_some,B99,Option.bind_some,B0p _ p1,Option.bind_some,A6p,A6p,Option.bind_some,C9v,Option.bind_some,wid (n:=(i:Int)+1) (by omega),B5i _ _ _ p2 (by omega) (by omega),Option.bind_some]
    by_cases h1:(C34 l.Kind).1=0
    ·rw [if_pos h1,show ((C34 l.Kind).1==0)=true by simpa using h1];rfl
    ·rw [if_neg h1,show ((C34 l.Kind).1==0)=false by simpa using h1,cond_false]
     by_cases h2:A5d l.Curve_.Pts≠0
     ·rw [if_pos h2,show (A5d l.Curve_.Pts !=0)=true by simpa using h2];rfl
     ·rw [if_neg h2,show (A5d l.Curve_.Pts !=0)=false by simpa using h2,cond_false]
      cases inR l.Half 200 4000
      ·rfl
      ·cases inR l.Limit 1 (C34 l.Kind).1
       ·rfl
       ·simp only [Bool.not_true,Bool.not_false,cond_true,cond_false,Bool.false_or,Bool.and_self]
        rw [if_neg (by decide)]
        by_cases h3:3<l.Next.length
        ·rw [if_pos h3,show decide ((l.Next.length:Int)>3)=true from decide_eq_true (by omega)];rfl
        ·rw [if_neg h3,show decide ((l.Next.length:Int)>3)=false from decide_eq_false (by omega),cond_false]
         cases A7i (m.Lanes.length:Int) ((i:Int)+1) l.Next<;>rfl) (by
    unfold O1
    dsimp only
    rw [show decide ((m.Lanes.length:Int)< (m.Lanes.length:Int))=false from decide_eq_false (by omega)];rfl)
  unfold S9
  rw [h]
  cases R3 (laneE m.Lanes.length) 0 m.Lanes<;>rfl
end Go.Abs.Roads
namespace Go.Abs.Roads
open Go Go.Abs
theorem C1v {n i:Nat}{l:Lane}{e:Int}(h:laneE n i l=some e):e≠0:=by
  unfold laneE at h
  split at h
  ·cases h;decide
  ·split at h
   ·rename_i h2;cases h;exact h2
   ·split at h
    ·cases h;decide
    ·split at h
     ·cases h;decide
     ·split at h
      ·cases h;decide
      ·cases h
end Go.Abs.Roads
namespace Go.Abs.Roads
open Go Go.Abs
theorem A6q {high:Int}: ∀{l:List Int} {low:Int},A7i high low l=true→∀k∈l,low≤k∧k<high
  | [],_,_,k,hk=>by cases hk
  |n::r,low,h,k,hk=>by
   unfold A7i at h
   simp only [Bool.and_eq_true,decide_eq_true_eq]at h
   rcases List.mem_cons.1 hk with rfl|hk
   ·exact h.1
   ·have:=A6q h.2 k hk
    omega
/-- What a lane is that has no error of its own. -/
structure LaneOK (n i:Nat)(l:Lane):Prop where
  kind:(C34 l.Kind).1≠0
  curve:A5d l.Curve_.Pts=0
  half:inR l.Half 200 4000=true
  limit:inR l.Limit 1 (C34 l.Kind).1=true
  few:l.Next.length≤3
  next:A7i n (i+1) l.Next=true
theorem C35 {n i:Nat}{l:Lane}(h:laneE n i l=none):LaneOK n i l:=by
  unfold laneE at h
  split at h
  ·cases h
  ·rename_i h1
   split at h
   ·cases h
   ·rename_i h2
    split at h
    ·cases h
    ·rename_i h3
     split at h
     ·cases h
     ·rename_i h4
      split at h
      ·cases h
      ·rename_i h5
       simp only [Bool.not_eq_false,Bool.and_eq_true]at h3
       exact ⟨h1,Decidable.not_not.1 h2,h3.1,h3.2,by omega,by simpa using h5⟩
theorem B2b {m:Map}(h:R3 (laneE m.Lanes.length) 0 m.Lanes=none){i:Nat}{l:Lane}(hl:m.Lanes[i]? =some l):LaneOK m.Lanes.length i l:=by
  have:=firstE_none.1 h i l hl
  rw [Nat.zero_add]at this
  exact C35 this
end Go.Abs.Roads
namespace Go.Abs.Roads
open Go Go.Abs
theorem B5j {l:List Spot}(h:A5d l=0):2≤l.length:=by
  unfold A5d at h
  split at h
  ·cases h
  ·omega
def B6d (l:List Spot):Spot:=l.headD ⟨0,0⟩
def B3p (l:List Spot):Spot:=l.getLastD ⟨0,0⟩
theorem B9a {l:List Spot}(h:2≤l.length):F3 l 0=some (B6d l):=by
  cases l with
  |nil=>simp at h
  |cons a r=>rfl
theorem B9b {l:List Spot}(h:2≤l.length)(hl:l.length≤1000000):F3 l (w64 ((l.length:Int) - 1))=some (B3p l):=by
  rw [wid (by omega),show (l.length:Int) - 1=((l.length - 1:Nat):Int) by omega]
  refine N7 ?_
  unfold B3p
  rw [List.getLastD_eq_getLast?,List.getLast?_eq_getElem?]
  rw [List.getElem?_eq_getElem (by omega)];rfl
def C5d (a b:Spot):Bool:=a.X==b.X&& (a.Y==b.Y&&true)
def B5k (m:Map)(l:Lane)(_:Nat)(k:Int):Option Int:=
  match m.Lanes[k.toNat]? with
  |some n=>if n.Kind≠l.Kind then some 4 else if C5d (B6d n.Curve_.Pts) (B3p l.Curve_.Pts)=false then some 3 else none
  |none=>none
def nextE (m:Map)(_:Nat)(l:Lane):Option Int:=R3 (B5k m l) 0 l.Next
theorem B6u {m:Map}(B:Bear m)(H:R3 (laneE m.Lanes.length) 0 m.Lanes=none){i:Nat}{l:Lane}(hl:m.Lanes[i]? =some l){j:Nat}{k:Int}(hk:l.Next[j]? =some k):
    ∃n,F3 m.Lanes k=some n∧m.Lanes[k.toNat]? =some n∧2≤n.Curve_.Pts.length∧n.Curve_.Pts.length≤1000000:=by
  have L:=B2b H hl
  have hb:=A6q L.next k (List.mem_of_getElem? hk)
  have hlt:k.toNat<m.Lanes.length:=by omega
  refine ⟨m.Lanes[k.toNat],?_,List.getElem?_eq_getElem hlt,B5j (B2b H (List.getElem?_eq_getElem hlt)).curve,(B.pts _ (List.getElem_mem hlt)).1⟩
  unfold F3
  rw [if_pos (by omega),List.getElem?_eq_getElem hlt]
end Go.Abs.Roads
namespace Go.Abs.Roads
open Go Go.Abs
theorem C5e {m:Map}{l:Lane}{j:Nat}{k e:Int}(h:B5k m l j k=some e):e≠0:=by
  unfold B5k at h
  split at h
  ·split at h
   ·cases h;decide
   ·split at h
    ·cases h;decide
    ·cases h
  ·cases h
theorem B9c {m:Map}(B:Bear m)(H:R3 (laneE m.Lanes.length) 0 m.Lanes=none){i:Nat}{l:Lane}(hl:m.Lanes[i]? =some l):
    loop (M8 ⟨m⟩ l (B3p l.Curve_.Pts)) 0=some (D22 (nextE m i l))∧loop (A24 m l) 0=some (D22 (nextE m i l)):=by
  have L:=B2b H hl
  obtain ⟨p1,p2⟩:=B.pts l (List.mem_of_getElem? hl)
  constructor
  ·refine A5e l.Next _ (B5k m l) (fun j k hk=> ?_) ?_
   ·have hj:=A4g hk
    obtain ⟨n,g1,g2,g3,g4⟩:=B6u B H hl hk
    unfold M8 B5k
    dsimp only
    rw [show decide ((j:Int)< (l.Next.length:Int))=true from decide_eq_true (by omega),N7 hk,cond_true,Option.bind_some,g1,Option.bind_some,Option.bind_some,B9a g3,Option.bind_some,wid (n:=(j:Int)+1) (by omega),g2]
    dsimp only
    rw [show ((B6d n.Curve_.Pts).X==(B3p l.Curve_.Pts).X&& ((B6d n.Curve_.Pts).Y==(B3p l.Curve_.Pts).Y&&true))=C5d (B6d n.Curve_.Pts) (B3p l.Curve_.Pts) from rfl]
    by_cases h1:n.Kind≠l.Kind
    ·rw [if_pos h1,show (n.Kind !=l.Kind)=true by simpa using h1];rfl
    ·rw [if_neg h1,show (n.Kind !=l.Kind)=false by simpa using h1]
     cases C5d (B6d n.Curve_.Pts) (B3p l.Curve_.Pts)<;>rfl
   ·unfold M8
    rw [show decide ((l.Next.length:Int)< (l.Next.length:Int))=false from decide_eq_false (by omega)];rfl
  ·refine A5e l.Next _ (B5k m l) (fun j k hk=> ?_) ?_
   ·have hj:=A4g hk
    obtain ⟨n,g1,g2,g3,g4⟩:=B6u B H hl hk
    unfold A24 B5k
    rw [show decide ((j:Int)< (l.Next.length:Int))=true from decide_eq_true (by omega),N7 hk,cond_true,Option.bind_some,g1,Option.bind_some,B9a g3,Option.bind_some,B9b (B5j L.curve) p1,Option.bind_some,wid (n:=(j:Int)+1) (by omega),g2]
    dsimp only
    rw [show ((B6d n.Curve_.Pts).X==(B3p l.Curve_.Pts).X&& ((B6d n.Curve_.Pts).Y==(B3p l.Curve_.Pts).Y&&true))=C5d (B6d n.Curve_.Pts) (B3p l.Curve_.Pts) from rfl]
    by_cases h1:n.Kind≠l.Kind
    ·rw [if_pos h1,show (n.Kind !=l.Kind)=true by simpa using h1];rfl
    ·rw [if_neg h1,show (n.Kind !=l.Kind)=false by simpa using h1]
     cases C5d (B6d n.Curve_.Pts) (B3p l.Curve_.Pts)<;>rfl
   ·unfold A24
    rw [show decide ((l.Next.length:Int)< (l.Next.length:Int))=false from decide_eq_false (by omega)];rfl
end Go.Abs.Roads
namespace Go.Abs.Roads
open Go Go.Abs
theorem C5f {m:Map}(B:Bear m)(H:R3 (laneE m.Lanes.length) 0 m.Lanes=none):
    R2 ⟨m⟩=some ((R3 (nextE m) 0 m.Lanes).getD 0)∧A9f m=some ((R3 (nextE m) 0 m.Lanes).getD 0):=by
  have hb:=B.lanes
  constructor
  ·have h:=A5e m.Lanes (M9 ⟨m⟩) (nextE m) (fun i l hl=>by
     have hi:=A4g hl
     have L:=B2b H hl
     obtain ⟨p1,p2⟩:=B.pts l (List.mem_of_getElem? hl)
     unfold M9
     dsimp only
     rw [show decide ((i:Int)< (m.Lanes.length:Int))=true from decide_eq_true (by omega),N7 hl,cond_true,Option.bind_some,B9b (B5j L.curve) p1,Option.bind_some,(B9c B H hl).1,wid (n:=(i:Int)+1) (by omega)]
     cases nextE m i l<;>rfl) (by
     unfold M9
     dsimp only
     rw [show decide ((m.Lanes.length:Int)< (m.Lanes.length:Int))=false from decide_eq_false (by omega)];rfl)
   unfold R2
   rw [h]
   cases R3 (nextE m) 0 m.Lanes<;>rfl
  ·have h:=A5e m.Lanes (A25 m) (nextE m) (fun i l hl=>by
     have hi:=A4g hl
     unfold A25
     rw [show decide ((i:Int)< (m.Lanes.length:Int))=true from decide_eq_true (by omega),N7 hl,cond_true,Option.bind_some,(B9c B H hl).2,wid (n:=(i:Int)+1) (by omega)]
     cases nextE m i l<;>rfl) (by
     unfold A25
     rw [show decide ((m.Lanes.length:Int)< (m.Lanes.length:Int))=false from decide_eq_false (by omega)];rfl)
   unfold A9f
   rw [h]
   cases R3 (nextE m) 0 m.Lanes<;>rfl
end Go.Abs.Roads
namespace Go.Abs.Roads
open Go Go.Abs
/-- The place of the first element with a property. -/
theorem C36 {α:Type}{f:Int→Option (Stp Int (Sum Unit Int))}(l:List α)(P:α→Bool)(hl:l.length≤1000000000)(hf: ∀(i:Nat) a,l[i]? =some a→f (i:Int)=some (if P a then .out (.inr (i:Int))else .go (w64 ((i:Int)+1))))(he:f (l.length:Int)=some (.out (.inl ()))):
    loop f 0=some (match l.findIdx? P with|some i=> .inr (i:Int)|none=> .inl ()):=by
  have key: ∀(r:List α) (i:Nat),l.drop i=r→i≤l.length→loop f (i:Int)=some (match r.findIdx? P with|some j=> .inr ((i+j:Nat):Int)|none=> .inl ()):=by
    intro r
    induction r with
    |nil=>
     intro i hi hil
     have:=A3j hi
     obtain rfl:i=l.length:=by omega
     rw [G1 he];rfl
    |cons a r ih=>
     intro i hi _
     have hlt:=A29 hi
     have h0:l[i]? =some a:=by have:=congrArg (fun z=>z[0]?) hi;simpa using this
     have hs:=hf i a h0
     rw [List.findIdx?_cons]
     by_cases hp:P a=true
     ·rw [if_pos hp]at hs
      rw [G1 hs,if_pos hp];simp
     ·rw [if_neg hp]at hs
      rw [G3 (by omega)]at hs
      rw [Q4 hs,show ((i:Int)+1)=((i+1:Nat):Int) by omega,ih (i+1) (A0k hi) (by omega),if_neg hp]
      cases r.findIdx? P with
      |none=>rfl
      |some j=>simp only [Option.map_some];congr 3;omega
  have:=key l 0 rfl (by omega)
  rw [show ((0:Nat):Int)=0 from rfl]at this
  rw [this]
  cases l.findIdx? P<;>simp
/-- -1, or the place. -/
def D23 {α:Type}(P:α→Bool)(l:List α):Int:=match l.findIdx? P with|some i=>(i:Int)|none=> -1
theorem B7s {α:Type}(P:α→Bool)(l:List α):decide (D23 P l≥0)=l.any P:=by
  unfold D23
  cases h:l.findIdx? P with
  |none=>
   have:=List.findIdx?_eq_none_iff.1 h
   rw [show l.any P=false by rw [List.any_eq_false];intro x hx;simpa using this x hx]
   decide
  |some i=>
   have:=List.findIdx?_isSome (xs:=l) (p:=P)
   rw [h]at this
   rw [← this]
   simp
/-- What both twins compute of a list. -/
theorem B7t {α:Type}{f:Int→Option (Stp Int (Sum Unit Int))}(l:List α)(P:α→Bool)(hl:l.length≤1000000000)(hf: ∀(i:Nat) a,l[i]? =some a→f (i:Int)=some (if P a then .out (.inr (i:Int))else .go (w64 ((i:Int)+1))))(he:f (l.length:Int)=some (.out (.inl ()))):
    thenS (loop f 0) (fun _=>some (-1)) (fun r=>some r)=some (D23 P l):=by
  rw [C36 l P hl hf he]
  unfold D23
  cases l.findIdx? P<;>rfl
end Go.Abs.Roads
namespace Go.Abs.Roads
open Go Go.Abs
theorem C5g (l:List Phase)(hl:l.length≤1000000):C2 l=some (l.any fun p=> !inR p.Ticks 1 10000):=by
  unfold C2 D4
  rw [B7t l (fun p=> !inR p.Ticks 1 10000) (by omega) (fun i a h=>by
   have:=A4g h
   unfold C1 T0
   rw [show decide ((i:Int)< (l.length:Int))=true from decide_eq_true (by omega),N7 h,cond_true,Option.bind_some,A6p,Option.bind_some,Option.bind_some]
   cases inR a.Ticks 1 10000<;>rfl) (by
   unfold C1
   simp)]
  rw [Option.bind_some,B7s]
theorem C37 (m:Map)(l:List Phase)(hl:l.length≤1000000)(hm:m.Lanes.length≤1000000)(hg: ∀p∈l,p.Green.length≤1000000):C0 l ⟨m⟩=some (l.any fun p=> !A7i m.Lanes.length 0 p.Green):=by
  unfold C0 D2
  rw [B7t l (fun p=> !A7i m.Lanes.length 0 p.Green) (by omega) (fun i a h=>by
   have:=A4g h
   unfold B9 Q5
   dsimp only
   rw [show decide ((i:Int)< (l.length:Int))=true from decide_eq_true (by omega),N7 h,cond_true,Option.bind_some,B5i _ _ _ (hg a (List.mem_of_getElem? h)) (by omega) (by omega),Option.bind_some,Option.bind_some]
   cases A7i (m.Lanes.length:Int) 0 a.Green<;>rfl) (by
   unfold B9
   simp)]
  rw [Option.bind_some,B7s]
end Go.Abs.Roads
namespace Go.Abs.Roads
open Go Go.Abs
structure BearS (m:Map):Prop where
  many:m.Signals.length≤1000000
  phases: ∀s∈m.Signals,s.Phases.length≤1000000∧∀p∈s.Phases,p.Green.length≤1000000
def signalE (m:Map)(_:Nat)(s:Signal):Option Int:=
  if s.Phases.length=0 then some 6
  else if 6<s.Phases.length then some 8
  else if inR s.Offset 0 1099511627776=false then some 2
  else if (s.Phases.any fun p=> !inR p.Ticks 1 10000)=true then some 2
  else if (s.Phases.any fun p=> !A7i m.Lanes.length 0 p.Green)=true then some 11 else none
theorem C38 {m:Map}(B:Bear m)(S:BearS m):P7 ⟨m⟩=some ((R3 (signalE m) 0 m.Signals).getD 0):=by
  have h:=A5e m.Signals (M0 ⟨m⟩) (signalE m) (fun i s hs=>by
    have hi:=A4g hs
    have hb:=S.many
    obtain ⟨p1,p2⟩:=S.phases s (List.mem_of_getElem? hs)
    unfold M0 signalE
    dsimp only
    rw [show decide ((i:Int)< (m.Signals.length:Int))=true from decide_eq_true (by omega),N7 hs,cond_true,Option.bind_some,A6p,Option.bind_some,C5g _ p1,Option.bind_some,C37 m _ p1 B.lanes p2,Option.bind_some,wid (n:=(i:Int)+1) (by omega)]
    by_cases h1:s.Phases.length=0
    ·rw [if_pos h1,h1];rfl
    ·rw [if_neg h1,show ((s.Phases.length:Int)==0)=false by simp only [beq_eq_false_iff_ne];omega,cond_false]
     by_cases h2:6<s.Phases.length
     ·rw [if_pos h2,show decide ((s.Phases.length:Int)>6)=true from decide_eq_true (by omega)];rfl
     ·rw [if_neg h2,show decide ((s.Phases.length:Int)>6)=false from decide_eq_false (by omega),cond_false]
      cases inR s.Offset 0 1099511627776
      ·rfl
      ·cases (s.Phases.any fun p=> !inR p.Ticks 1 10000)
       ·cases (s.Phases.any fun p=> !A7i m.Lanes.length 0 p.Green)<;>rfl
       ·rfl) (by
    unfold M0
    dsimp only
    rw [show decide ((m.Signals.length:Int)< (m.Signals.length:Int))=false from decide_eq_false (by omega)];rfl)
  unfold P7
  rw [h]
  cases R3 (signalE m) 0 m.Signals<;>rfl
end Go.Abs.Roads
namespace Go.Abs.Roads
open Go Go.Abs
end Go.Abs.Roads
namespace Go.Abs.Roads
open Go Go.Abs
end Go.Abs.Roads
/-! Loops over lists, as functions on lists. -/
namespace Go.Abs
open Go
section
variable {α β σ S τ:Type}
/-- What a loop over a list makes, with a state, and with a way out. -/
def C0p (step:Nat→σ→α→Sum σ τ)(fin:σ→τ):Nat→σ→List α→τ
  |_,s,[]=>fin s
  |i,s,a::r=>match step i s a with
   | .inl s'=>C0p step fin (i+1) s' r
   | .inr t=>t
theorem A8t {l:List α}{i:Nat}{a:α}{r:List α}(h:l.drop i=a::r):l[i]? =some a:=by
  have:=congrArg (fun z=>z[0]?) h
  simpa using this
theorem D1o {F:S→Option (Stp S τ)}(pk:Nat→σ→S)(l:List α)(inv:Nat→σ→Prop)(step:Nat→σ→α→Sum σ τ)(fin:σ→τ){s0:σ}{S0:S}(hS:pk 0 s0=S0)(hi:inv 0 s0)
    (hF: ∀i a s,l[i]? =some a→inv i s→F (pk i s)=some (match step i s a with| .inl s'=> .go (pk (i+1) s')| .inr t=> .out t))
    (hI: ∀i a s s',l[i]? =some a→inv i s→step i s a= .inl s'→inv (i+1) s')
    (h0: ∀s,inv l.length s→F (pk l.length s)=some (.out (fin s))):loop F S0=some (C0p step fin 0 s0 l):=by
  have key: ∀(r:List α) (i:Nat) (s:σ),l.drop i=r→i≤l.length→inv i s→loop F (pk i s)=some (C0p step fin i s r):=by
    intro r
    induction r with
    |nil=>
     intro i s hi hil hv
     have:=A3j hi
     obtain rfl:i=l.length:=by omega
     exact G1 (h0 s hv)
    |cons a r ih=>
     intro i s hi hil hv
     have hlt:=A29 hi
     have ha:=A8t hi
     have hs:=hF i a s ha hv
     unfold C0p
     cases h:step i s a with
     |inl s'=>rw [h]at hs;rw [Q4 hs];exact ih (i+1) s' (A0k hi) (by omega) (hI i a s s' ha hv h)
     |inr t=>rw [h]at hs;exact G1 hs
  rw [← hS]
  exact key l 0 s0 rfl (by omega) hi
/-- The same without a way out. -/
def C39 (step:Nat→σ→α→σ):Nat→σ→List α→σ
  |_,s,[]=>s
  |i,s,a::r=>C39 step (i+1) (step i s a) r
theorem B5l (step:Nat→σ→α→σ)(fin:σ→τ): ∀(l:List α) (i:Nat) (s:σ),C0p (fun i s a=> .inl (step i s a)) fin i s l=fin (C39 step i s l)
  | [],_,_=>rfl
  |_::r,i,_=>B5l step fin r (i+1) _
theorem D2m {F:S→Option (Stp S τ)}(pk:Nat→σ→S)(l:List α)(inv:Nat→σ→Prop)(step:Nat→σ→α→σ)(fin:σ→τ){s0:σ}{S0:S}(hS:pk 0 s0=S0)(hi:inv 0 s0)
    (hF: ∀i a s,l[i]? =some a→inv i s→F (pk i s)=some (.go (pk (i+1) (step i s a))))
    (hI: ∀i a s,l[i]? =some a→inv i s→inv (i+1) (step i s a))
    (h0: ∀s,inv l.length s→F (pk l.length s)=some (.out (fin s))):loop F S0=some (fin (C39 step 0 s0 l)):=by
  rw [← B5l step fin]
  exact D1o pk l inv _ fin hS hi hF (fun i a s s' h1 h2 h3=>by cases h3;exact hI i a s h1 h2) h0
/-- The elements that a loop gathers. -/
def B0f (g:Nat→α→Option β):Nat→List α→List β
  |_,[]=> []
  |i,a::r=>match g i a with
   |some b=>b::B0f g (i+1) r
   |none=>B0f g (i+1) r
theorem B9d (g:Nat→α→Option β): ∀(l:List α) (i:Nat),(B0f g i l).length≤l.length
  | [],_=>Nat.le_refl _
  |a::r,i=>by
   have:=B9d g r (i+1)
   unfold B0f
   cases g i a<;>simp only [List.length_cons]<;>omega
theorem B6v (g:Nat→α→Option β): ∀(l:List α) (i:Nat) (s:List β),C39 (fun i s a=>match g i a with|some b=>s++ [b]|none=>s) i s l=s++B0f g i l
  | [],_,s=>by simp [C39,B0f]
  |a::r,i,s=>by
   unfold C39 B0f
   rw [B6v g r (i+1)]
   cases g i a<;>simp
theorem D1p {F:S→Option (Stp S τ)}(pk:Nat→List β→S)(l:List α)(g:Nat→α→Option β)(fin:List β→τ){S0:S}(hS:pk 0 []=S0)
    (hF: ∀i a (s:List β),l[i]? =some a→s.length≤i→F (pk i s)=some (.go (pk (i+1) (match g i a with|some b=>s++ [b]|none=>s))))
    (h0: ∀s,F (pk l.length s)=some (.out (fin s))):loop F S0=some (fin (B0f g 0 l)):=by
  have:=D2m pk l (fun i s=>s.length≤i) (fun i s a=>match g i a with|some b=>s++ [b]|none=>s) fin hS (by simp) hF (fun i a s _ hs=>by
    cases g i a<;>simp<;>omega) (fun s _=>h0 s)
  rw [this,B6v,List.nil_append]
theorem C5h {F:List β×Int→Option (Stp (List β×Int) τ)}(l:List α)(g:Nat→α→Option β)(fin:List β→τ)
    (hF: ∀(i:Nat) a (s:List β),l[i]? =some a→s.length≤i→F (s,(i:Int))=some (.go ((match g i a with|some b=>s++ [b]|none=>s),((i+1:Nat):Int))))
    (h0: ∀s,F (s,(l.length:Int))=some (.out (fin s))):loop F ([],0)=some (fin (B0f g 0 l)):=D1p (fun i s=>(s,(i:Int))) l g fin rfl hF h0
/-- Is there one? -/
theorem C9x {F:Int→Option (Stp Int (Sum Unit β))}(l:List α)(p:α→Bool)(v:β)(hF: ∀(i:Nat) a,l[i]? =some a→F (i:Int)=some (if p a then .out (.inr v)else .go ((i+1:Nat):Int)))(h0:F (l.length:Int)=some (.out (.inl ()))):
    loop F 0=some (if l.any p then .inr v else .inl ()):=by
  have key: ∀(l:List α) (i:Nat),C0p (fun _ _ a=>if p a then Sum.inr (Sum.inr v)else Sum.inl ()) (fun _=>(Sum.inl ():Sum Unit β)) i () l=if l.any p then .inr v else .inl ():=by
    intro l
    induction l with
    |nil=>intro i;rfl
    |cons a r ih=>
     intro i
     unfold C0p
     rw [List.any_cons]
     cases h:p a
     ·exact ih (i+1)
     ·rfl
  rw [← key l 0]
  exact D1o (F:=F) (σ:=Unit) (fun i _=>(i:Int)) l (fun _ _=>True) _ _ (s0:=()) rfl trivial (fun i a _ h _=>by rw [hF i a h];cases p a<;>rfl) (fun _ _ _ _ _ _ _=>trivial) (fun _ _=>h0)
end
theorem A5t {i:Nat}{n:Nat}(h:i<n):decide ((i:Int)< (n:Int))=true:=decide_eq_true (by omega)
theorem A39 (n:Nat):decide ((n:Int)< (n:Int))=false:=decide_eq_false (by omega)
theorem A1p {i:Nat}{n:Nat}(h:i<n)(hn:n≤1000000000000):w64 ((i:Int)+1)=((i+1:Nat):Int):=by rw [G3 (by omega)];omega
end Go.Abs
namespace Go.Abs.Roads
open Go Go.Abs
structure BearZ (m:Map):Prop where
  many:m.Zones.length≤1000000
  parts: ∀z∈m.Zones,z.Parts.length≤1000000
noncomputable def P9 (m:Map)(k:Int):Int:=((m.Lanes[k.toNat]?).map fun l=>B45 l.Curve_).getD 0
noncomputable def B5m (m:Map)(p:Part):Bool:=decide (p.From<0)||decide (p.From≥p.To)||decide (p.To>P9 m p.Lane_)||decide (p.Rank<0)||decide (p.Rank>100)
noncomputable def zoneE (m:Map)(_:Nat)(z:Zone):Option Int:=
  if z.Parts.length<2 then some 6
  else if 6<z.Parts.length then some 8
  else if z.Signal_<0∨(m.Signals.length:Int)<z.Signal_ then some 2
  else if A7i m.Lanes.length 0 (z.Parts.map (·.Lane_))=false then some 11
  else if z.Parts.any (B5m m)=true then some 2 else none
theorem B5n {m:Map}{k:Int}(h0:0≤k)(h1:k<m.Lanes.length): ∃l,m.Lanes[k.toNat]? =some l∧F3 m.Lanes k=some l:=by
  have hlt:k.toNat<m.Lanes.length:=by omega
  refine ⟨m.Lanes[k.toNat],List.getElem?_eq_getElem hlt,?_⟩
  unfold F3
  rw [if_pos h0,List.getElem?_eq_getElem hlt]
theorem B7u {m:Map}(B:Bear m){k:Int}(h0:0≤k)(h1:k<m.Lanes.length):Z9 m k=some (P9 m k):=by
  obtain ⟨l,e1,e2⟩:=B5n h0 h1
  have:=C9w (m:=m) e1 (B.pts l (List.mem_of_getElem? e1)).1
  rw [show ((k.toNat:Nat):Int)=k by omega]at this
  rw [this,P9,e1];rfl
theorem C1w {α β:Type}(f:α→β): ∀(l:List α) (i:Nat),B0f (fun _ a=>some (f a)) i l=l.map f
  | [],_=>rfl
  |a::r,i=>by rw [B0f,C1w f r];rfl
theorem D1q {z:Zone}{F:List Int×Int→Option (Stp (List Int×Int) (List Int))}(hl:z.Parts.length≤1000000)
    (hF: ∀x,F x=cond (decide (x.2< (z.Parts.length:Int))) ((F3 z.Parts x.2).bind fun v=>(B0m x.1 [v.Lane_]).bind fun w=>some (.go (w,w64 (x.2+1)))) (some (.out x.1))):
    loop F ([],0)=some (z.Parts.map (·.Lane_)):=by
  rw [← C1w (fun p:Part=>p.Lane_) z.Parts 0]
  refine D1p (fun i s=>(s,(i:Int))) z.Parts (fun _ p=>some p.Lane_) id rfl (fun i a s ha hs=> ?_) (fun s=> ?_)
  ·have hi:=A4g ha
   rw [hF,A5t hi,N7 ha,cond_true,Option.bind_some,A95 (by simp;omega),Option.bind_some,A1p hi (by omega)]
  ·rw [hF,A39];rfl
theorem C7m {m:Map}(B:Bear m)(Z:BearZ m):T1 ⟨m⟩=some ((R3 (zoneE m) 0 m.Zones).getD 0):=by
  have hb:=B.lanes
  have h:=A5e m.Zones (O3 ⟨m⟩) (zoneE m) (fun i z hz=>by
    have hi:=A4g hz
    have hm:=Z.many
    have p1:=Z.parts z (List.mem_of_getElem? hz)
    unfold O3 zoneE
    dsimp only
    rw [A5t hi,N7 hz,cond_true,Option.bind_some,D1q p1 (F:=U2 z) (fun x=>rfl),Option.bind_some,B5i _ _ _ (by simpa using p1) (by omega) (by omega),Option.bind_some,A1p hi (by omega)]
    by_cases h1:z.Parts.length<2
    ·rw [if_pos h1,show decide ((z.Parts.length:Int)<2)=true from decide_eq_true (by omega)];rfl
    ·rw [if_neg h1,show decide ((z.Parts.length:Int)<2)=false from decide_eq_false (by omega),cond_false]
     by_cases h2:6<z.Parts.length
     ·rw [if_pos h2,show decide ((z.Parts.length:Int)>6)=true from decide_eq_true (by omega)];rfl
     ·rw [if_neg h2,show decide ((z.Parts.length:Int)>6)=false from decide_eq_false (by omega),cond_false]
      by_cases h3:z.Signal_<0∨(m.Signals.length:Int)<z.Signal_
      ·rw [if_pos h3,show ((decide (z.Signal_<0))||(decide (z.Signal_>(m.Signals.length:Int))))=true by simpa using h3];rfl
      ·rw [if_neg h3,show ((decide (z.Signal_<0))||(decide (z.Signal_>(m.Signals.length:Int))))=false by rw [Bool.eq_false_iff];simpa using h3,cond_false]
       cases h4:A7i (m.Lanes.length:Int) 0 (z.Parts.map (·.Lane_))
       ·rfl
       ·rw [if_neg (by decide)]
        have:=C9x (F:=O2 ⟨m⟩ z) z.Parts (B5m m) (2:Int) (fun j p hp=>by
          have hj:=A4g hp
          have hk:=A6q h4 p.Lane_ (List.mem_map.2 ⟨p,List.mem_of_getElem? hp,rfl⟩)
          unfold O2 B5m
          dsimp only
          rw [A5t hj,N7 hp,cond_true,Option.bind_some,B7u B hk.1 hk.2,A1p hj (by omega)]
          cases h5:(decide (p.From<0)||decide (p.From≥p.To))
          ·simp only [Bool.not_false,cond_true,Option.bind_some]
           cases (false||decide (p.To>P9 m p.Lane_)||decide (p.Rank<0)||decide (p.Rank>100))<;>rfl
          ·rfl) (by unfold O2;rw [A39];rfl)
        rw [this]
        cases z.Parts.any (B5m m)<;>rfl) (by
    unfold O3
    dsimp only
    rw [A39];rfl)
  unfold T1
  rw [h]
  cases R3 (zoneE m) 0 m.Zones<;>rfl
end Go.Abs.Roads
namespace Go.Abs.Roads
open Go Go.Abs
structure BearW (m:Map):Prop where
  many:m.Works.length≤1000000
noncomputable def workE (m:Map)(_:Nat)(w:Work):Option Int:=
  if w.Lane_<0∨(m.Lanes.length:Int)≤w.Lane_ then some 7
  else if (decide (w.From<0)||decide (w.From>w.To)||decide (w.To>P9 m w.Lane_)||decide (w.Begin<0)||decide (w.Begin≥w.End)||decide (w.End>1099511627776)|| !inR w.Limit 0 ((m.Lanes[w.Lane_.toNat]?).map fun l=>(C34 l.Kind).1).get!)=true then some 2 else none
theorem C7n {m:Map}(B:Bear m)(W:BearW m):T3 ⟨m⟩=some ((R3 (workE m) 0 m.Works).getD 0):=by
  have hb:=B.lanes
  have h:=A5e m.Works (O4 ⟨m⟩) (workE m) (fun i w hw=>by
    have hi:=A4g hw
    have hm:=W.many
    unfold O4 workE
    dsimp only
    rw [A5t hi,N7 hw,cond_true,Option.bind_some,A1p hi (by omega)]
    by_cases h1:w.Lane_<0∨(m.Lanes.length:Int)≤w.Lane_
    ·rw [if_pos h1,show ((decide (w.Lane_<0))||(decide (w.Lane_≥(m.Lanes.length:Int))))=true by simpa using h1];rfl
    ·rw [if_neg h1,show ((decide (w.Lane_<0))||(decide (w.Lane_≥(m.Lanes.length:Int))))=false by rw [Bool.eq_false_iff];simpa using h1,cond_false]
     obtain ⟨l,e1,e2⟩:=B5n (m:=m) (k:=w.Lane_) (by omega) (by omega)
     rw [e2,Option.bind_some,B99,Option.bind_some,B7u B (by omega) (by omega),A6p,e1]
     simp only [Option.map_some,Option.get!_some]
     cases (decide (w.From<0)||decide (w.From>w.To))
     ·simp only [Bool.not_false,cond_true,Option.bind_some]
      cases (false||decide (w.To>P9 m w.Lane_)||decide (w.Begin<0)||decide (w.Begin≥w.End)||decide (w.End>1099511627776))
      ·simp only [Bool.not_false,cond_true,Option.bind_some]
       by_cases hq:inR w.Limit 0 (C34 l.Kind).1=true<;>simp [hq]
      ·rfl
     ·rfl) (by
    unfold O4
    dsimp only
    rw [A39];rfl)
  unfold T3
  rw [h]
  cases R3 (workE m) 0 m.Works<;>rfl
end Go.Abs.Roads
namespace Go.Abs.Roads
open Go Go.Abs
/-- All lists of a map are of bearable lengths. -/
structure BearM (m:Map):Prop where
  toBear:Bear m
  toBearS:BearS m
  toBearZ:BearZ m
  toBearW:BearW m
theorem BearM.lanes {m:Map}(B:BearM m):m.Lanes.length≤1000000:=B.toBear.lanes
noncomputable def C5z (m:Map):Int:=
  if inR m.Version 0 1099511627776=false then 2
  else if m.Lanes.length=0 then 6
  else if 12<m.Lanes.length∨12<m.Zones.length∨4<m.Signals.length∨8<m.Works.length then 8
  else ((R3 (laneE m.Lanes.length) 0 m.Lanes).or ((R3 (nextE m) 0 m.Lanes).or ((R3 (signalE m) 0 m.Signals).or ((R3 (zoneE m) 0 m.Zones).or (R3 (workE m) 0 m.Works))))).getD 0
theorem A1t {α:Type}{g:Nat→α→Option Int}(h: ∀i a e,g i a=some e→e≠0): ∀{l:List α} {i:Nat} {e:Int},R3 g i l=some e→e≠0
  | [],_,_,q=>by cases q
  |a::r,i,e,q=>by
   unfold R3 at q
   cases hg:g i a with
   |some e'=>rw [hg]at q;cases q;exact h i a e hg
   |none=>rw [hg]at q;exact A1t h q
theorem C1x {m:Map}{i:Nat}{z:Zone}{e:Int}(h:zoneE m i z=some e):e≠0:=by
  unfold zoneE at h
  repeat' split at h
  all_goals first|(cases h;decide)|cases h
theorem B6w {m:Map}{i:Nat}{z:Signal}{e:Int}(h:signalE m i z=some e):e≠0:=by
  unfold signalE at h
  repeat' split at h
  all_goals first|(cases h;decide)|cases h
theorem C1y {m:Map}{i:Nat}{z:Work}{e:Int}(h:workE m i z=some e):e≠0:=by
  unfold workE at h
  repeat' split at h
  all_goals first|(cases h;decide)|cases h
theorem C1z {m:Map}{i:Nat}{z:Lane}{e:Int}(h:nextE m i z=some e):e≠0:=A1t (fun _ _ _=>C5e) h
theorem A7j {m:Map}(B:BearM m):A0s m=some (C5z m):=by
  have hb:=B.lanes
  have s0:L4 m 0=(P6 ⟨m⟩).bind fun v2=>cond (v2 !=0) (some (.out (.inr v2))) (some (.go 1)):=rfl
  have s1:L4 m 1=(S9 ⟨m⟩).bind fun v2=>cond (v2 !=0) (some (.out (.inr v2))) (some (.go 2)):=rfl
  have s2:L4 m 2=(R2 ⟨m⟩).bind fun v2=>cond (v2 !=0) (some (.out (.inr v2))) (some (.go 3)):=rfl
  have s3:L4 m 3=(P7 ⟨m⟩).bind fun v2=>cond (v2 !=0) (some (.out (.inr v2))) (some (.go 4)):=rfl
  have s4:L4 m 4=(T1 ⟨m⟩).bind fun v2=>cond (v2 !=0) (some (.out (.inr v2))) (some (.go 5)):=rfl
  have s5:L4 m 5=(T3 ⟨m⟩).bind fun v2=>cond (v2 !=0) (some (.out (.inr v2))) (some (.go 6)):=rfl
  have s6:L4 m 6=some (.out (.inl ())):=rfl
  have stp: ∀(i j:Int) (e:Option Int) (X:Option Int),(∀e',e=some e'→e'≠0)→X=some (e.getD 0)→L4 m i=X.bind (fun v2=>cond (v2 !=0) (some (.out (.inr v2))) (some (.go j)))→loop (L4 m) i=match e with|some e'=>some (.inr e')|none=>loop (L4 m) j:=by
    intro i j e X he hX hs
    subst hX
    rw [Option.bind_some]at hs
    cases e with
    |none=>exact Q4 hs
    |some e'=>
     rw [Option.getD_some,show (e' !=0)=true by simpa using he e' rfl]at hs
     exact G1 hs
  unfold A0s C5z
  have hnum:P6 ⟨m⟩=some ((if inR m.Version 0 1099511627776=false then some 2 else if m.Lanes.length=0 then some 6 else if 12<m.Lanes.length∨12<m.Zones.length∨4<m.Signals.length∨8<m.Works.length then some 8 else none:Option Int).getD 0):=by
    unfold P6
    dsimp only
    rw [A6p,Option.bind_some]
    cases inR m.Version 0 1099511627776
    ·rfl
    ·simp only [Bool.not_true,cond_false,Bool.true_eq_false,if_false]
     by_cases h1:m.Lanes.length=0
     ·rw [if_pos h1,h1];rfl
     ·rw [if_neg h1,show ((m.Lanes.length:Int)==0)=false by simp only [beq_eq_false_iff_ne];omega,cond_false]
      by_cases h2:12<m.Lanes.length∨12<m.Zones.length∨4<m.Signals.length∨8<m.Works.length
      ·rw [if_pos h2,show ((((decide ((m.Lanes.length:Int)>12))||(decide ((m.Zones.length:Int)>12)))||(decide ((m.Signals.length:Int)>4)))||(decide ((m.Works.length:Int)>8)))=true by simp;omega];rfl
      ·rw [if_neg h2,show ((((decide ((m.Lanes.length:Int)>12))||(decide ((m.Zones.length:Int)>12)))||(decide ((m.Signals.length:Int)>4)))||(decide ((m.Works.length:Int)>8)))=false by simp;omega];rfl
  rw [stp 0 1 _ _ (by repeat' split
                      all_goals (intro e' h;first|(cases h;decide)|cases h)) hnum s0]
  by_cases q1:inR m.Version 0 1099511627776=false
  ·rw [if_pos q1,if_pos q1];rfl
  ·rw [if_neg q1,if_neg q1]
   by_cases q2:m.Lanes.length=0
   ·rw [if_pos q2,if_pos q2];rfl
   ·rw [if_neg q2,if_neg q2]
    by_cases q3:12<m.Lanes.length∨12<m.Zones.length∨4<m.Signals.length∨8<m.Works.length
    ·rw [if_pos q3,if_pos q3];rfl
    ·rw [if_neg q3,if_neg q3]
     dsimp only
     rw [stp 1 2 _ _ (fun e' h=>A1t (fun _ _ _=>C1v) h) (C7l B.toBear) s1]
     cases H:R3 (laneE m.Lanes.length) 0 m.Lanes with
     |some e=>rfl
     |none=>
      dsimp only
      rw [stp 2 3 _ _ (fun e' h=>A1t (fun _ _ _=>C1z) h) (C5f B.toBear H).1 s2]
      cases R3 (nextE m) 0 m.Lanes with
      |some e=>rfl
      |none=>
       dsimp only
       rw [stp 3 4 _ _ (fun e' h=>A1t (fun _ _ _=>B6w) h) (C38 B.toBear B.toBearS) s3]
       cases R3 (signalE m) 0 m.Signals with
       |some e=>rfl
       |none=>
        dsimp only
        rw [stp 4 5 _ _ (fun e' h=>A1t (fun _ _ _=>C1x) h) (C7m B.toBear B.toBearZ) s4]
        cases R3 (zoneE m) 0 m.Zones with
        |some e=>rfl
        |none=>
         dsimp only
         rw [stp 5 6 _ _ (fun e' h=>A1t (fun _ _ _=>C1y) h) (C7n B.toBear B.toBearW) s5]
         cases R3 (workE m) 0 m.Works with
         |some e=>rfl
         |none=>dsimp only;rw [G1 s6];rfl
end Go.Abs.Roads
namespace Go.Abs.Roads
open Go Go.Abs
/-- What a valid map is. -/
structure ValR (m:Map):Prop where
  ver:0≤m.Version∧m.Version≤1099511627776
  pos:0<m.Lanes.length
  lanes:m.Lanes.length≤12
  zones:m.Zones.length≤12
  signals:m.Signals.length≤4
  works:m.Works.length≤8
  laneE:R3 (laneE m.Lanes.length) 0 m.Lanes=none
  nextE:R3 (nextE m) 0 m.Lanes=none
  signalE:R3 (signalE m) 0 m.Signals=none
  zoneE:R3 (zoneE m) 0 m.Zones=none
  workE:R3 (workE m) 0 m.Works=none
theorem C5i {α:Type}{g:Nat→α→Option Int}{l:List α}(h: ∀i a e,g i a=some e→e≠0)(h0:(R3 g 0 l).getD 0=0):R3 g 0 l=none:=by
  cases q:R3 g 0 l with
  |none=>rfl
  |some e=>rw [q]at h0;exact absurd h0 (A1t h q)
theorem chkR_zero {m:Map}:C5z m=0↔ValR m:=by
  unfold C5z
  constructor
  ·intro h
   split at h
   ·cases h
   ·rename_i h1
    split at h
    ·cases h
    ·rename_i h2
     split at h
     ·cases h
     ·rename_i h3
      simp only [inR,Bool.not_eq_false,Bool.and_eq_true,decide_eq_true_eq]at h1
      have key: ∀{o r:Option Int},(∀e,o=some e→e≠0)→(o.or r).getD 0=0→o=none∧r.getD 0=0:=by
        intro o r ho hr
        cases o with
        |none=>exact ⟨rfl,hr⟩
        |some e=>exact absurd hr (ho e rfl)
      obtain ⟨a1,h⟩:=key (fun e h=>A1t (fun _ _ _=>C1v) h) h
      obtain ⟨a2,h⟩:=key (fun e h=>A1t (fun _ _ _=>C1z) h) h
      obtain ⟨a3,h⟩:=key (fun e h=>A1t (fun _ _ _=>B6w) h) h
      obtain ⟨a4,h⟩:=key (fun e h=>A1t (fun _ _ _=>C1x) h) h
      exact ⟨h1,by omega,by omega,by omega,by omega,by omega,a1,a2,a3,a4,C5i (fun _ _ _=>C1y) h⟩
  ·rintro ⟨h1,h2,h3,h4,h5,h6,a1,a2,a3,a4,a5⟩
   rw [if_neg (by simp only [inR,Bool.not_eq_false,Bool.and_eq_true,decide_eq_true_eq];exact h1),if_neg (by omega),if_neg (by omega),a1,a2,a3,a4,a5];rfl
section
variable {m:Map}
theorem ValR.laneOK (V:ValR m){i:Nat}{l:Lane}(h:m.Lanes[i]? =some l):LaneOK m.Lanes.length i l:=B2b V.laneE h
theorem ValR.next (V:ValR m){i:Nat}{l:Lane}(h:m.Lanes[i]? =some l){k:Int}(hk:k∈l.Next):(i:Int)<k∧k<m.Lanes.length:=by
  have:=A6q (V.laneOK h).next k hk
  omega
end
/-- The lanes in which a lane goes on. -/
def nextOf (m:Map)(a:Nat):List Int:=((m.Lanes[a]?).map (·.Next)).getD []
theorem ValR.nextOf {m:Map}(V:ValR m){a:Nat}{k:Int}(hk:k∈Roads.nextOf m a):(a:Int)<k∧k<m.Lanes.length:=by
  unfold Roads.nextOf at hk
  cases h:m.Lanes[a]? with
  |none=>rw [h]at hk;cases hk
  |some l=>rw [h]at hk;exact V.next h hk
def A9s (m:Map)(b:Int):Nat→Nat→Bool
  |0,_=>false
  |n+1,a=>(nextOf m a).any fun k=>k==b||A9s m b n k.toNat
theorem C0q {m:Map}(V:ValR m)(b:Int): ∀(n n' a:Nat),m.Lanes.length≤a+n→m.Lanes.length≤a+n'→A9s m b n a=A9s m b n' a:=by
  intro n
  induction n with
  |zero=>
   intro n' a h h'
   have:nextOf m a= []:=by
     unfold nextOf
     rw [List.getElem?_eq_none (by omega)];rfl
   cases n' with
   |zero=>rfl
   |succ n'=>rw [A9s,A9s,this];rfl
  |succ n ih=>
   intro n' a h h'
   cases n' with
   |zero=>
    have:nextOf m a= []:=by
      unfold nextOf
      rw [List.getElem?_eq_none (by omega)];rfl
    rw [A9s,A9s,this];rfl
   |succ n'=>
    rw [A9s,A9s]
    rw [Bool.eq_iff_iff,List.any_eq_true,List.any_eq_true]
    refine exists_congr fun k=>and_congr_right fun hk=> ?_
    have:=V.nextOf hk
    rw [ih n' k.toNat (by omega) (by omega)]
/-- Does a lane lead to another one? -/
def A9t (m:Map)(a:Nat)(b:Int):Bool:=A9s m b m.Lanes.length a
theorem B2c {m:Map}(V:ValR m)(a:Nat)(b:Int):A9t m a b=(nextOf m a).any fun k=>k==b||A9t m k.toNat b:=by
  unfold A9t
  rw [C0q V b _ (m.Lanes.length+1) a (by omega) (by omega),A9s]
end Go.Abs.Roads
namespace Go.Abs.Roads
open Go Go.Abs
/-- What is known of the sets of the lanes from a number on. -/
structure Reach (m:Map)(i:Nat)(l:List Nat):Prop where
  len:l.length=12
  small: ∀(a x:Nat),l[a]? =some x→x<2^32
  zero: ∀(a:Nat),a<i→l[a]? =some 0
  bits: ∀(a x:Nat),i≤a→a<m.Lanes.length→l[a]? =some x→∀b:Nat,x.testBit b=A9t m a (b:Int)
theorem Reach.get {m:Map}{i:Nat}{l:List Nat}(R:Reach m i l){a:Nat}(h:a<12): ∃x,l[a]? =some x∧x<2^32:=by
  have:=R.len
  exact ⟨l[a],List.getElem?_eq_getElem (by omega),R.small a _ (List.getElem?_eq_getElem (by omega))⟩
end Go.Abs.Roads
