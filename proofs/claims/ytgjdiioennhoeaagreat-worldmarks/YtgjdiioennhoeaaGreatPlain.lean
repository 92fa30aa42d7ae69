/-
  Plain facts on the functions: what they compute, and that the law holds of it.
-/
import Derived.Test.YtgjdiioennhoeaaGreatFns3
set_option maxRecDepth 100000
set_option linter.unusedVariables false
namespace Go.Abs.World
open Go Go.Abs
def B8p (p4:(List Int))(x1:(Int× (List Spot))):Option (Stp (Int× (List Spot)) (List Spot)):=
  cond (decide ((w64 (x1.1+1))< (p4.length:Int))) ((D1 p4 x1.1).bind fun v1=>(D1 p4 (w64 (x1.1+1))).bind fun v2=>(A60 x1.2 [(Spot.mk v1 v2)]).bind fun v3=>some (.go ((w64 (x1.1+2)),v3))) (some (.out x1.2))
def B8q (p1:Int)(p2:Int)(p3:(List Int))(p4:(List Int)):Option Lane:=
  (K9 (B8p p4) (0,[])).bind fun y1=>cond (p1==3) (some (Lane.mk p1 (Curve.mk y1) 500 p2 p3)) (some (Lane.mk p1 (Curve.mk y1) 1500 p2 p3))
def C29:Option Map:=
  (B8q 1 1500 [] [0,0,100000,0]).bind fun v1=>(B8q 1 1500 [] [50000,(-50000),50000,50000]).bind fun v2=>some (Map.mk 0 [v1,v2] [(Zone.mk [(Part.mk 0 48000 52000 1),(Part.mk 1 48000 52000 0)] 0)] [] [])
def B1y (p1:Int)(p2:Int)(p3:Int):Option Agent:=
  some (Agent.mk [p1] p2 p3 4000 0 false false)
def A26 (p1:List Stay):Option (List Stay):=A60 [] p1
def A7w (p1:List Int):Option (List Int):=A60 [] p1
def A4i (p1:Agent):Option Agent:=
  (A7w p1.Route).bind fun v1=>some (Agent.mk v1 p1.S p1.V p1.Len p1.Begin p1.Obey p1.Gone)
def B58 (p1:State)(x1:(Int×State)):Option (Stp (Int×State) State):=
  cond (decide (x1.1< (p1.Agents.length:Int))) ((D1 p1.Agents x1.1).bind fun v2=>(A4i v2).bind fun v3=>(A60 x1.2.Agents [v3]).bind fun v4=>some (.go ((w64 (x1.1+1)),(State.mk x1.2.Tick v4 x1.2.In)))) (some (.out x1.2))
def B45 (p1:State):Option State:=
  (A26 p1.In).bind fun v1=>(K9 (B58 p1) (0,(State.mk p1.Tick [] v1))).bind fun y1=>some y1
def A0p (p1:Int)(p2:Int)(p3:Int):Option Bool:=
  some ((decide (p2≤p1))&& (decide (p1≤p3)))
def A8s (p1:RoadsCheck):Option Int:=
  (A0p p1.Map_.Version 0 1099511627776).bind fun v1=>cond (!v1) (some 2) (cond ((p1.Map_.Lanes.length:Int)==0) (some 6) (cond ((((decide ((p1.Map_.Lanes.length:Int)>12))||(decide ((p1.Map_.Zones.length:Int)>12)))||(decide ((p1.Map_.Signals.length:Int)>4)))||(decide ((p1.Map_.Works.length:Int)>8))) (some 8) (some 0)))
def A3i (p1:Int):Option (Int×Int×Int):=
  cond ((decide (p1<0))||(decide (p1≥4))) (some (0,0,0)) ((D1 ([(0,0,0),(2000,30,90),(1000,20,60),(300,100,300)]:List (Int×Int×Int)) p1).bind fun v1=>some (v1.1,v1.2.1,v1.2.2))
def B59 (p1:(List Spot))(x1:Int):Option (Stp Int (Sum Unit Bool)):=
  cond (decide (x1< (p1.length:Int))) ((D1 p1 x1).bind fun v1=>cond ((decide ((mm2 false v1.X v1.Y)< (-16777216)))||(decide ((mm2 true v1.X v1.Y)>16777216))) (some (.out (.inr false))) (some (.go (w64 (x1+1))))) (some (.out (.inl ())))
def B9w (p1:(List Spot)):Option Bool:=
  thenS (K9 (B59 p1) 0) (fun _=>some true) (fun r=>some r)
def B46 (p1:Spot)(p2:Spot):Option CurveVector:=
  some (CurveVector.mk (w64 (p2.X - p1.X)) (w64 (p2.Y - p1.Y)))
def A2l (p1:CurveVector)(p2:CurveVector):Option Int:=
  some (w64 ((w64 (p1.x*p2.x))+ (w64 (p1.y*p2.y))))
def B5a (p1:Int)(x1:(Int×Int)):Option (Stp (Int×Int) Int):=
  cond (decide (x1.1<x1.2)) (cond (decide ((w64 ((w64 ((w64 (x1.1+x1.2)).tdiv 2))* (w64 ((w64 (x1.1+x1.2)).tdiv 2))))<p1)) (some (.go ((w64 ((w64 ((w64 (x1.1+x1.2)).tdiv 2))+1)),x1.2))) (some (.go (x1.1,(w64 ((w64 (x1.1+x1.2)).tdiv 2)))))) (some (.out x1.1))
def B47 (p1:Int):Option (Int×Bool):=
  (K9 (B5a p1) (0,67108864)).bind fun y1=>some (y1,((w64 (y1*y1))==p1))
def B48 (p1:Curve)(x1:(Int×CurveVector)):Option (Stp (Int×CurveVector) (Sum Unit Int)):=
  cond (decide (x1.1< (w64 ((p1.Pts.length:Int) - 1)))) ((D1 p1.Pts x1.1).bind fun v2=>(D1 p1.Pts (w64 (x1.1+1))).bind fun v3=>(B46 v2 v3).bind fun v4=>(A2l v4 v4).bind fun v5=>(B47 v5).bind fun v6=>cond (!v6.2) (some (.out (.inr 3))) (cond ((decide (v6.1<1000))||(decide (v6.1>1048576))) (some (.out (.inr 2))) (((cond (decide (x1.1>0)) (A2l x1.2 v4) (some default))).bind fun v7=>cond ((decide (x1.1>0))&& (decide (v7≤0))) (some (.out (.inr 12))) (some (.go ((w64 (x1.1+1)),v4)))))) (some (.out (.inl ())))
def B1z (p1:Curve):Option Int:=
  cond (decide ((p1.Pts.length:Int)<2)) (some 6) (cond (decide ((p1.Pts.length:Int)>16)) (some 5) ((B9w p1.Pts).bind fun v1=>cond (!v1) (some 2) (thenS (K9 (B48 p1) (0,(CurveVector.mk 0 0))) (fun _=>some 0) (fun r=>some r))))
def B29 (p1:(List Int))(p3:Int)(x1:(Int×Int)):Option (Stp (Int×Int) (Sum Unit Bool)):=
  cond (decide (x1.2< (p1.length:Int))) ((D1 p1 x1.2).bind fun v1=>cond ((decide (v1<x1.1))||(decide (v1≥p3))) (some (.out (.inr false))) (some (.go ((w64 (v1+1)),(w64 (x1.2+1)))))) (some (.out (.inl ())))
def A6t (p1:(List Int))(p2:Int)(p3:Int):Option Bool:=
  thenS (K9 (B29 p1 p3) (p2,0)) (fun _=>some true) (fun r=>some r)
def A7x (p1:RoadsCheck)(x1:Int):Option (Stp Int (Sum Unit Int)):=
  cond (decide (x1< (p1.Map_.Lanes.length:Int))) ((D1 p1.Map_.Lanes x1).bind fun v1=>(A3i v1.Kind).bind fun v2=>cond (v2.1==0) (some (.out (.inr 4))) ((B1z v1.Curve_).bind fun v3=>cond (v3 !=0) (some (.out (.inr v3))) ((A0p v1.Half 200 4000).bind fun v4=>((cond (!(!v4)) (A0p v1.Limit 1 v2.1) (some default))).bind fun v5=>cond ((!v4)||(!v5)) (some (.out (.inr 2))) (cond (decide ((v1.Next.length:Int)>3)) (some (.out (.inr 8))) ((A6t v1.Next (w64 (x1+1)) (p1.Map_.Lanes.length:Int)).bind fun v6=>cond (!v6) (some (.out (.inr 11))) (some (.go (w64 (x1+1))))))))) (some (.out (.inl ())))
def B11 (p1:RoadsCheck):Option Int:=
  thenS (K9 (A7x p1) 0) (fun _=>some 0) (fun r=>some r)
def A78 (p1:RoadsCheck)(v1:Lane)(v2:Spot)(x2:Int):Option (Stp Int (Sum Unit Int)):=
  cond (decide (x2< (v1.Next.length:Int))) ((D1 v1.Next x2).bind fun v3=>(D1 p1.Map_.Lanes v3).bind fun v4=>cond (v4.Kind !=v1.Kind) (some (.out (.inr 4))) ((D1 p1.Map_.Lanes v3).bind fun v5=>(D1 v5.Curve_.Pts 0).bind fun v6=>cond (!(v6.X==v2.X&& (v6.Y==v2.Y&&true))) (some (.out (.inr 3))) (some (.go (w64 (x2+1)))))) (some (.out (.inl ())))
def A79 (p1:RoadsCheck)(x1:Int):Option (Stp Int (Sum Unit Int)):=
  cond (decide (x1< (p1.Map_.Lanes.length:Int))) ((D1 p1.Map_.Lanes x1).bind fun v1=>(D1 v1.Curve_.Pts (w64 ((v1.Curve_.Pts.length:Int) - 1))).bind fun v2=>thenS (K9 (A78 p1 v1 v2) 0) (fun _=>some (.go (w64 (x1+1)))) (fun r=>some (.out (.inr r)))) (some (.out (.inl ())))
def A9w (p1:RoadsCheck):Option Int:=
  thenS (K9 (A79 p1) 0) (fun _=>some 0) (fun r=>some r)
def A7a (p1:Phase):Option Bool:=
  (A0p p1.Ticks 1 10000).bind fun v1=>some (!v1)
def O9 (p1:(List Phase))(x1:Int):Option (Stp Int (Sum Unit Int)):=
  cond (decide (x1< (p1.length:Int))) ((D1 p1 x1).bind fun v1=>(A7a v1).bind fun v2=>cond v2 (some (.out (.inr x1))) (some (.go (w64 (x1+1))))) (some (.out (.inl ())))
def Q6 (p1:(List Phase)):Option Int:=
  thenS (K9 (O9 p1) 0) (fun _=>some (-1)) (fun r=>some r)
def P0 (p1:(List Phase)):Option Bool:=
  (Q6 p1).bind fun v1=>some (decide (v1≥0))
def A5v (p1:Phase)(p2:RoadsCheck):Option Bool:=
  (A6t p1.Green 0 (p2.Map_.Lanes.length:Int)).bind fun v1=>some (!v1)
def O6 (p1:(List Phase))(p2:RoadsCheck)(x1:Int):Option (Stp Int (Sum Unit Int)):=
  cond (decide (x1< (p1.length:Int))) ((D1 p1 x1).bind fun v1=>(A5v v1 p2).bind fun v2=>cond v2 (some (.out (.inr x1))) (some (.go (w64 (x1+1))))) (some (.out (.inl ())))
def P9 (p1:(List Phase))(p2:RoadsCheck):Option Int:=
  thenS (K9 (O6 p1 p2) 0) (fun _=>some (-1)) (fun r=>some r)
def O7 (p1:(List Phase))(p2:RoadsCheck):Option Bool:=
  (P9 p1 p2).bind fun v1=>some (decide (v1≥0))
def A6u (p1:RoadsCheck)(x1:Int):Option (Stp Int (Sum Unit Int)):=
  cond (decide (x1< (p1.Map_.Signals.length:Int))) ((D1 p1.Map_.Signals x1).bind fun v1=>cond ((v1.Phases.length:Int)==0) (some (.out (.inr 6))) (cond (decide ((v1.Phases.length:Int)>6)) (some (.out (.inr 8))) ((A0p v1.Offset 0 1099511627776).bind fun v2=>cond (!v2) (some (.out (.inr 2))) ((P0 v1.Phases).bind fun v3=>cond v3 (some (.out (.inr 2))) ((O7 v1.Phases p1).bind fun v4=>cond v4 (some (.out (.inr 11))) (some (.go (w64 (x1+1))))))))) (some (.out (.inl ())))
def A8t (p1:RoadsCheck):Option Int:=
  thenS (K9 (A6u p1) 0) (fun _=>some 0) (fun r=>some r)
def B8r (pts:List Spot):Nat→Nat→Int→Option (List (Int×CurvePiece))
  |0,_,_=>some []
  |n+1,i,start=>(pts[i]?).bind fun p=>(pts[i+1]?).bind fun q=>(B46 p q).bind fun v=>(A2l v v).bind fun d=>(B47 d).bind fun r=>
   (B8r pts n (i+1) (w64 (start+r.1))).bind fun l=>some (((i:Int),CurvePiece.mk p v r.1 start)::l)
def C5x (pts:List Spot):Option (List (Int×CurvePiece)):=if pts.length≤1000000 then B8r pts (pts.length - 1) 0 0 else none
def B2a (x1:(List Int))(a1:(Int×CurvePiece)):Option (Stp (List Int) (List Int)):=
  (A60 x1 [a1.2.l]).bind fun v3=>some (.go v3)
def B73 (p1:Curve):Option (List Int):=
  (B1z p1).bind fun v1=>cond (v1 !=0) (some []) (((C5x p1.Pts).bind fun v2=>loopL (B2a) (fun (x1:(List Int))=>x1) v2 []).bind fun y1=>some y1)
def B2b (v1:(List Int))(x1:(Int×Int)):Option (Stp (Int×Int) Int):=
  cond (decide (x1.2< (v1.length:Int))) ((D1 v1 x1.2).bind fun v2=>some (.go ((w64 (x1.1+v2)),(w64 (x1.2+1))))) (some (.out x1.1))
def B74 (p1:Curve):Option Int:=
  (B73 p1).bind fun v1=>(K9 (B2b v1) (0,0)).bind fun y1=>some y1
def A6v (p1:Map)(p2:Int):Option Int:=
  (D1 p1.Lanes p2).bind fun v1=>(B74 v1.Curve_).bind fun v2=>some v2
def A7y (p1:RoadsCheck)(v1:Zone)(x3:Int):Option (Stp Int (Sum Unit Int)):=
  cond (decide (x3< (v1.Parts.length:Int))) ((D1 v1.Parts x3).bind fun v5=>((cond (!((decide (v5.From<0))||(decide (v5.From≥v5.To)))) (A6v p1.Map_ v5.Lane_) (some default))).bind fun v6=>cond (((((decide (v5.From<0))||(decide (v5.From≥v5.To)))||(decide (v5.To>v6)))||(decide (v5.Rank<0)))||(decide (v5.Rank>100))) (some (.out (.inr 2))) (some (.go (w64 (x3+1))))) (some (.out (.inl ())))
def A7z (v1:Zone)(x2:((List Int)×Int)):Option (Stp ((List Int)×Int) (List Int)):=
  cond (decide (x2.2< (v1.Parts.length:Int))) ((D1 v1.Parts x2.2).bind fun v2=>(A60 x2.1 [v2.Lane_]).bind fun v3=>some (.go (v3,(w64 (x2.2+1))))) (some (.out x2.1))
def A80 (p1:RoadsCheck)(x1:Int):Option (Stp Int (Sum Unit Int)):=
  cond (decide (x1< (p1.Map_.Zones.length:Int))) ((D1 p1.Map_.Zones x1).bind fun v1=>cond (decide ((v1.Parts.length:Int)<2)) (some (.out (.inr 6))) (cond (decide ((v1.Parts.length:Int)>6)) (some (.out (.inr 8))) (cond ((decide (v1.Signal_<0))||(decide (v1.Signal_>(p1.Map_.Signals.length:Int)))) (some (.out (.inr 2))) ((K9 (A7z v1) ([],0)).bind fun y2=>(A6t y2 0 (p1.Map_.Lanes.length:Int)).bind fun v4=>cond (!v4) (some (.out (.inr 11))) (thenS (K9 (A7y p1 v1) 0) (fun _=>some (.go (w64 (x1+1)))) (fun r=>some (.out (.inr r)))))))) (some (.out (.inl ())))
def B12 (p1:RoadsCheck):Option Int:=
  thenS (K9 (A80 p1) 0) (fun _=>some 0) (fun r=>some r)
def A81 (p1:RoadsCheck)(x1:Int):Option (Stp Int (Sum Unit Int)):=
  cond (decide (x1< (p1.Map_.Works.length:Int))) ((D1 p1.Map_.Works x1).bind fun v1=>cond ((decide (v1.Lane_<0))||(decide (v1.Lane_≥(p1.Map_.Lanes.length:Int)))) (some (.out (.inr 7))) ((D1 p1.Map_.Lanes v1.Lane_).bind fun v2=>(A3i v2.Kind).bind fun v3=>((cond (!((decide (v1.From<0))||(decide (v1.From>v1.To)))) (A6v p1.Map_ v1.Lane_) (some default))).bind fun v4=>((cond (!((((((decide (v1.From<0))||(decide (v1.From>v1.To)))||(decide (v1.To>v4)))||(decide (v1.Begin<0)))||(decide (v1.Begin≥v1.End)))||(decide (v1.End>1099511627776)))) (A0p v1.Limit 0 v3.1) (some default))).bind fun v5=>cond (((((((decide (v1.From<0))||(decide (v1.From>v1.To)))||(decide (v1.To>v4)))||(decide (v1.Begin<0)))||(decide (v1.Begin≥v1.End)))||(decide (v1.End>1099511627776)))||(!v5)) (some (.out (.inr 2))) (some (.go (w64 (x1+1)))))) (some (.out (.inl ())))
def B13 (p1:RoadsCheck):Option Int:=
  thenS (K9 (A81 p1) 0) (fun _=>some 0) (fun r=>some r)
def A4j (v:Nat)(p1:RoadsCheck):Option Int:=
  cond (Nat.beq v 148) (A8s p1) (cond (Nat.beq v 149) (B11 p1) (cond (Nat.beq v 150) (A9w p1) (cond (Nat.beq v 151) (A8t p1) (cond (Nat.beq v 152) (B12 p1) (cond (Nat.beq v 153) (B13 p1) (none))))))
def B49 (p1:Map)(x1:Int):Option (Stp Int (Sum Unit Int)):=
  cond (decide (x1< ([148,149,150,151,152,153].length:Int))) ((D1 [148,149,150,151,152,153] x1).bind fun v1=>(A4j v1 (RoadsCheck.mk p1)).bind fun v2=>cond (v2 !=0) (some (.out (.inr v2))) (some (.go (w64 (x1+1))))) (some (.out (.inl ())))
def A82 (p1:Map):Option Int:=
  thenS (K9 (B49 p1) 0) (fun _=>some 0) (fun r=>some r)
def A5w (p1:(List Int))(p2:Int)(x1:Int):Option (Stp Int (Sum Unit Int)):=
  cond (decide (x1< (p1.length:Int))) ((D1 p1 x1).bind fun v1=>cond (p2==v1) (some (.out (.inr x1))) (some (.go (w64 (x1+1))))) (some (.out (.inl ())))
def A2z (p1:(List Int))(p2:Int):Option Int:=
  thenS (K9 (A5w p1 p2) 0) (fun _=>some (-1)) (fun r=>some r)
def W0 (p1:(List Int))(p2:Int):Option Bool:=
  (A2z p1 p2).bind fun v1=>some (decide (v1≥0))
def B2c (p1:Map)(p2:Int)(x1:((List Int)×Int)):Option (Stp ((List Int)×Int) (List Int)):=
  cond (decide (x1.2< (p1.Lanes.length:Int))) ((D1 p1.Lanes x1.2).bind fun v1=>(W0 v1.Next p2).bind fun v2=>cond v2 ((A60 x1.1 [x1.2]).bind fun v3=>some (.go (v3,(w64 (x1.2+1))))) (some (.go (x1.1,(w64 (x1.2+1)))))) (some (.out x1.1))
def B75 (p1:Map)(p2:Int):Option (List Int):=
  (K9 (B2c p1 p2) ([],0)).bind fun y1=>some y1
def A8u (p1:Map)(v7:List Int)(x1:(Int×Int)):Option (Stp (Int×Int) (Sum Unit Int)):=
  cond (decide (x1.2< (v7.length:Int))) ((D1 v7 x1.2).bind fun v8=>(D1 p1.Lanes x1.1).bind fun v9=>(W0 v9.Next v8).bind fun v10=>cond (!v10) (some (.out (.inr 13))) (some (.go (v8,(w64 (x1.2+1)))))) (some (.out (.inl ())))
def A5x (p1:Map)(p2:(List Int)):Option Int:=
  (A82 p1).bind fun v1=>cond (v1 !=0) (some v1) (((cond (!(((p2.length:Int)==0)||(decide ((p2.length:Int)>8)))) (D1 p2 0) (some default))).bind fun v2=>((cond (!((((p2.length:Int)==0)||(decide ((p2.length:Int)>8)))||(decide (v2<0)))) (D1 p2 0) (some default))).bind fun v3=>((cond (!(((((p2.length:Int)==0)||(decide ((p2.length:Int)>8)))||(decide (v2<0)))||(decide (v3≥(p1.Lanes.length:Int))))) (D1 p2 0) (some default))).bind fun v4=>((cond (!(((((p2.length:Int)==0)||(decide ((p2.length:Int)>8)))||(decide (v2<0)))||(decide (v3≥(p1.Lanes.length:Int))))) (B75 p1 v4) (some default))).bind fun v5=>cond ((((((p2.length:Int)==0)||(decide ((p2.length:Int)>8)))||(decide (v2<0)))||(decide (v3≥(p1.Lanes.length:Int))))||(decide ((v5.length:Int)>0))) (some 13) ((D1 p2 0).bind fun v6=>(C8t p2 1 (p2.length:Int)).bind fun v7=>thenS (K9 (A8u p1 v7) (v6,0)) (fun _=>some 0) (fun r=>some r)))
def B2d (p1:Map)(p2:(List Int))(x1:(Int× ((List Int)×Int))):Option (Stp (Int× ((List Int)×Int)) ((List Int)×Int)):=
  cond (decide (x1.1< (p2.length:Int))) ((D1 p2 x1.1).bind fun v2=>(A60 x1.2.1 [x1.2.2]).bind fun v3=>(A6v p1 v2).bind fun v4=>some (.go ((w64 (x1.1+1)),(v3,(w64 (x1.2.2+v4)))))) (some (.out x1.2))
def A3j (p1:Map)(p2:(List Int)):Option RoadsWay:=
  (A5x p1 p2).bind fun v1=>cond (v1 !=0) (some (RoadsWay.mk (Map.mk 0 [] [] [] []) [] [] 0)) ((K9 (B2d p1 p2) (0,([],0))).bind fun y1=>some (RoadsWay.mk p1 p2 y1.1 y1.2))
def A4r (p1:Map)(p2:(List Int)):Option Int:=
  (A3j p1 p2).bind fun v1=>some v1.length
def A6w (p1:Map)(p2:(List Int)):Option (List Int):=
  (A3j p1 p2).bind fun v1=>some v1.starts
def B5b (p2:Agent)(v1:(List Int))(x1:Int):Option (Stp Int Int):=
  (D1 v1 x1).bind fun v2=>cond (decide (v2>p2.S)) (some (.go (w64 (x1 - 1)))) (some (.out x1))
def B4a (p1:Map)(p2:Agent):Option (Int×Int):=
  (A6w p1 p2.Route).bind fun v1=>(K9 (B5b p2 v1) (w64 ((v1.length:Int) - 1))).bind fun y1=>(D1 p2.Route y1).bind fun v3=>(D1 v1 y1).bind fun v4=>some (v3,(w64 (p2.S - v4)))
def A2m (p1:Agent):Option WorldSpan:=
  some (WorldSpan.mk (w64 (p1.S - p1.Len)) p1.S)
def B4b (p1:Map)(p2:Agent):Option Bool:=
  (A2m p2).bind fun v1=>(A4r p1 p2.Route).bind fun v2=>some (decide (v1.from_>v2))
def B1o (p1:Map)(p2:State)(p3:Int):Option Int:=
  (D1 p2.Agents p3).bind fun v1=>(A5x p1 v1.Route).bind fun v2=>cond (v2 !=0) (some 13) (((cond (!(((((decide (v1.Len<300))||(decide (v1.Len>20000)))||(decide (v1.Begin<0)))||(decide (v1.Begin>1099511627776)))||(decide (v1.S<0)))) (A4r p1 v1.Route) (some default))).bind fun v3=>cond ((((((decide (v1.Len<300))||(decide (v1.Len>20000)))||(decide (v1.Begin<0)))||(decide (v1.Begin>1099511627776)))||(decide (v1.S<0)))||(decide (v1.S>(w64 ((w64 (v3+v1.Len))+2000))))) (some 2) ((B4a p1 v1).bind fun v4=>(D1 p1.Lanes v4.1).bind fun v5=>(A3i v5.Kind).bind fun v6=>cond ((decide (v1.V<0))||(decide (v1.V>v6.1))) (some 2) ((B4b p1 v1).bind fun v7=>cond ((!(v1.Gone==v7))||(((decide (v1.Begin>p2.Tick))&& (v1.S !=0))||((p3==0)&& (v1.Begin !=0)))) (some 10) (some 0))))
def A99 (p1:Int):Option Bool:=
  some (p1 !=p1)
def A1a (p1:Int)(p2:Int):Option Int:=
  (A99 p1).bind fun v1=>(A99 p2).bind fun v2=>cond v1 (cond v2 (some 0) (some (-1))) (cond v2 (some 1) (cond (decide (p1<p2)) (some (-1)) (cond (decide (p1>p2)) (some 1) (some 0))))
def B5c (p1:(List Int))(x1:Int):Option (Stp Int (Sum Unit Int)):=
  cond (decide (x1< (p1.length:Int))) ((D1 p1 x1).bind fun v1=>cond (v1 !=0) (some (.out (.inr v1))) (some (.go (w64 (x1+1))))) (some (.out (.inl ())))
def A9x (p1:(List Int)):Option Int:=
  thenS (K9 (B5c p1) 0) (fun _=>some 0) (fun r=>some r)
def A83 (p1:Stay)(p2:Stay):Option Int:=
  (A1a p1.Agent_ p2.Agent_).bind fun v1=>(A1a p1.Zone_ p2.Zone_).bind fun v2=>(A9x [v1,v2]).bind fun v3=>some v3
def B2e (p1:Stay)(p2:State):Option Bool:=
  some ((((decide (p1.Since<0))||(decide (p1.Since>p2.Tick)))||(decide (p1.Rank<0)))||(decide (p1.Rank>100)))
def W1 (p1:(List Stay))(p2:State)(x1:Int):Option (Stp Int (Sum Unit Int)):=
  cond (decide (x1< (p1.length:Int))) ((D1 p1 x1).bind fun v1=>(B2e v1 p2).bind fun v2=>cond v2 (some (.out (.inr x1))) (some (.go (w64 (x1+1))))) (some (.out (.inl ())))
def Y8 (p1:(List Stay))(p2:State):Option Int:=
  thenS (K9 (W1 p1 p2) 0) (fun _=>some (-1)) (fun r=>some r)
def W2 (p1:(List Stay))(p2:State):Option Bool:=
  (Y8 p1 p2).bind fun v1=>some (decide (v1≥0))
def B4c (p1:Map)(p2:State)(x2:Int):Option (Stp Int (Sum Unit Int)):=
  cond (decide (x2< (p2.In.length:Int))) ((D1 p2.In x2).bind fun v3=>((cond ((!((((decide (v3.Agent_<0))||(decide (v3.Agent_≥(p2.Agents.length:Int))))||(decide (v3.Zone_<0)))||(decide (v3.Zone_≥(p1.Zones.length:Int)))))&& (decide (x2>0))) (D1 p2.In (w64 (x2 - 1))) (some default))).bind fun v4=>((cond ((!((((decide (v3.Agent_<0))||(decide (v3.Agent_≥(p2.Agents.length:Int))))||(decide (v3.Zone_<0)))||(decide (v3.Zone_≥(p1.Zones.length:Int)))))&& (decide (x2>0))) (A83 v4 v3) (some default))).bind fun v5=>cond (((((decide (v3.Agent_<0))||(decide (v3.Agent_≥(p2.Agents.length:Int))))||(decide (v3.Zone_<0)))||(decide (v3.Zone_≥(p1.Zones.length:Int))))||((decide (x2>0))&& (decide (v5≥0)))) (some (.out (.inr 11))) (some (.go (w64 (x2+1))))) (some (.out (.inl ())))
def B4d (p1:Map)(p2:State)(x1:Int):Option (Stp Int (Sum Unit Int)):=
  cond (decide (x1< (p2.Agents.length:Int))) ((B1o p1 p2 x1).bind fun v2=>cond (v2 !=0) (some (.out (.inr v2))) (some (.go (w64 (x1+1))))) (some (.out (.inl ())))
def A84 (p1:Map)(p2:State):Option Int:=
  (A82 p1).bind fun v1=>cond (v1 !=0) (some v1) (cond ((decide (p2.Tick<0))||(decide (p2.Tick>1099511627776))) (some 2) (cond ((p2.Agents.length:Int)==0) (some 6) (cond (decide ((p2.Agents.length:Int)>8)) (some 8) (thenS (K9 (B4d p1 p2) 0) (fun _=>thenS (K9 (B4c p1 p2) 0) (fun _=>(W2 p2.In p2).bind fun v6=>cond v6 (some 2) (some 0)) (fun r=>some r)) (fun r=>some r)))))
def B8s (p1:Agent):Option Bool:=
  some p1.Gone
def W8 (p1:(List Agent))(x1:Int):Option (Stp Int (Sum Unit Int)):=
  cond (decide (x1< (p1.length:Int))) ((D1 p1 x1).bind fun v1=>(B8s v1).bind fun v2=>cond v2 (some (.out (.inr x1))) (some (.go (w64 (x1+1))))) (some (.out (.inl ())))
def Z5 (p1:(List Agent)):Option Int:=
  thenS (K9 (W8 p1) 0) (fun _=>some (-1)) (fun r=>some r)
def W9 (p1:(List Agent)):Option Bool:=
  (Z5 p1).bind fun v1=>some (decide (v1≥0))
def A4s (p1:State)(p2:Int):Option Bool:=
  ((cond ((decide (p2≥0))&& (decide (p2< (p1.Agents.length:Int)))) (D1 p1.Agents p2) (some default))).bind fun v1=>((cond (((decide (p2≥0))&& (decide (p2< (p1.Agents.length:Int))))&& (!v1.Gone)) (D1 p1.Agents p2) (some default))).bind fun v2=>some ((((decide (p2≥0))&& (decide (p2< (p1.Agents.length:Int))))&& (!v1.Gone))&& (decide (v2.Begin≤p1.Tick)))
def A9y (p1:Agent):Option Bool:=
  some ((((decide (p1.S≥0))&& (decide (p1.S≤1099511627776)))&& (decide (p1.Len≥0)))&& (decide (p1.Len≤1099511627776)))
def A1b (p1:Int):Option Bool:=
  some (p1 !=p1)
def A4t (p1:Int)(p2:Int):Option Int:=
  (A1b p1).bind fun v1=>(A1b p2).bind fun v2=>cond v1 (cond v2 (some 0) (some (-1))) (cond v2 (some 1) (cond (decide (p1<p2)) (some (-1)) (cond (decide (p1>p2)) (some 1) (some 0))))
def B4e (p1:Pass)(p2:Pass):Option Int:=
  (A4t p1.From p2.From).bind fun v1=>(A1a p1.Zone_ p2.Zone_).bind fun v2=>(A9x [v1,v2]).bind fun v3=>some v3
def P3 (p2:Int)(x2:(Int× (List Pass))):Option (Stp (Int× (List Pass)) (List Pass)):=
  ((cond (decide (x2.1>p2)) (D1 x2.2 x2.1) (some default))).bind fun v1=>((cond (decide (x2.1>p2)) (D1 x2.2 (w64 (x2.1 - 1))) (some default))).bind fun v2=>((cond (decide (x2.1>p2)) (B4e v1 v2) (some default))).bind fun v3=>cond ((decide (x2.1>p2))&& (decide (v3<0))) ((D1 x2.2 (w64 (x2.1 - 1))).bind fun v4=>(D1 x2.2 x2.1).bind fun v5=>(D1 x2.2 x2.1).bind fun v6=>(D1 (B6o x2.2 x2.1 v4) (w64 (x2.1 - 1))).bind fun v7=>some (.go ((w64 (x2.1 - 1)),(B6o (B6o x2.2 x2.1 v4) (w64 (x2.1 - 1)) v5)))) (some (.out x2.2))
def P4 (p2:Int)(p3:Int)(x1:(Int× (List Pass))):Option (Stp (Int× (List Pass)) (List Pass)):=
  cond (decide (x1.1<p3)) ((K9 (P3 p2) (x1.1,x1.2)).bind fun y1=>some (.go ((w64 (x1.1+1)),y1))) (some (.out (x1.2)))
def L0 (p1:(List Pass))(p2:Int)(p3:Int):Option (List Pass):=
  K9 (P4 p2 p3) ((w64 (p2+1)),p1)
def U1 (p2:Int)(x3:(Int×Int)):Option (Stp (Int×Int) Int):=
  cond (decide (x3.2≤p2)) (none) (some (.out x3.1))
def U2 (p2:Int)(v2:(List Pass))(x2:Int):Option (Stp Int (List Pass)):=
  cond (decide (x2<p2)) ((K9 (U1 p2) (0,(w64 (2*x2)))).bind fun y2=>cond (decide ((w64 (y2+x2))<p2)) (none) (some (.go (w64 (x2*2))))) (some (.out (v2)))
def U3 (p2:Int)(x1:(Int×Int× (List Pass))):Option (Stp (Int×Int× (List Pass)) (Int× (List Pass))):=
  cond (decide (x1.2.1≤p2)) ((L0 x1.2.2 x1.1 x1.2.1).bind fun v1=>some (.go (x1.2.1,(w64 (x1.2.1+20)),v1))) (some (.out (x1.1,x1.2.2)))
def Y4 (p1:(List Pass))(p2:Int):Option (List Pass):=
  (K9 (U3 p2) (0,20,p1)).bind fun y1=>(L0 y1.2 y1.1 p2).bind fun v2=>K9 (U2 p2 v2) 20
def S3 (p1:(List Pass)):Option (List Pass):=
  (Y4 p1 (p1.length:Int)).bind fun v1=>some v1
def P5 (p1:Int)(x2:Int):Option (Stp Int Unit):=
  ((cond (decide (x2>p1)) ((none:Option Unit)) (some default))).bind fun v1=>cond ((decide (x2>p1))&&false) (none) (some (.out ()))
def P6 (p1:Int)(p2:Int)(x1:Int):Option (Stp Int Unit):=
  cond (decide (x1<p2)) ((K9 (P5 p1) x1).bind fun _=>some (.go (w64 (x1+1)))) (some (.out (())))
def L3 (p1:Int)(p2:Int):Option Unit:=
  K9 (P6 p1 p2) (w64 (p1+1))
def U4 (p1:Int)(x3:(Int×Int)):Option (Stp (Int×Int) Int):=
  cond (decide (x3.2≤p1)) (none) (some (.out x3.1))
def U5 (p1:Int)(x2:Int):Option (Stp Int Unit):=
  cond (decide (x2<p1)) ((K9 (U4 p1) (0,(w64 (2*x2)))).bind fun y2=>cond (decide ((w64 (y2+x2))<p1)) (none) (some (.go (w64 (x2*2))))) (some (.out (())))
def U6 (p1:Int)(x1:(Int×Int)):Option (Stp (Int×Int) Int):=
  cond (decide (x1.2≤p1)) ((L3 x1.1 x1.2).bind fun v1=>some (.go (x1.2,(w64 (x1.2+20))))) (some (.out x1.1))
def Y5 (p1:Int):Option Unit:=
  (K9 (U6 p1) (0,20)).bind fun y1=>(L3 y1 p1).bind fun v2=>K9 (U5 p1) 20
def S4:Option Unit:=
  (Y5 0).bind fun v1=>some ()
def B2f (v1:RoadsWay)(x1:((List Pass)×Int))(v2:Int)(x2:((List Pass)×Int))(v3:Zone)(x3:((List Pass)×Int)):Option (Stp ((List Pass)×Int) (List Pass)):=
  cond (decide (x3.2< (v3.Parts.length:Int))) ((D1 v3.Parts x3.2).bind fun v4=>cond (v4.Lane_==v2) ((D1 v1.starts x1.2).bind fun v5=>(D1 v1.starts x1.2).bind fun v6=>(A60 x3.1 [(Pass.mk x2.2 x3.2 (w64 (v5+v4.From)) (w64 (v6+v4.To)))]).bind fun v7=>some (.go (v7,(w64 (x3.2+1))))) (some (.go (x3.1,(w64 (x3.2+1)))))) (some (.out x3.1))
def B2g (p1:Map)(v1:RoadsWay)(x1:((List Pass)×Int))(v2:Int)(x2:((List Pass)×Int)):Option (Stp ((List Pass)×Int) (List Pass)):=
  cond (decide (x2.2< (p1.Zones.length:Int))) ((D1 p1.Zones x2.2).bind fun v3=>(K9 (B2f v1 x1 v2 x2 v3) (x2.1,0)).bind fun y3=>some (.go (y3,(w64 (x2.2+1))))) (some (.out x2.1))
def B2h (p1:Map)(v1:RoadsWay)(x1:((List Pass)×Int)):Option (Stp ((List Pass)×Int) (List Pass)):=
  cond (decide (x1.2< (v1.lanes.length:Int))) ((D1 v1.lanes x1.2).bind fun v2=>(K9 (B2g p1 v1 x1 v2) (x1.1,0)).bind fun y2=>some (.go (y2,(w64 (x1.2+1))))) (some (.out x1.1))
def B76 (p1:Map)(p2:(List Int)):Option (List Pass):=
  (A3j p1 p2).bind fun v1=>(K9 (B2h p1 v1) ([],0)).bind fun y1=>cond (List.isEmpty y1) ((S4).bind fun v9=>some []) ((S3 y1).bind fun v8=>some v8)
def A8v (p1:Pass)(p2:Int)(p3:WorldSpan):Option Bool:=
  some (((p1.Zone_==p2)&& (decide (p1.From≤p3.to)))&& (decide (p3.from_≤p1.To)))
def S8 (p1:(List Pass))(p2:Int)(p3:WorldSpan)(x1:Int):Option (Stp Int (Sum Unit Int)):=
  cond (decide (x1< (p1.length:Int))) ((D1 p1 x1).bind fun v1=>(A8v v1 p2 p3).bind fun v2=>cond v2 (some (.out (.inr x1))) (some (.go (w64 (x1+1))))) (some (.out (.inl ())))
def W3 (p1:(List Pass))(p2:Int)(p3:WorldSpan):Option Int:=
  thenS (K9 (S8 p1 p2 p3) 0) (fun _=>some (-1)) (fun r=>some r)
def S9 (p1:(List Pass))(p2:Int)(p3:WorldSpan):Option Bool:=
  (W3 p1 p2 p3).bind fun v1=>some (decide (v1≥0))
def B5d (p1:Map)(p2:Agent)(p3:Agent)(p4:Int):Option Bool:=
  (A9y p2).bind fun v1=>((cond (!(!v1)) (A9y p3) (some default))).bind fun v2=>cond ((!v1)||(!v2)) (some false) ((A2m p2).bind fun v3=>(B76 p1 p2.Route).bind fun v4=>(S9 v4 p4 (WorldSpan.mk v3.from_ p3.S)).bind fun v5=>some v5)
def Q8 (p1:WorldScene)(p2:Int)(p3:Int):Option Bool:=
  (A4s p1.before p2).bind fun v1=>((cond v1 (D1 p1.before.Agents p2) (some default))).bind fun v2=>((cond v1 (D1 p1.after.Agents p2) (some default))).bind fun v3=>((cond v1 (B5d p1.m v2 v3 p3) (some default))).bind fun v4=>some (v1&&v4)
def P1 (p1:(List Stay))(p2:Stay)(x1:(Int×Int)):Option (Stp (Int×Int) Int):=
  cond (decide (x1.1<x1.2)) ((D1 p1 (w64 ((IntKind.wrap .u64 (w64 (x1.1+x1.2))).fdiv (2^ (min (1:Int).toNat (IntKind.bits .u64)))))).bind fun v1=>(A83 v1 p2).bind fun v2=>cond (decide (v2<0)) (some (.go ((w64 ((w64 ((IntKind.wrap .u64 (w64 (x1.1+x1.2))).fdiv (2^ (min (1:Int).toNat (IntKind.bits .u64)))))+1)),x1.2))) (some (.go (x1.1,(w64 ((IntKind.wrap .u64 (w64 (x1.1+x1.2))).fdiv (2^ (min (1:Int).toNat (IntKind.bits .u64))))))))) (some (.out x1.1))
def F5 (p1:(List Stay))(p2:Stay):Option (Int×Bool):=
  (K9 (P1 p1 p2) (0,(p1.length:Int))).bind fun y1=>((cond (decide (y1< (p1.length:Int))) (D1 p1 y1) (some default))).bind fun v3=>((cond (decide (y1< (p1.length:Int))) (A83 v3 p2) (some default))).bind fun v4=>some (y1,((decide (y1< (p1.length:Int)))&& (v4==0)))
def B4f (p1:Part)(p2:Int):Option Bool:=
  some (p1.Lane_==p2)
def X0 (p1:(List Part))(p2:Int)(x1:Int):Option (Stp Int (Sum Unit Int)):=
  cond (decide (x1< (p1.length:Int))) ((D1 p1 x1).bind fun v1=>(B4f v1 p2).bind fun v2=>cond v2 (some (.out (.inr x1))) (some (.go (w64 (x1+1))))) (some (.out (.inl ())))
def Z6 (p1:(List Part))(p2:Int):Option Int:=
  thenS (K9 (X0 p1 p2) 0) (fun _=>some (-1)) (fun r=>some r)
def B9x (p1:Zone)(p2:Int):Option (Part×Bool):=
  (Z6 p1.Parts p2).bind fun v1=>cond (decide (v1<0)) (some ((Part.mk 0 0 0 0),false)) ((D1 p1.Parts v1).bind fun v2=>some (v2,true))
def B14 (p1:Int)(p2:Map)(p3:Int):Option Bool:=
  (D1 p2.Zones p3).bind fun v1=>(B9x v1 p1).bind fun v2=>some v2.2
def X1 (p1:(List Int))(p2:Map)(p3:Int)(x1:Int):Option (Stp Int (Sum Unit Int)):=
  cond (decide (x1< (p1.length:Int))) ((D1 p1 x1).bind fun v1=>(B14 v1 p2 p3).bind fun v2=>cond v2 (some (.out (.inr x1))) (some (.go (w64 (x1+1))))) (some (.out (.inl ())))
def Z7 (p1:(List Int))(p2:Map)(p3:Int):Option Int:=
  thenS (K9 (X1 p1 p2 p3) 0) (fun _=>some (-1)) (fun r=>some r)
def B8t (p1:Map)(p2:(List Int))(p3:Int):Option Int:=
  (A3j p1 p2).bind fun v1=>cond ((decide (p3<0))||(decide (p3≥(p1.Zones.length:Int)))) (some (-1)) ((Z7 v1.lanes p1 p3).bind fun v2=>some v2)
def A85 (p1:Map)(p2:(List Int))(p3:Int):Option Int:=
  (B8t p1 p2 p3).bind fun v1=>cond (decide (v1≥0)) ((D1 p2 v1).bind fun v2=>some v2) (some (-1))
def B4g (p1:Map)(p2:Int):Option Bool:=
  ((cond ((decide (p2≥0))&& (decide (p2< (p1.Lanes.length:Int)))) (A82 p1) (some default))).bind fun v1=>some (((decide (p2≥0))&& (decide (p2< (p1.Lanes.length:Int))))&& (v1==0))
def B4h (p1:Signal)(p2:Int)(x2:(Int×Int)):Option (Stp (Int×Int) (Sum Unit Bool)):=
  cond (decide (x2.2< (p1.Phases.length:Int))) ((D1 p1.Phases x2.2).bind fun v5=>cond (decide (x2.1≥v5.Ticks)) (some (.go ((w64 (x2.1 - v5.Ticks)),(w64 (x2.2+1))))) ((W0 v5.Green p2).bind fun v6=>some (.out (.inr v6)))) (some (.out (.inl ())))
def B4i (p1:Signal)(x1:(Int×Int)):Option (Stp (Int×Int) Int):=
  cond (decide (x1.2< (p1.Phases.length:Int))) ((D1 p1.Phases x1.2).bind fun v1=>some (.go ((w64 (x1.1+v1.Ticks)),(w64 (x1.2+1))))) (some (.out x1.1))
def B20 (p1:Signal)(p2:Int)(p3:Int):Option Bool:=
  (K9 (B4i p1) (0,0)).bind fun y1=>(C0p p1.Offset y1).bind fun v2=>(C0p p3 y1).bind fun v3=>(C0p (w64 (v2+v3)) y1).bind fun v4=>thenS (K9 (B4h p1 p2) (v4,0)) (fun _=>some false) (fun r=>some r)
def B8u (p1:Map)(p2:Int)(p3:Int)(p4:Int):Option Bool:=
  ((cond (((decide (p4≥0))&& (decide (p2≥0)))&& (decide (p2< (p1.Signals.length:Int)))) (B4g p1 p3) (some default))).bind fun v1=>((cond ((((decide (p4≥0))&& (decide (p2≥0)))&& (decide (p2< (p1.Signals.length:Int))))&&v1) (D1 p1.Signals p2) (some default))).bind fun v2=>((cond ((((decide (p4≥0))&& (decide (p2≥0)))&& (decide (p2< (p1.Signals.length:Int))))&&v1) (B20 v2 p3 p4) (some default))).bind fun v3=>some (((((decide (p4≥0))&& (decide (p2≥0)))&& (decide (p2< (p1.Signals.length:Int))))&&v1)&&v3)
def B4j (p1:Part)(p2:Int):Option Bool:=
  some (p1.Lane_==p2)
def X2 (p1:(List Part))(p2:Int)(x1:Int):Option (Stp Int (Sum Unit Int)):=
  cond (decide (x1< (p1.length:Int))) ((D1 p1 x1).bind fun v1=>(B4j v1 p2).bind fun v2=>cond v2 (some (.out (.inr x1))) (some (.go (w64 (x1+1))))) (some (.out (.inl ())))
def Z8 (p1:(List Part))(p2:Int):Option Int:=
  thenS (K9 (X2 p1 p2) 0) (fun _=>some (-1)) (fun r=>some r)
def B4k (p1:Map)(p2:Agent)(p3:Int)(p4:Int):Option Int:=
  (A85 p1 p2.Route p3).bind fun v1=>cond (decide (v1<0)) (some 0) ((D1 p1.Zones p3).bind fun v2=>((cond (decide (v2.Signal_>0)) (B8u p1 (w64 (v2.Signal_ - 1)) v1 p4) (some default))).bind fun v3=>cond ((decide (v2.Signal_>0))&&v3) (some 2) (cond (decide (v2.Signal_>0)) (some 0) ((Z8 v2.Parts v1).bind fun v4=>(D1 v2.Parts v4).bind fun v5=>some v5.Rank)))
def A6x (p1:WorldScene)(x1:(Int× (List Stay)))(v1:Agent)(x2:(Int× (List Stay))):Option (Stp (Int× (List Stay)) (List Stay)):=
  cond (decide (x2.1< (p1.m.Zones.length:Int))) ((Q8 (WorldScene.mk p1.m p1.before (State.mk p1.after.Tick p1.after.Agents x2.2) p1.acts p1.crashes) x1.1 x2.1).bind fun v2=>cond (!v2) (some (.go ((w64 (x2.1+1)),x2.2))) ((F5 p1.before.In (Stay.mk x1.1 x2.1 p1.before.Tick 0)).bind fun v3=>(cond v3.2 ((D1 p1.before.In v3.1).bind fun v4=>some v4) ((B4k p1.m v1 x2.1 p1.before.Tick).bind fun v5=>some (Stay.mk x1.1 x2.1 p1.before.Tick v5))).bind fun y2=>(A60 x2.2 [y2]).bind fun v6=>some (.go ((w64 (x2.1+1)),v6)))) (some (.out x2.2))
def A6y (p1:WorldScene)(x1:(Int× (List Stay))):Option (Stp (Int× (List Stay)) WorldScene):=
  cond (decide (x1.1< (p1.before.Agents.length:Int))) ((D1 p1.before.Agents x1.1).bind fun v1=>(K9 (A6x p1 x1 v1) (0,x1.2)).bind fun y1=>some (.go ((w64 (x1.1+1)),y1))) (some (.out ((WorldScene.mk p1.m p1.before (State.mk p1.after.Tick p1.after.Agents x1.2) p1.acts p1.crashes))))
def A8w (p1:WorldScene):Option WorldScene:=
  K9 (A6y p1) (0,[])
def C40 (s:State)(i:Nat):Nat→Nat→Option (List (Int×Int))
  |0,_=>some []
  |k+1,j=>(A4s s i).bind fun a=>(A4s s j).bind fun b=>(C40 s i k (j+1)).bind fun l=>some (cond (a&&b) (((i:Int),(j:Int))::l) l)
def C41 (s:State)(n:Nat):Nat→Nat→Option (List (Int×Int))
  |0,_=>some []
  |k+1,i=>(C40 s i (n - (i+1)) (i+1)).bind fun a=>(C41 s n k (i+1)).bind fun b=>some (a++b)
def C42 (s:State):Option (List (Int×Int)):=if s.Agents.length≤1000000 then C41 s s.Agents.length s.Agents.length 0 else none
def A1c (p1:WorldSpan)(p2:Int):Option WorldSpan:=
  some (WorldSpan.mk (w64 (p1.from_ - p2)) (w64 (p1.to - p2)))
def A6z (p1:Map)(p2:Int):Option Int:=
  (B4g p1 p2).bind fun v1=>cond (!v1) (some 0) ((A6v p1 p2).bind fun v2=>some v2)
def A86 (p1:WorldSpan)(p2:WorldSpan):Option WorldSpan:=
  some (WorldSpan.mk (mm2 true p1.from_ p2.from_) (mm2 false p1.to p2.to))
def A5y (p1:WorldSpan):Option Bool:=
  some (decide (p1.from_>p1.to))
def B5e (p1:Map)(p2:Agent)(v2:(List Int))(x1:((List Span)×Int)):Option (Stp ((List Span)×Int) (List Span)):=
  cond (decide (x1.2< (v2.length:Int))) ((D1 v2 x1.2).bind fun v3=>(D1 p2.Route x1.2).bind fun v4=>(A2m p2).bind fun v5=>(A1c v5 v3).bind fun v6=>(A6z p1 v4).bind fun v7=>(A86 v6 (WorldSpan.mk 0 v7)).bind fun v8=>(A5y v8).bind fun v9=>cond (!v9) ((A60 x1.1 [(Span.mk v4 v8.from_ v8.to)]).bind fun v10=>some (.go (v10,(w64 (x1.2+1))))) (some (.go (x1.1,(w64 (x1.2+1)))))) (some (.out x1.1))
def B4l (p1:Map)(p2:Agent):Option (List Span):=
  (A9y p2).bind fun v1=>cond (!v1) (some []) ((A6w p1 p2.Route).bind fun v2=>(K9 (B5e p1 p2 v2) ([],0)).bind fun y1=>some y1)
def A87 (p1:Span)(p2:Span):Option Bool:=
  ((cond (p2.Lane_==p1.Lane_) (A86 (WorldSpan.mk p2.From p2.To) (WorldSpan.mk p1.From p1.To)) (some default))).bind fun v1=>((cond (p2.Lane_==p1.Lane_) (A5y v1) (some default))).bind fun v2=>some ((p2.Lane_==p1.Lane_)&& (!v2))
def R2 (p1:(List Span))(p2:Span)(x1:Int):Option (Stp Int (Sum Unit Int)):=
  cond (decide (x1< (p1.length:Int))) ((D1 p1 x1).bind fun v1=>(A87 v1 p2).bind fun v2=>cond v2 (some (.out (.inr x1))) (some (.go (w64 (x1+1))))) (some (.out (.inl ())))
def T8 (p1:(List Span))(p2:Span):Option Int:=
  thenS (K9 (R2 p1 p2) 0) (fun _=>some (-1)) (fun r=>some r)
def R3 (p1:(List Span))(p2:Span):Option Bool:=
  (T8 p1 p2).bind fun v1=>some (decide (v1≥0))
def A9z (p1:Span)(p2:(List Span)):Option Bool:=
  (R3 p2 p1).bind fun v1=>some v1
def T0 (p1:(List Span))(p2:(List Span))(x1:Int):Option (Stp Int (Sum Unit Int)):=
  cond (decide (x1< (p1.length:Int))) ((D1 p1 x1).bind fun v1=>(A9z v1 p2).bind fun v2=>cond v2 (some (.out (.inr x1))) (some (.go (w64 (x1+1))))) (some (.out (.inl ())))
def W4 (p1:(List Span))(p2:(List Span)):Option Int:=
  thenS (K9 (T0 p1 p2) 0) (fun _=>some (-1)) (fun r=>some r)
def T1 (p1:(List Span))(p2:(List Span)):Option Bool:=
  (W4 p1 p2).bind fun v1=>some (decide (v1≥0))
def B4m (p1:Map)(p2:Agent)(p3:Agent):Option Bool:=
  (B4l p1 p3).bind fun v1=>(B4l p1 p2).bind fun v2=>(T1 v2 v1).bind fun v3=>some v3
def A3b (p1:WorldScene)(p2:Int)(p3:Int)(p4:Int):Option Bool:=
  (Q8 p1 p2 p4).bind fun v1=>((cond v1 (Q8 p1 p3 p4) (some default))).bind fun v2=>((cond (v1&&v2) (D1 p1.before.Agents p2) (some default))).bind fun v3=>((cond (v1&&v2) (A85 p1.m v3.Route p4) (some default))).bind fun v4=>((cond (v1&&v2) (D1 p1.before.Agents p3) (some default))).bind fun v5=>((cond (v1&&v2) (A85 p1.m v5.Route p4) (some default))).bind fun v6=>some ((v1&&v2)&& (v4 !=v6))
def B77 (p1:Map)(v5:WorldScene)(a1:(Int×Int))(x2:Int):Option (Stp Int (Sum Unit (State×Int))):=
  cond (decide (x2< (p1.Zones.length:Int))) ((A3b v5 a1.1 a1.2 x2).bind fun v10=>cond v10 (some (.out (.inr ((State.mk 0 [] []),12)))) (some (.go (w64 (x2+1))))) (some (.out (.inl ())))
def B78 (p1:Map)(p2:(List Agent))(v5:WorldScene)(x1:Unit)(a1:(Int×Int)):Option (Stp Unit (Sum Unit (State×Int))):=
  (D1 p2 a1.1).bind fun v7=>(D1 p2 a1.2).bind fun v8=>(B4m p1 v7 v8).bind fun v9=>cond v9 (some (.out (.inr ((State.mk 0 [] []),12)))) (thenS (K9 (B77 p1 v5 a1) 0) (fun _=>some (.go ())) (fun r=>some (.out (.inr r))))
def B79:Option Unit:=
  some ()
def C2a (p1:Map)(p2:(List Agent)):Option (State×Int):=
  (B45 (State.mk 0 p2 [])).bind fun v1=>(A84 p1 v1).bind fun v2=>cond (v2 !=0) (some ((State.mk 0 [] []),v2)) ((W9 p2).bind fun v3=>cond v3 (some ((State.mk 0 [] []),10)) ((B45 v1).bind fun v4=>(A8w (WorldScene.mk p1 v1 v4 [] [])).bind fun v5=>(B79).bind fun y1=>thenS ((C42 v5.before).bind fun v6=>loopL (B78 p1 p2 v5) (fun (x1:Unit)=> .inl ()) v6 ()) (fun _=>some (v5.after,0)) (fun r=>some r)))
def B2i (p1:Int):Option Int:=
  (cond (decide (p1≥4294967296)) (some ((p1.fdiv (2^ (min (32:Int).toNat (IntKind.bits .u64)))),32)) (some (p1,0))).bind fun y1=>(cond (decide (y1.1≥65536)) (some ((y1.1.fdiv (2^ (min (16:Int).toNat (IntKind.bits .u64)))),(w64 (y1.2+16)))) (some (y1.1,y1.2))).bind fun y2=>cond (decide (y2.1≥256)) ((C87 (ByteArray.mk #[0,1,2,2,3,3,3,3,4,4,4,4,4,4,4,4,5,5,5,5,5,5,5,5,5,5,5,5,5,5,5,5,6,6,6,6,6,6,6,6,6,6,6,6,6,6,6,6,6,6,6,6,6,6,6,6,6,6,6,6,6,6,6,6,7,7,7,7,7,7,7,7,7,7,7,7,7,7,7,7,7,7,7,7,7,7,7,7,7,7,7,7,7,7,7,7,7,7,7,7,7,7,7,7,7,7,7,7,7,7,7,7,7,7,7,7,7,7,7,7,7,7,7,7,7,7,7,7,8,8,8,8,8,8,8,8,8,8,8,8,8,8,8,8,8,8,8,8,8,8,8,8,8,8,8,8,8,8,8,8,8,8,8,8,8,8,8,8,8,8,8,8,8,8,8,8,8,8,8,8,8,8,8,8,8,8,8,8,8,8,8,8,8,8,8,8,8,8,8,8,8,8,8,8,8,8,8,8,8,8,8,8,8,8,8,8,8,8,8,8,8,8,8,8,8,8,8,8,8,8,8,8,8,8,8,8,8,8,8,8,8,8,8,8,8,8,8,8,8,8,8,8,8,8,8,8]) (IntKind.wrap .u8 (y2.1.fdiv (2^ (min (8:Int).toNat (IntKind.bits .u64)))))).bind fun v1=>some (w64 ((w64 (y2.2+8))+ (w64 v1)))) ((C87 (ByteArray.mk #[0,1,2,2,3,3,3,3,4,4,4,4,4,4,4,4,5,5,5,5,5,5,5,5,5,5,5,5,5,5,5,5,6,6,6,6,6,6,6,6,6,6,6,6,6,6,6,6,6,6,6,6,6,6,6,6,6,6,6,6,6,6,6,6,7,7,7,7,7,7,7,7,7,7,7,7,7,7,7,7,7,7,7,7,7,7,7,7,7,7,7,7,7,7,7,7,7,7,7,7,7,7,7,7,7,7,7,7,7,7,7,7,7,7,7,7,7,7,7,7,7,7,7,7,7,7,7,7,8,8,8,8,8,8,8,8,8,8,8,8,8,8,8,8,8,8,8,8,8,8,8,8,8,8,8,8,8,8,8,8,8,8,8,8,8,8,8,8,8,8,8,8,8,8,8,8,8,8,8,8,8,8,8,8,8,8,8,8,8,8,8,8,8,8,8,8,8,8,8,8,8,8,8,8,8,8,8,8,8,8,8,8,8,8,8,8,8,8,8,8,8,8,8,8,8,8,8,8,8,8,8,8,8,8,8,8,8,8,8,8,8,8,8,8,8,8,8,8,8,8,8,8,8,8,8,8]) (IntKind.wrap .u8 y2.1)).bind fun v2=>some (w64 (y2.2+ (w64 v2))))
def A9a (p1:Int):Option Int:=
  (B2i p1).bind fun v1=>some v1
def B4n (p1:Int)(p2:Int):Option Bool:=
  (A1b p1).bind fun v1=>((cond v1 (A1b p2) (some default))).bind fun v2=>some ((v1&& (!v2))||(decide (p1<p2)))
def A0e (p2:Int)(x2:(Int× (List Int))):Option (Stp (Int× (List Int)) (List Int)):=
  ((cond (decide (x2.1>p2)) (D1 x2.2 x2.1) (some default))).bind fun v1=>((cond (decide (x2.1>p2)) (D1 x2.2 (w64 (x2.1 - 1))) (some default))).bind fun v2=>((cond (decide (x2.1>p2)) (B4n v1 v2) (some default))).bind fun v3=>cond ((decide (x2.1>p2))&&v3) ((D1 x2.2 (w64 (x2.1 - 1))).bind fun v4=>(D1 x2.2 x2.1).bind fun v5=>(D1 x2.2 x2.1).bind fun v6=>(D1 (B6o x2.2 x2.1 v4) (w64 (x2.1 - 1))).bind fun v7=>some (.go ((w64 (x2.1 - 1)),(B6o (B6o x2.2 x2.1 v4) (w64 (x2.1 - 1)) v5)))) (some (.out x2.2))
def A0f (p2:Int)(p3:Int)(x1:(Int× (List Int))):Option (Stp (Int× (List Int)) (List Int)):=
  cond (decide (x1.1<p3)) ((K9 (A0e p2) (x1.1,x1.2)).bind fun y1=>some (.go ((w64 (x1.1+1)),y1))) (some (.out (x1.2)))
def A12 (p1:(List Int))(p2:Int)(p3:Int):Option (List Int):=
  K9 (A0f p2 p3) ((w64 (p2+1)),p1)
def A27 (p1:(List Int))(x1:(Int×Int×Int×Bool×Bool)):Option (Stp (Int×Int×Int×Bool×Bool) (List Int)):=
  cond (decide ((w64 (x1.2.1 - x1.1))≤12)) ((A12 p1 x1.1 x1.2.1).bind fun v1=>some (.out (v1))) (cond (x1.2.2.1==0) (none) ((cond (!x1.2.2.2.1) (none) (some ())).bind fun _=>none))
def A30 (p1:(List Int))(p2:Int)(p3:Int)(p4:Int):Option (List Int):=
  K9 (A27 p1) (p2,p3,p4,true,true)
def A4o (p1:(List Int)):Option (List Int):=
  (A9a (IntKind.wrap .u64 (p1.length:Int))).bind fun v1=>(A30 p1 0 (p1.length:Int) v1).bind fun v2=>some v2
def A0g (p1:Int)(x2:Int):Option (Stp Int Unit):=
  ((cond (decide (x2>p1)) ((none:Option Unit)) (some default))).bind fun v1=>cond ((decide (x2>p1))&&false) (none) (some (.out ()))
def A0h (p1:Int)(p2:Int)(x1:Int):Option (Stp Int Unit):=
  cond (decide (x1<p2)) ((K9 (A0g p1) x1).bind fun _=>some (.go (w64 (x1+1)))) (some (.out (())))
def A13 (p1:Int)(p2:Int):Option Unit:=
  K9 (A0h p1 p2) (w64 (p1+1))
def A28 (x1:(Int×Int×Int×Bool×Bool)):Option (Stp (Int×Int×Int×Bool×Bool) Unit):=
  cond (decide ((w64 (x1.2.1 - x1.1))≤12)) ((A13 x1.1 x1.2.1).bind fun v1=>some (.out (()))) (cond (x1.2.2.1==0) (none) ((cond (!x1.2.2.2.1) (none) (some ())).bind fun _=>none))
def A31 (p1:Int)(p2:Int)(p3:Int):Option Unit:=
  K9 (A28) (p1,p2,p3,true,true)
def A4p:Option Unit:=
  (A9a (IntKind.wrap .u64 0)).bind fun v1=>(A31 0 0 v1).bind fun v2=>some ()
def B7a (p1:Map)(p2:Int)(p3:Int)(v1:Zone)(x2:((List Int)×Int)):Option (Stp ((List Int)×Int) (List Int)):=
  cond (decide (x2.2< (v1.Parts.length:Int))) ((D1 v1.Parts x2.2).bind fun v2=>((cond (v2.Lane_==p2) (D1 p1.Signals (w64 (v1.Signal_ - 1))) (some default))).bind fun v3=>((cond (v2.Lane_==p2) (B20 v3 p2 p3) (some default))).bind fun v4=>cond ((v2.Lane_==p2)&& (!v4)) ((A60 x2.1 [v2.From]).bind fun v5=>some (.go (v5,(w64 (x2.2+1))))) (some (.go (x2.1,(w64 (x2.2+1)))))) (some (.out x2.1))
def B7b (p1:Map)(p2:Int)(p3:Int)(x1:((List Int)×Int)):Option (Stp ((List Int)×Int) (List Int)):=
  cond (decide (x1.2< (p1.Zones.length:Int))) ((D1 p1.Zones x1.2).bind fun v1=>cond (v1.Signal_==0) (some (.go (x1.1,(w64 (x1.2+1))))) ((K9 (B7a p1 p2 p3 v1) (x1.1,0)).bind fun y2=>some (.go (y2,(w64 (x1.2+1)))))) (some (.out x1.1))
def C2b (p1:Map)(p2:Int)(p3:Int):Option (List Int):=
  (K9 (B7b p1 p2 p3) ([],0)).bind fun y1=>cond (List.isEmpty y1) ((A4p).bind fun v8=>some []) ((A4o y1).bind fun v6=>(B2z v6).bind fun v7=>some v7)
def C2c (p1:Map)(p2:Int)(p3:Int):Option (List Int):=
  ((cond (!(decide (p3<0))) (B4g p1 p2) (some default))).bind fun v1=>cond ((decide (p3<0))||(!v1)) (some []) ((C2b p1 p2 p3).bind fun v2=>some v2)
def A5z (p1:Int)(p2:Agent)(p3:Int):Option Int:=
  some (mm2 true 0 (mm2 false (w64 (p2.V+p1)) p3))
def B00 (p1:Int)(p2:Int):Option Int:=
  cond ((decide (p1<1))||(decide (p2<1))) (some 0) ((C8u .i64 (w64 ((mm2 false p1 1000000) - 1)) (mm2 false p2 1000000)).bind fun v1=>some (w64 ((w64 (v1* (mm2 false p1 1000000))) - (w64 ((mm2 false p2 1000000)* (w64 ((w64 (v1* (w64 (v1+1)))).tdiv 2)))))))
def A7b (p1:Int)(p2:Int)(p3:Int)(p4:Int)(p5:Int):Option Bool:=
  ((cond (decide (p1>p2)) (B00 p3 p4) (some default))).bind fun v1=>((cond ((decide (p1>p2))&& (decide ((w64 (p2+v1))<p1))) (B00 p5 p4) (some default))).bind fun v2=>some (((decide (p1>p2))&& (decide ((w64 (p2+v1))<p1)))&& (decide ((w64 ((w64 (p2+p5))+v2))≥p1)))
def R4 (p1:(List Int))(p2:Int)(p3:Int)(p4:Int)(p5:Int)(x1:Int):Option (Stp Int (Sum Unit Int)):=
  cond (decide (x1< (p1.length:Int))) ((D1 p1 x1).bind fun v1=>(A7b v1 p2 p3 p4 p5).bind fun v2=>cond v2 (some (.out (.inr x1))) (some (.go (w64 (x1+1))))) (some (.out (.inl ())))
def T9 (p1:(List Int))(p2:Int)(p3:Int)(p4:Int)(p5:Int):Option Int:=
  thenS (K9 (R4 p1 p2 p3 p4 p5) 0) (fun _=>some (-1)) (fun r=>some r)
def R5 (p1:(List Int))(p2:Int)(p3:Int)(p4:Int)(p5:Int):Option Bool:=
  (T9 p1 p2 p3 p4 p5).bind fun v1=>some (decide (v1≥0))
def B8v (p1:(List Int))(p2:Int)(p3:Int)(p4:Int)(p5:Int):Option Bool:=
  (R5 p1 p2 p3 p5 p4).bind fun v1=>some (!v1)
def B5f (p2:Agent)(v1:(Int×Int))(v3:(Int×Int×Int))(v5:(List Int))(x1:Int):Option (Stp Int Int):=
  ((cond (decide (x1>(w64 (0 - v3.2.2)))) (A5z x1 p2 v3.1) (some default))).bind fun v6=>((cond (decide (x1>(w64 (0 - v3.2.2)))) (B8v v5 v1.2 p2.V v6 v3.2.2) (some default))).bind fun v7=>cond ((decide (x1>(w64 (0 - v3.2.2))))&& (!v7)) (some (.go (w64 (x1 - 1)))) (some (.out x1))
def B9y (p1:Map)(p2:Agent)(p3:Int)(p4:Int):Option Agent:=
  (B4a p1 p2).bind fun v1=>(D1 p1.Lanes v1.1).bind fun v2=>(A3i v2.Kind).bind fun v3=>((cond p2.Obey (A6z p1 v1.1) (some default))).bind fun v4=>(cond (p2.Obey&& (decide (v1.2≤v4))) ((C2c p1 v1.1 p3).bind fun v5=>(K9 (B5f p2 v1 v3 v5) (mm2 true (w64 (0 - v3.2.2)) (mm2 false p4 v3.2.1))).bind fun y2=>some y2) (some (mm2 true (w64 (0 - v3.2.2)) (mm2 false p4 v3.2.1)))).bind fun y1=>(A5z y1 p2 v3.1).bind fun v8=>(B4b p1 (Agent.mk p2.Route (w64 (p2.S+v8)) v8 p2.Len p2.Begin p2.Obey p2.Gone)).bind fun v9=>some (Agent.mk p2.Route (w64 (p2.S+v8)) v8 p2.Len p2.Begin p2.Obey v9)
def B9z (p1:Map)(p2:State)(p3:Int)(p4:Int):Option Agent:=
  cond ((decide (p3<0))||(decide (p3≥(p2.Agents.length:Int)))) (some (Agent.mk [] 0 0 0 0 false false)) ((D1 p2.Agents p3).bind fun v1=>(A4i v1).bind fun v2=>(A4s p2 p3).bind fun v3=>((cond (!(!v3)) (A84 p1 p2) (some default))).bind fun v4=>cond ((!v3)||(v4 !=0)) (some v2) ((B9y p1 v2 p2.Tick p4).bind fun v5=>some v5))
def B1p (p1:State)(x1:(Int×State)):Option (Stp (Int×State) State):=
  cond (decide (x1.1< (p1.Agents.length:Int))) ((D1 p1.Agents x1.1).bind fun v2=>(A4i v2).bind fun v3=>(A60 x1.2.Agents [v3]).bind fun v4=>some (.go ((w64 (x1.1+1)),(State.mk x1.2.Tick v4 x1.2.In)))) (some (.out x1.2))
def B5g (p1:State):Option State:=
  (A26 p1.In).bind fun v1=>(K9 (B1p p1) (0,(State.mk p1.Tick [] v1))).bind fun y1=>some y1
def A3c (p1:WorldScene)(p2:Int)(p3:Int):Option (Int×Bool):=
  (D1 p1.before.Agents p2).bind fun v1=>(A2z v1.Route p3).bind fun v2=>cond (decide (v2<0)) (some (0,false)) ((A6w p1.m v1.Route).bind fun v3=>(D1 v3 v2).bind fun v4=>some (v4,true))
def A4k (p1:WorldScene)(p2:Int)(p3:Int):Option Stay:=
  (F5 p1.after.In (Stay.mk p2 p3 0 0)).bind fun v1=>(D1 p1.after.In v1.1).bind fun v2=>some v2
def B4o (p1:Map)(p2:State)(p3:(List Int))(v2:State)(y2:(List Agent))(y5:(List Stay))(a1:(Int×Int))(x6:(Int× (List Crash))):Option (Stp (Int× (List Crash)) (List Crash)):=
  cond (decide (x6.1< (p1.Zones.length:Int))) ((A3b (WorldScene.mk p1 p2 (State.mk v2.Tick y2 y5) p3 x6.2) a1.1 a1.2 x6.1).bind fun v28=>cond (!v28) (some (.go ((w64 (x6.1+1)),x6.2))) ((A4k (WorldScene.mk p1 p2 (State.mk v2.Tick y2 y5) p3 x6.2) a1.1 x6.1).bind fun v29=>(A4k (WorldScene.mk p1 p2 (State.mk v2.Tick y2 y5) p3 x6.2) a1.2 x6.1).bind fun v30=>(A1a v29.Rank v30.Rank).bind fun v31=>(A4t v30.Since v29.Since).bind fun v32=>(A9x [v31,v32]).bind fun v33=>(cond (v33==(-1)) (some [a1.1]) (cond (v33==1) (some [a1.2]) (some [a1.1,a1.2]))).bind fun y17=>(A60 x6.2 [(Crash.mk p2.Tick a1.1 a1.2 (-1) x6.1 y17)]).bind fun v34=>some (.go ((w64 (x6.1+1)),v34)))) (some (.out x6.2))
def B4p (p1:Map)(p2:State)(p3:(List Int))(v2:State)(y2:(List Agent))(y5:(List Stay))(a1:(Int×Int))(y12:(List Crash)):Option (List Crash):=
  (K9 (B4o p1 p2 p3 v2 y2 y5 a1) (0,y12)).bind fun y16=>some y16
def B4q (p1:Map)(p2:State)(p3:(List Int))(v2:State)(y2:(List Agent))(y5:(List Stay))(x4:(List Crash))(a1:(Int×Int))(x5:Int):Option (Stp Int (Sum Unit (List Crash))):=
  cond (decide (x5< (p1.Lanes.length:Int))) ((A3c (WorldScene.mk p1 p2 (State.mk v2.Tick y2 y5) p3 x4) a1.1 x5).bind fun v13=>(A3c (WorldScene.mk p1 p2 (State.mk v2.Tick y2 y5) p3 x4) a1.2 x5).bind fun v14=>cond ((!v13.2)||(!v14.2)) (some (.go (w64 (x5+1)))) ((D1 p2.Agents a1.1).bind fun v15=>(D1 p2.Agents a1.2).bind fun v16=>(cond (decide ((w64 (v15.S - v13.1))< (w64 (v16.S - v14.1)))) (some (v14.1,v13.1,a1.2,a1.1)) (some (v13.1,v14.1,a1.1,a1.2))).bind fun y14=>(D1 y2 y14.2.2.1).bind fun v17=>(A2m v17).bind fun v18=>(A1c v18 y14.1).bind fun v19=>(D1 y2 y14.2.2.2).bind fun v20=>(A2m v20).bind fun v21=>(A1c v21 y14.2.1).bind fun v22=>(D1 p2.Agents y14.2.2.2).bind fun v23=>(A2m v23).bind fun v24=>(A1c v24 y14.2.1).bind fun v25=>(A6z p1 x5).bind fun v26=>cond (((((decide (v19.to≥0))&& (decide (v22.to≥0)))&& (decide (v25.from_≤v26)))&& (decide (v19.from_≤v26)))&& (decide (v22.to≥v19.from_))) ((A60 x4 [(Crash.mk p2.Tick a1.1 a1.2 x5 (-1) [y14.2.2.2])]).bind fun v27=>some (.out (.inr v27))) (some (.go (w64 (x5+1)))))) (some (.out (.inl ())))
def B5h (p1:Map)(p2:State)(p3:(List Int))(v2:State)(y2:(List Agent))(y5:(List Stay))(x4:(List Crash))(a1:(Int×Int)):Option (List Crash):=
  thenS (K9 (B4q p1 p2 p3 v2 y2 y5 x4 a1) 0) (fun _=>some x4) (fun r=>some r)
def B5i (p1:Map)(p2:State)(p3:(List Int))(v2:State)(y2:(List Agent))(y5:(List Stay))(x4:(List Crash))(a1:(Int×Int)):Option (Stp (List Crash) (List Crash)):=
  (B5h p1 p2 p3 v2 y2 y5 x4 a1).bind fun y12=>(B4p p1 p2 p3 v2 y2 y5 a1 y12).bind fun y15=>some (.go y15)
def B5j:Option Unit:=
  some ()
def B5k (p1:Map)(p2:State)(p3:(List Int))(v2:State)(y2:(List Agent))(y5:(List Stay)):Option (List Crash):=
  (B5j).bind fun y10=>((C42 p2).bind fun v12=>loopL (B5i p1 p2 p3 v2 y2 y5) (fun (x4:(List Crash))=>x4) v12 []).bind fun y11=>some y11
def B5l (p1:Map)(p2:State)(p3:(List Int))(v2:State)(y2:(List Agent))(x2:(Int× (List Stay)))(v6:Agent)(x3:(Int× (List Stay))):Option (Stp (Int× (List Stay)) (List Stay)):=
  cond (decide (x3.1< (p1.Zones.length:Int))) ((Q8 (WorldScene.mk p1 p2 (State.mk v2.Tick y2 x3.2) p3 []) x2.1 x3.1).bind fun v7=>cond (!v7) (some (.go ((w64 (x3.1+1)),x3.2))) ((F5 p2.In (Stay.mk x2.1 x3.1 p2.Tick 0)).bind fun v8=>(cond v8.2 ((D1 p2.In v8.1).bind fun v9=>some v9) ((B4k p1 v6 x3.1 p2.Tick).bind fun v10=>some (Stay.mk x2.1 x3.1 p2.Tick v10))).bind fun y8=>(A60 x3.2 [y8]).bind fun v11=>some (.go ((w64 (x3.1+1)),v11)))) (some (.out x3.2))
def B5m (p1:Map)(p2:State)(p3:(List Int))(v2:State)(y2:(List Agent))(x2:(Int× (List Stay))):Option (Stp (Int× (List Stay)) (List Stay)):=
  cond (decide (x2.1< (p2.Agents.length:Int))) ((D1 p2.Agents x2.1).bind fun v6=>(K9 (B5l p1 p2 p3 v2 y2 x2 v6) (0,x2.2)).bind fun y7=>some (.go ((w64 (x2.1+1)),y7))) (some (.out x2.2))
def B5n (p1:Map)(p2:State)(p3:(List Int))(v2:State)(y2:(List Agent)):Option (List Stay):=
  (K9 (B5m p1 p2 p3 v2 y2) (0,[])).bind fun y6=>some y6
def B5o (p1:Map)(p2:State)(p3:(List Int))(x1:(Int× (List Agent))):Option (Stp (Int× (List Agent)) (List Agent)):=
  cond (decide (x1.1< (p2.Agents.length:Int))) ((cond (decide (x1.1< (p3.length:Int))) ((D1 p3 x1.1).bind fun v3=>some v3) (some 0)).bind fun y4=>(B9z p1 p2 x1.1 y4).bind fun v4=>(D1 x1.2 x1.1).bind fun v5=>some (.go ((w64 (x1.1+1)),(B6o x1.2 x1.1 v4)))) (some (.out x1.2))
def B5p (p1:Map)(p2:State)(p3:(List Int))(v2:State):Option (List Agent):=
  (K9 (B5o p1 p2 p3) (0,v2.Agents)).bind fun y3=>some y3
def C00 (p1:Map)(p2:State)(p3:(List Int)):Option (State× (List Crash)×Int):=
  (A84 p1 p2).bind fun v1=>cond (v1 !=0) (some ((State.mk 0 [] []),[],v1)) (cond (decide (p2.Tick≥1099511627776)) (some ((State.mk 0 [] []),[],2)) ((B5g p2).bind fun v2=>((B5p p1 p2 p3 v2).bind fun y2=>(B5n p1 p2 p3 v2 y2).bind fun y5=>(B5k p1 p2 p3 v2 y2 y5).bind fun y9=>some (y2,y5,y9)).bind fun y1=>some ((State.mk (w64 (v2.Tick+1)) y1.1 y1.2.1),y1.2.2,0)))
def B21:Option Bool:=
  (C29).bind fun v1=>(B1y 0 10000 1000).bind fun v2=>(B1y 1 46000 1000).bind fun v3=>(C2a v1 [v2,v3]).bind fun v4=>cond (((v4.2 !=0)||((v4.1.In.length:Int) !=0))||((v4.1.Agents.length:Int) !=2)) (some false) ((C00 v1 v4.1 [50,(-90)]).bind fun v5=>((cond (((v5.2.2==0)&& ((v5.2.1.length:Int)==0))&& ((v5.1.Agents.length:Int)==2)) (D1 v5.1.Agents 0) (some default))).bind fun v6=>((cond ((((v5.2.2==0)&& ((v5.2.1.length:Int)==0))&& ((v5.1.Agents.length:Int)==2))&& (v6.S==11030)) (D1 v5.1.Agents 1) (some default))).bind fun v7=>((cond (((((v5.2.2==0)&& ((v5.2.1.length:Int)==0))&& ((v5.1.Agents.length:Int)==2))&& (v6.S==11030))&& (v7.V==910)) (B00 100 30) (some default))).bind fun v8=>some ((((((v5.2.2==0)&& ((v5.2.1.length:Int)==0))&& ((v5.1.Agents.length:Int)==2))&& (v6.S==11030))&& (v7.V==910))&& (v8==120)))
instance law04_awake_le:Le (B21) (A1l):=by unfold B21 A1l;repeat' first|infer_instance|with_reducible refine Le.bind (h:= ?_) (hf:=fun _=> ?_)|with_reducible refine Le.cond (h:= ?_) (h':= ?_)|with_reducible refine Le.thenS (h:= ?_) (hf:=fun _=> ?_) (hg:=fun _=> ?_)
end Go.Abs.World
namespace Go.Abs.World
open Go Go.Abs
end Go.Abs.World
namespace Go.Abs.World
open Go Go.Abs
end Go.Abs.World
namespace Go.Abs.World
open Go Go.Abs
end Go.Abs.World
namespace Go.Abs.World
open Go Go.Abs
end Go.Abs.World
namespace Go.Abs.World
open Go Go.Abs
end Go.Abs.World
namespace Go.Abs.World
open Go Go.Abs
/-! ### Loops that look for the first error -/
def A9b {α β:Type}(g:Nat→α→Option β):Nat→List α→Option β
  |_,[]=>none
  |i,a::r=>match g i a with
   |some e=>some e
   |none=>A9b g (i+1) r
def outE {β:Type}:Option β→Sum Unit β
  |some e=> .inr e
  |none=> .inl ()
theorem C43 {α β:Type}(l:List α)(F:Int→Option (Stp Int (Sum Unit β)))(g:Nat→α→Option β)(hF: ∀(i:Nat) a,l[i]? =some a→F (i:Int)=some (match g i a with|some e=> .out (.inr e)|none=> .go ((i+1:Nat):Int)))(h0:F (l.length:Int)=some (.out (.inl ()))):
    loop F 0=some (outE (A9b g 0 l)):=by
  have key: ∀(r:List α) (i:Nat),l.drop i=r→i≤l.length→loop F (i:Int)=some (outE (A9b g i r)):=by
    intro r
    induction r with
    |nil=>
     intro i hi hil
     have:i=l.length:=by have:=List.drop_eq_nil_iff.1 hi;omega
     subst this
     exact C0s h0
    |cons a r ih=>
     intro i hi hil
     have hlt:i<l.length:=by
       rcases Nat.lt_or_ge i l.length with q|q
       ·exact q
       ·rw [List.drop_eq_nil_of_le q]at hi;cases hi
     have ha:l[i]? =some a:=by have:=congrArg (fun z=>z[0]?) hi;simpa using this
     have hr:l.drop (i+1)=r:=by have:=congrArg (fun z=>z.drop 1) hi;simpa using this
     have hs:=hF i a ha
     unfold A9b
     cases hg:g i a with
     |some e=>rw [hg]at hs;exact C0s hs
     |none=>rw [hg]at hs;rw [C7p hs];exact ih (i+1) hr (by omega)
  have:=key l 0 rfl (by omega)
  exact this
theorem firstE_none {α β:Type}{g:Nat→α→Option β}: ∀{l:List α} {i:Nat},A9b g i l=none↔∀(j:Nat) a,l[j]? =some a→g (i+j) a=none
  | [],i=>by simp [A9b]
  |a::r,i=>by
   unfold A9b
   cases h:g i a with
   |some e=>
    constructor
    ·intro h';cases h'
    ·intro h';have:=h' 0 a rfl;rw [Nat.add_zero,h]at this;cases this
   |none=>
    dsimp only
    rw [firstE_none (l:=r)]
    constructor
    ·intro h' j b hj
     cases j with
     |zero=>cases hj;exact h
     |succ j=>have:=h' j b hj;rwa [show i+1+j=i+ (j+1) by omega]at this
    ·intro h' j b hj
     have:=h' (j+1) b hj
     rwa [show i+ (j+1)=i+1+j by omega]at this
/-! ### Numbers -/
end Go.Abs.World
namespace Go.Abs.World
open Go Go.Abs
theorem C5y {α:Type}{l:List α}{i:Nat}{a:α}(h:l[i]? =some a):D1 l (i:Int)=some a:=by
  unfold D1;rw [if_pos (by omega),Int.toNat_natCast];exact h
theorem C9e {α:Type}{l:List α}{i:Nat}{a:α}(h:l[i]? =some a):i<l.length:=(List.getElem?_eq_some_iff.1 h).1
end Go.Abs.World
namespace Go.Abs.World
open Go Go.Abs
/-- The lists of a map are of bearable lengths. -/
structure Bear (m:Map):Prop where
  lanes:m.Lanes.length≤1000000
  pts: ∀l∈m.Lanes,l.Curve_.Pts.length≤1000000∧l.Next.length≤1000000
end Go.Abs.World
namespace Go.Abs.World
open Go Go.Abs
end Go.Abs.World
namespace Go.Abs.World
open Go Go.Abs
end Go.Abs.World
namespace Go.Abs.World
open Go Go.Abs
end Go.Abs.World
namespace Go.Abs.World
open Go Go.Abs
end Go.Abs.World
namespace Go.Abs.World
open Go Go.Abs
end Go.Abs.World
namespace Go.Abs.World
open Go Go.Abs
end Go.Abs.World
namespace Go.Abs.World
open Go Go.Abs
end Go.Abs.World
namespace Go.Abs.World
open Go Go.Abs
structure BearS (m:Map):Prop where
  many:m.Signals.length≤1000000
  phases: ∀s∈m.Signals,s.Phases.length≤1000000∧∀p∈s.Phases,p.Green.length≤1000000
end Go.Abs.World
namespace Go.Abs.World
open Go Go.Abs
end Go.Abs.World
namespace Go.Abs.World
open Go Go.Abs
end Go.Abs.World
/-! Loops over lists, as functions on lists. -/
namespace Go.Abs
open Go
section
variable {α β σ S τ:Type}
end
theorem C9f {i:Nat}{n:Nat}(h:i<n):decide ((i:Int)< (n:Int))=true:=decide_eq_true (by omega)
theorem C82 (n:Nat):decide ((n:Int)< (n:Int))=false:=decide_eq_false (by omega)
theorem C5z {i:Nat}{n:Nat}(h:i<n)(hn:n≤1000000000000):w64 ((i:Int)+1)=((i+1:Nat):Int):=by rw [A1x (by omega)];omega
end Go.Abs
namespace Go.Abs.World
open Go Go.Abs
structure BearZ (m:Map):Prop where
  many:m.Zones.length≤1000000
  parts: ∀z∈m.Zones,z.Parts.length≤1000000
end Go.Abs.World
namespace Go.Abs.World
open Go Go.Abs
structure BearW (m:Map):Prop where
  many:m.Works.length≤1000000
end Go.Abs.World
namespace Go.Abs.World
open Go Go.Abs
/-- All lists of a map are of bearable lengths. -/
structure BearM (m:Map):Prop where
  toBear:Bear m
  toBearS:BearS m
  toBearZ:BearZ m
  toBearW:BearW m
theorem BearM.lanes {m:Map}(B:BearM m):m.Lanes.length≤1000000:=B.toBear.lanes
end Go.Abs.World
namespace Go.Abs.World
open Go Go.Abs
section
variable {m:Map}
end
end Go.Abs.World
namespace Go.Abs.World
open Go Go.Abs
end Go.Abs.World
namespace Go.Abs.World
open Go Go.Abs
end Go.Abs.World
namespace Go.Abs.World
open Go Go.Abs
end Go.Abs.World
namespace Go.Abs.World
open Go Go.Abs
end Go.Abs.World
namespace Go.Abs.World
open Go Go.Abs
theorem C60:A1l=some true:=law04_awake_le _ (by decide+kernel)
end Go.Abs.World
namespace Go.Abs.World
open Go Go.Abs
end Go.Abs.World
namespace Go.Abs.World
open Go Go.Abs
theorem B1q (n:Int){m:Int}(hm:0<m):0≤n % m∧n % m<m:=⟨Int.emod_nonneg n (by omega),Int.emod_lt_of_pos n hm⟩
theorem B8w {n m:Int}(hm:0<m):n % m=if n.tmod m<0 then n.tmod m+m else n.tmod m:=by
  have a:=Int.emod_nonneg n (show m≠0 by omega)
  have b:=Int.emod_lt_of_pos n hm
  rw [Int.tmod_eq_emod]
  by_cases q:0≤n∨m ∣ n
  ·rw [if_pos q,if_neg (by omega)];omega
  ·rw [if_neg q]
   have:n % m≠0:=fun e=>q (.inr (Int.dvd_of_emod_eq_zero e))
   rw [if_pos (by omega)];omega
end Go.Abs.World
/-! The way to stop. -/
namespace Go.Abs.World
open Go Go.Abs
end Go.Abs.World
/-! Marks of speed and place; which states are small. -/
namespace Go.Abs.World
open Go Go.Abs
structure SmallS (s:State):Prop where
  agents:s.Agents.length≤10
  ins:s.In.length≤20
  routes: ∀a∈s.Agents,a.Route.length≤10
theorem C61 (s:State): ∃b,A3v s=some b∧(b=true→SmallS s):=by
  unfold A3v
  by_cases h:10<s.Agents.length∨20<s.In.length
  ·rw [show (decide ((s.Agents.length:Int)>10)||decide ((s.In.length:Int)>20))=true by simp only [Bool.or_eq_true,decide_eq_true_eq];omega]
   exact ⟨false,rfl,nofun⟩
  ·rw [show (decide ((s.Agents.length:Int)>10)||decide ((s.In.length:Int)>20))=false by simp only [Bool.or_eq_false_iff,decide_eq_false_iff_not];omega,cond_false]
   have hk:=C43 s.Agents (Z0 s) (fun _ a=>if 10<a.Route.length then some false else none) (fun i a ha=>by
     have hi:=C9e ha
     unfold Z0
     rw [C9f hi,C5y ha,cond_true,Option.bind_some]
     by_cases q:10<a.Route.length
     ·rw [if_pos q,decide_eq_true (show (a.Route.length:Int)>10 by omega)];rfl
     ·rw [if_neg q,decide_eq_false (show ¬(a.Route.length:Int)>10 by omega),cond_false,C5z hi (by omega)]) (by unfold Z0;rw [C82];rfl)
   rw [hk]
   cases hf:A9b (fun _ (a:Agent)=>if 10<a.Route.length then some false else none) 0 s.Agents with
   |some b=>
    refine ⟨b,rfl,fun hb=> ?_⟩
    subst hb
    exfalso
    have: ∀(l:List Agent) (i:Nat),A9b (fun _ (a:Agent)=>if 10<a.Route.length then some false else none) i l≠some true:=by
      intro l
      induction l with
      |nil=>intro i h;cases h
      |cons a l ih=>
       intro i h
       unfold A9b at h
       by_cases q:10<a.Route.length
       ·rw [if_pos q]at h;cases h
       ·rw [if_neg q]at h;exact ih _ h
    exact this _ _ hf
   |none=>
    refine ⟨true,rfl,fun _=>⟨by omega,by omega,fun a ha=> ?_⟩⟩
    obtain ⟨j,hj⟩:=List.getElem?_of_mem ha
    have:=firstE_none.1 hf j a hj
    by_cases q:10<a.Route.length
    ·rw [if_pos q]at this;cases this
    ·omega
theorem C6k {n k:Int}(hk:0<k)(hk2:k≤1000000):A5s n k=some (n % k):=by
  have h1:=B8w (n:=n) hk
  have a:=B1q n hk
  have b: -k≤n.tmod k∧n.tmod k<k:=by
    have:=Int.tmod_lt_of_pos n hk
    split at h1<;>omega
  unfold A5s C0p
  rw [if_neg (by omega),Option.bind_some,A1x (by omega),if_neg (by omega),Option.bind_some]
  congr 1
  rw [h1]
  by_cases q:n.tmod k<0
  ·rw [if_pos q,Int.tmod_eq_of_lt (by omega) (by omega)]
  ·rw [if_neg q,Int.tmod_eq_emod_of_nonneg (by omega),Int.add_emod_right]
   exact Int.emod_eq_of_lt (by omega) (by omega)
theorem C44 {n k:Int}(hk:0<k)(hk2:k≤1000000):A5u n k=some (n % k):=by
  have h1:=B8w (n:=n) hk
  have a:=B1q n hk
  unfold A5u C0p
  rw [if_neg (by omega),Option.bind_some]
  by_cases q:n.tmod k<0
  ·rw [if_pos q]at h1
   rw [decide_eq_true q,cond_true,A1x (by omega),← h1]
  ·rw [if_neg q]at h1
   rw [decide_eq_false q,cond_false,← h1]
/-- The vehicle, if it can be measured. -/
def C16 (s:State):Option Agent:=match s.Agents with
  | []=>none
  |a::_=>if 0≤a.V∧a.V≤1099511627776∧0≤a.S∧a.S≤1099511627776 then some a else none
theorem B66 (s:State): ∃a,A0o s=some (a,(C16 s).isSome)∧((C16 s).isSome=true→C16 s=some a):=by
  unfold A0o C16
  cases s.Agents with
  |nil=>exact ⟨_,rfl,nofun⟩
  |cons a l=>
   rw [show (((a::l).length:Int)==0)=false by simp;omega,cond_false]
   simp only [C7q,B9m]
   refine ⟨a,?_,?_⟩
   ·show some (a,_)=_
    congr 2
    by_cases q:0≤a.V∧a.V≤1099511627776∧0≤a.S∧a.S≤1099511627776
    ·rw [if_pos q];simp only [Option.isSome_some,Bool.and_eq_true,decide_eq_true_eq];omega
    ·rw [if_neg q];simp only [Option.isSome_none,Bool.and_eq_false_iff,decide_eq_false_iff_not];omega
   ·split
    ·exact fun _=>rfl
    ·exact nofun
theorem B4r (s:State):Z1 s=some (C16 s).isSome:=by
  unfold Z1 C16
  cases s.Agents with
  |nil=>rfl
  |cons a l=>
   rw [show (((a::l).length:Int)==0)=false by simp;omega,cond_false]
   show some _=_
   congr 1
   dsimp only
   by_cases q:0≤a.V∧a.V≤1099511627776∧0≤a.S∧a.S≤1099511627776
   ·rw [if_pos q];simp only [Option.isSome_some,Bool.and_eq_true,decide_eq_true_eq];omega
   ·rw [if_neg q];simp only [Option.isSome_none,Bool.and_eq_false_iff,decide_eq_false_iff_not];omega
def C17 (s:State)(n:Int):Mark:=match C16 s with
  |some a=>⟨s.Tick,max 0 (a.V+n % 7 - 6),a.V+n % 7⟩
  |none=>⟨0,0,0⟩
def C9k (s:State)(n:Int):Mark:=match C16 s with
  |some a=>⟨s.Tick,a.S+n % 401 - 400,a.S+n % 401⟩
  |none=>⟨0,0,0⟩
theorem B7c {s:State}{a:Agent}(h:C16 s=some a):0≤a.V∧a.V≤1099511627776∧0≤a.S∧a.S≤1099511627776∧D1 s.Agents 0=some a:=by
  unfold C16 at h
  split at h
  ·cases h
  ·rename_i x l hl
   split at h
   ·rename_i q
    cases h
    exact ⟨q.1,q.2.1,q.2.2.1,q.2.2.2,by rw [hl];rfl⟩
   ·cases h
theorem C62 (s:State)(n:Int):A4g s n=some (C17 s n):=by
  obtain ⟨a,h1,h2⟩:=B66 s
  unfold A4g C17
  rw [h1,Option.bind_some]
  cases q:C16 s with
  |none=>rfl
  |some b=>
   have:=h2 (by rw [q];rfl)
   rw [q]at this;cases this
   obtain ⟨b1,b2,b3,b4,_⟩:=B7c q
   have hm:=B1q n (m:=7) (by omega)
   show (cond (!true) _ _)=_
   rw [Bool.not_true,cond_false,C6k (by omega) (by omega),Option.bind_some,B9m]
   dsimp only
   rw [A1x (n:=a.V+n % 7) (by omega),A1x (n:=a.V+n % 7 - 3) (by omega),A1x (n:=a.V+n % 7 - 3 - 3) (by omega),A1x (n:=a.V+n % 7 - 3+3) (by omega)]
   congr 2<;>omega
theorem C9g (s:State)(n:Int):A7u s n=some (C9k s n):=by
  obtain ⟨a,h1,h2⟩:=B66 s
  unfold A7u C9k
  rw [h1,Option.bind_some]
  cases q:C16 s with
  |none=>rfl
  |some b=>
   have:=h2 (by rw [q];rfl)
   rw [q]at this;cases this
   obtain ⟨b1,b2,b3,b4,_⟩:=B7c q
   have hm:=B1q n (m:=401) (by omega)
   show (cond (!true) _ _)=_
   rw [Bool.not_true,cond_false,C6k (by omega) (by omega),Option.bind_some]
   dsimp only
   rw [A1x (n:=a.S+n % 401) (by omega),A1x (n:=a.S+n % 401 - 200) (by omega),A1x (n:=a.S+n % 401 - 200 - 200) (by omega),A1x (n:=a.S+n % 401 - 200+200) (by omega)]
   congr 2<;>omega
theorem C45 (s:State)(n:Int):A4h s n=some (C17 s n):=by
  unfold A4h C17
  rw [B4r,Option.bind_some]
  cases q:C16 s with
  |none=>rfl
  |some a=>
   obtain ⟨b1,b2,b3,b4,b5⟩:=B7c q
   have hm:=B1q n (m:=7) (by omega)
   show (cond (!true) _ _)=_
   rw [Bool.not_true,cond_false,b5,Option.bind_some,C44 (by omega) (by omega),Option.bind_some,B9m]
   dsimp only
   rw [A1x (n:=a.V+n % 7) (by omega),A1x (n:=a.V+n % 7 - 3) (by omega),A1x (n:=a.V+n % 7 - 3 - 3) (by omega),A1x (n:=a.V+n % 7 - 3+3) (by omega)]
   congr 2<;>omega
theorem C83 (s:State)(n:Int):A7v s n=some (C9k s n):=by
  unfold A7v C9k
  rw [B4r,Option.bind_some]
  cases q:C16 s with
  |none=>rfl
  |some a=>
   obtain ⟨b1,b2,b3,b4,b5⟩:=B7c q
   have hm:=B1q n (m:=401) (by omega)
   show (cond (!true) _ _)=_
   rw [Bool.not_true,cond_false,b5,Option.bind_some,C44 (by omega) (by omega),Option.bind_some]
   dsimp only
   rw [A1x (n:=a.S+n % 401) (by omega),A1x (n:=a.S+n % 401 - 200) (by omega),A1x (n:=a.S+n % 401 - 200 - 200) (by omega),A1x (n:=a.S+n % 401 - 200+200) (by omega)]
   congr 2<;>omega
theorem A7c (s:State)(n:Int):A19 s n=some true:=by
  obtain ⟨b,h1,_⟩:=C61 s
  unfold A19
  rw [h1,Option.bind_some,C60]
  cases b
  ·rfl
  ·rw [C62,C45,C9g,C83]
   simp
end Go.Abs.World
