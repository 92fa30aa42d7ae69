/-
  Plain facts on the functions: what they compute, and that the law holds of it.
-/
import Derived.Test.YtgjdiioennhoeaaGreatFns4
set_option maxRecDepth 100000
set_option linter.unusedVariables false
namespace Go.Abs.World
open Go Go.Abs
def B3w (p4:(List Int))(x1:(Int× (List Spot))):Option (Stp (Int× (List Spot)) (List Spot)):=
  cond (decide ((w64 (x1.1+1))< (p4.length:Int))) ((D0 p4 x1.1).bind fun v1=>(D0 p4 (w64 (x1.1+1))).bind fun v2=>(A83 x1.2 [(Spot.mk v1 v2)]).bind fun v3=>some (.go ((w64 (x1.1+2)),v3))) (some (.out x1.2))
instance kit_road_l1_le (p4:(List Int))(x1:(Int× (List Spot))):Le (B3w p4 x1) (A9c p4 x1):=by unfold B3w A9c;infer_instance
def B6j (p1:Int)(p2:Int)(p3:(List Int))(p4:(List Int)):Option Lane:=
  (N8 (B3w p4) (0,[])).bind fun y1=>cond (p1==3) (some (Lane.mk p1 (Curve.mk y1) 500 p2 p3)) (some (Lane.mk p1 (Curve.mk y1) 1500 p2 p3))
instance kit_road_le (p1:Int)(p2:Int)(p3:(List Int))(p4:(List Int)):Le (B6j p1 p2 p3 p4) (B4i p1 p2 p3 p4):=by unfold B6j B4i;infer_instance
def B4j:Option Map:=
  (B6j 1 1500 [] [0,0,100000,0]).bind fun v1=>(B6j 1 1500 [] [50000,(-50000),50000,50000]).bind fun v2=>some (Map.mk 0 [v1,v2] [(Zone.mk [(Part.mk 0 48000 52000 1),(Part.mk 1 48000 52000 0)] 0)] [] [])
instance kit_Cross_le:Le (B4j) (B1p):=by unfold B4j B1p;infer_instance
def A12 (p1:Int)(p2:Int)(p3:Int):Option Agent:=
  some (Agent.mk [p1] p2 p3 4000 0 false false)
instance law04_agent_le (p1:Int)(p2:Int)(p3:Int):Le (A12 p1 p2 p3) (A03 p1 p2 p3):=by unfold A12 A03;infer_instance
def A5c (p1:Int)(p2:Int):Option Int:=
  cond ((decide (p1<1))||(decide (p2<1))) (some 0) ((C9m .i64 (w64 ((mm2 false p1 1000000) - 1)) (mm2 false p2 1000000)).bind fun v1=>some (w64 ((w64 (v1* (mm2 false p1 1000000))) - (w64 ((mm2 false p2 1000000)* (w64 ((w64 (v1* (w64 (v1+1)))).tdiv 2)))))))
instance world_Stop_le (p1:Int)(p2:Int):Le (A5c p1 p2) (A3v p1 p2):=by unfold A5c A3v;infer_instance
def A9s (p1:Agent):Option Bool:=
  some ((((decide (p1.S≥0))&& (decide (p1.S≤1099511627776)))&& (decide (p1.Len≥0)))&& (decide (p1.Len≤1099511627776)))
instance world_sane_le (p1:Agent):Le (A9s p1) (A71 p1):=by unfold A9s A71;infer_instance
def Z2 (p1:Int)(p2:Int)(p3:Int):Option Bool:=
  some ((decide (p2≤p1))&& (decide (p1≤p3)))
instance roads_within_le (p1:Int)(p2:Int)(p3:Int):Le (Z2 p1 p2 p3) (W4 p1 p2 p3):=by unfold Z2 W4;infer_instance
def A4d (p1:RoadsCheck):Option Int:=
  (Z2 p1.Map_.Version 0 1099511627776).bind fun v1=>cond (!v1) (some 2) (cond ((p1.Map_.Lanes.length:Int)==0) (some 6) (cond ((((decide ((p1.Map_.Lanes.length:Int)>12))||(decide ((p1.Map_.Zones.length:Int)>12)))||(decide ((p1.Map_.Signals.length:Int)>4)))||(decide ((p1.Map_.Works.length:Int)>8))) (some 8) (some 0)))
instance roads_check_numbers_le (p1:RoadsCheck):Le (A4d p1) (A05 p1):=by unfold A4d A05;infer_instance
def A45 (p1:Int):Option (Int×Int×Int):=
  cond ((decide (p1<0))||(decide (p1≥4))) (some (0,0,0)) ((D0 ([(0,0,0),(2000,30,90),(1000,20,60),(300,100,300)]:List (Int×Int×Int)) p1).bind fun v1=>some (v1.1,v1.2.1,v1.2.2))
instance roads_Bounds_le (p1:Int):Le (A45 p1) (A20 p1):=by unfold A45 A20;infer_instance
def B0t (p1:(List Spot))(x1:Int):Option (Stp Int (Sum Unit Bool)):=
  cond (decide (x1< (p1.length:Int))) ((D0 p1 x1).bind fun v1=>cond ((decide ((mm2 false v1.X v1.Y)< (-16777216)))||(decide ((mm2 true v1.X v1.Y)>16777216))) (some (.out (.inr false))) (some (.go (w64 (x1+1))))) (some (.out (.inl ())))
instance curve_fair_l1_le (p1:(List Spot))(x1:Int):Le (B0t p1 x1) (A60 p1 x1):=by unfold B0t A60;infer_instance
def A5d (p1:(List Spot)):Option Bool:=
  thenS (N8 (B0t p1) 0) (fun _=>some true) (fun r=>some r)
instance curve_fair_le (p1:(List Spot)):Le (A5d p1) (A3w p1):=by unfold A5d A3w;infer_instance
def A5e (p1:Spot)(p2:Spot):Option CurveVector:=
  some (CurveVector.mk (w64 (p2.X - p1.X)) (w64 (p2.Y - p1.Y)))
instance curve_from_le (p1:Spot)(p2:Spot):Le (A5e p1 p2) (A3x p1 p2):=by unfold A5e A3x;infer_instance
def Z7 (p1:CurveVector)(p2:CurveVector):Option Int:=
  some (w64 ((w64 (p1.x*p2.x))+ (w64 (p1.y*p2.y))))
instance curve_vector_dot_le (p1:CurveVector)(p2:CurveVector):Le (Z7 p1 p2) (V3 p1 p2):=by unfold Z7 V3;infer_instance
def B0u (p1:Int)(x1:(Int×Int)):Option (Stp (Int×Int) Int):=
  cond (decide (x1.1<x1.2)) (cond (decide ((w64 ((w64 ((w64 (x1.1+x1.2)).tdiv 2))* (w64 ((w64 (x1.1+x1.2)).tdiv 2))))<p1)) (some (.go ((w64 ((w64 ((w64 (x1.1+x1.2)).tdiv 2))+1)),x1.2))) (some (.go (x1.1,(w64 ((w64 (x1.1+x1.2)).tdiv 2)))))) (some (.out x1.1))
instance curve_root_l1_le (p1:Int)(x1:(Int×Int)):Le (B0u p1 x1) (A63 p1 x1):=by unfold B0u A63;infer_instance
def B2n (p1:Int):Option (Int×Bool):=
  (N8 (B0u p1) (0,67108864)).bind fun y1=>some (y1,((w64 (y1*y1))==p1))
instance curve_root_le (p1:Int):Le (B2n p1) (A8w p1):=by unfold B2n A8w;infer_instance
def A9t (p1:Curve)(x1:(Int×CurveVector)):Option (Stp (Int×CurveVector) (Sum Unit Int)):=
  cond (decide (x1.1< (w64 ((p1.Pts.length:Int) - 1)))) ((D0 p1.Pts x1.1).bind fun v2=>(D0 p1.Pts (w64 (x1.1+1))).bind fun v3=>(A5e v2 v3).bind fun v4=>(Z7 v4 v4).bind fun v5=>(B2n v5).bind fun v6=>cond (!v6.2) (some (.out (.inr 3))) (cond ((decide (v6.1<1000))||(decide (v6.1>1048576))) (some (.out (.inr 2))) (((cond (decide (x1.1>0)) (Z7 x1.2 v4) (some default))).bind fun v7=>cond ((decide (x1.1>0))&& (decide (v7≤0))) (some (.out (.inr 12))) (some (.go ((w64 (x1.1+1)),v4)))))) (some (.out (.inl ())))
instance curve_Check_l1_le (p1:Curve)(x1:(Int×CurveVector)):Le (A9t p1 x1) (A4l p1 x1):=by unfold A9t A4l;repeat' first|infer_instance|with_reducible refine Le.bind (h:= ?_) (hf:=fun _=> ?_)|with_reducible refine Le.cond (h:= ?_) (h':= ?_)|with_reducible refine Le.thenS (h:= ?_) (hf:=fun _=> ?_) (hg:=fun _=> ?_)
def A7z (p1:Curve):Option Int:=
  cond (decide ((p1.Pts.length:Int)<2)) (some 6) (cond (decide ((p1.Pts.length:Int)>16)) (some 5) ((A5d p1.Pts).bind fun v1=>cond (!v1) (some 2) (thenS (N8 (A9t p1) (0,(CurveVector.mk 0 0))) (fun _=>some 0) (fun r=>some r))))
instance curve_Check_le (p1:Curve):Le (A7z p1) (A57 p1):=by unfold A7z A57;infer_instance
def A86 (p1:(List Int))(p3:Int)(x1:(Int×Int)):Option (Stp (Int×Int) (Sum Unit Bool)):=
  cond (decide (x1.2< (p1.length:Int))) ((D0 p1 x1.2).bind fun v1=>cond ((decide (v1<x1.1))||(decide (v1≥p3))) (some (.out (.inr false))) (some (.go ((w64 (v1+1)),(w64 (x1.2+1)))))) (some (.out (.inl ())))
instance roads_rising_l1_le (p1:(List Int))(p3:Int)(x1:(Int×Int)):Le (A86 p1 p3 x1) (A33 p1 p3 x1):=by unfold A86 A33;infer_instance
def A6n (p1:(List Int))(p2:Int)(p3:Int):Option Bool:=
  thenS (N8 (A86 p1 p3) (p2,0)) (fun _=>some true) (fun r=>some r)
instance roads_rising_le (p1:(List Int))(p2:Int)(p3:Int):Le (A6n p1 p2 p3) (A34 p1 p2 p3):=by unfold A6n A34;infer_instance
def A3j (p1:RoadsCheck)(x1:Int):Option (Stp Int (Sum Unit Int)):=
  cond (decide (x1< (p1.Map_.Lanes.length:Int))) ((D0 p1.Map_.Lanes x1).bind fun v1=>(A45 v1.Kind).bind fun v2=>cond (v2.1==0) (some (.out (.inr 4))) ((A7z v1.Curve_).bind fun v3=>cond (v3 !=0) (some (.out (.inr v3))) ((Z2 v1.Half 200 4000).bind fun v4=>((cond (!(!v4)) (Z2 v1.Limit 1 v2.1) (some default))).bind fun v5=>cond ((!v4)||(!v5)) (some (.out (.inr 2))) (cond (decide ((v1.Next.length:Int)>3)) (some (.out (.inr 8))) ((A6n v1.Next (w64 (x1+1)) (p1.Map_.Lanes.length:Int)).bind fun v6=>cond (!v6) (some (.out (.inr 11))) (some (.go (w64 (x1+1))))))))) (some (.out (.inl ())))
instance roads_check_lanes_l1_le (p1:RoadsCheck)(x1:Int):Le (A3j p1 x1) (Y4 p1 x1):=by unfold A3j Y4;repeat' first|infer_instance|with_reducible refine Le.bind (h:= ?_) (hf:=fun _=> ?_)|with_reducible refine Le.cond (h:= ?_) (h':= ?_)|with_reducible refine Le.thenS (h:= ?_) (hf:=fun _=> ?_) (hg:=fun _=> ?_)
def A6o (p1:RoadsCheck):Option Int:=
  thenS (N8 (A3j p1) 0) (fun _=>some 0) (fun r=>some r)
instance roads_check_lanes_le (p1:RoadsCheck):Le (A6o p1) (A1n p1):=by unfold A6o A1n;infer_instance
def A2o (p1:RoadsCheck)(v1:Lane)(v2:Spot)(x2:Int):Option (Stp Int (Sum Unit Int)):=
  cond (decide (x2< (v1.Next.length:Int))) ((D0 v1.Next x2).bind fun v3=>(D0 p1.Map_.Lanes v3).bind fun v4=>cond (v4.Kind !=v1.Kind) (some (.out (.inr 4))) ((D0 p1.Map_.Lanes v3).bind fun v5=>(D0 v5.Curve_.Pts 0).bind fun v6=>cond (!(v6.X==v2.X&& (v6.Y==v2.Y&&true))) (some (.out (.inr 3))) (some (.go (w64 (x2+1)))))) (some (.out (.inl ())))
instance roads_check_joints_l2_le (p1:RoadsCheck)(v1:Lane)(v2:Spot)(x2:Int):Le (A2o p1 v1 v2 x2) (W5 p1 v1 v2 x2):=by unfold A2o W5;repeat' first|infer_instance|with_reducible refine Le.bind (h:= ?_) (hf:=fun _=> ?_)|with_reducible refine Le.cond (h:= ?_) (h':= ?_)|with_reducible refine Le.thenS (h:= ?_) (hf:=fun _=> ?_) (hg:=fun _=> ?_)
def A2p (p1:RoadsCheck)(x1:Int):Option (Stp Int (Sum Unit Int)):=
  cond (decide (x1< (p1.Map_.Lanes.length:Int))) ((D0 p1.Map_.Lanes x1).bind fun v1=>(D0 v1.Curve_.Pts (w64 ((v1.Curve_.Pts.length:Int) - 1))).bind fun v2=>thenS (N8 (A2o p1 v1 v2) 0) (fun _=>some (.go (w64 (x1+1)))) (fun r=>some (.out (.inr r)))) (some (.out (.inl ())))
instance roads_check_joints_l1_le (p1:RoadsCheck)(x1:Int):Le (A2p p1 x1) (W6 p1 x1):=by unfold A2p W6;infer_instance
def A5f (p1:RoadsCheck):Option Int:=
  thenS (N8 (A2p p1) 0) (fun _=>some 0) (fun r=>some r)
instance roads_check_joints_le (p1:RoadsCheck):Le (A5f p1) (A0v p1):=by unfold A5f A0v;infer_instance
def A2q (p1:Phase):Option Bool:=
  (Z2 p1.Ticks 1 10000).bind fun v1=>some (!v1)
instance roads_check_signals_1_le (p1:Phase):Le (A2q p1) (W7 p1):=by unfold A2q W7;infer_instance
def K7 (p1:(List Phase))(x1:Int):Option (Stp Int (Sum Unit Int)):=
  cond (decide (x1< (p1.length:Int))) ((D0 p1 x1).bind fun v1=>(A2q v1).bind fun v2=>cond v2 (some (.out (.inr x1))) (some (.go (w64 (x1+1))))) (some (.out (.inl ())))
instance slices_IndexFunc_Phase_Phase_roads_check_signals_1_l1_le (p1:(List Phase))(x1:Int):Le (K7 p1 x1) (D6 p1 x1):=by unfold K7 D6;infer_instance
def M0 (p1:(List Phase)):Option Int:=
  thenS (N8 (K7 p1) 0) (fun _=>some (-1)) (fun r=>some r)
instance slices_IndexFunc_Phase_Phase_roads_check_signals_1_le (p1:(List Phase)):Le (M0 p1) (E6 p1):=by unfold M0 E6;infer_instance
def K8 (p1:(List Phase)):Option Bool:=
  (M0 p1).bind fun v1=>some (decide (v1≥0))
instance slices_ContainsFunc_Phase_Phase_roads_check_signals_1_le (p1:(List Phase)):Le (K8 p1) (D7 p1):=by unfold K8 D7;infer_instance
def A1u (p1:Phase)(p2:RoadsCheck):Option Bool:=
  (A6n p1.Green 0 (p2.Map_.Lanes.length:Int)).bind fun v1=>some (!v1)
instance roads_check_signals_2_b_le (p1:Phase)(p2:RoadsCheck):Le (A1u p1 p2) (U8 p1 p2):=by unfold A1u U8;infer_instance
def K5 (p1:(List Phase))(p2:RoadsCheck)(x1:Int):Option (Stp Int (Sum Unit Int)):=
  cond (decide (x1< (p1.length:Int))) ((D0 p1 x1).bind fun v1=>(A1u v1 p2).bind fun v2=>cond v2 (some (.out (.inr x1))) (some (.go (w64 (x1+1))))) (some (.out (.inl ())))
instance slices_IndexFunc_Phase_Phase_roads_check_signals_2b_l1_le (p1:(List Phase))(p2:RoadsCheck)(x1:Int):Le (K5 p1 p2 x1) (D3 p1 p2 x1):=by unfold K5 D3;infer_instance
def L7 (p1:(List Phase))(p2:RoadsCheck):Option Int:=
  thenS (N8 (K5 p1 p2) 0) (fun _=>some (-1)) (fun r=>some r)
instance slices_IndexFunc_Phase_Phase_roads_check_signals_2b_le (p1:(List Phase))(p2:RoadsCheck):Le (L7 p1 p2) (E3 p1 p2):=by unfold L7 E3;infer_instance
def K6 (p1:(List Phase))(p2:RoadsCheck):Option Bool:=
  (L7 p1 p2).bind fun v1=>some (decide (v1≥0))
instance slices_ContainsFunc_Phase_Phase_roads_check_signals_2b_le (p1:(List Phase))(p2:RoadsCheck):Le (K6 p1 p2) (D4 p1 p2):=by unfold K6 D4;infer_instance
def A29 (p1:RoadsCheck)(x1:Int):Option (Stp Int (Sum Unit Int)):=
  cond (decide (x1< (p1.Map_.Signals.length:Int))) ((D0 p1.Map_.Signals x1).bind fun v1=>cond ((v1.Phases.length:Int)==0) (some (.out (.inr 6))) (cond (decide ((v1.Phases.length:Int)>6)) (some (.out (.inr 8))) ((Z2 v1.Offset 0 1099511627776).bind fun v2=>cond (!v2) (some (.out (.inr 2))) ((K8 v1.Phases).bind fun v3=>cond v3 (some (.out (.inr 2))) ((K6 v1.Phases p1).bind fun v4=>cond v4 (some (.out (.inr 11))) (some (.go (w64 (x1+1))))))))) (some (.out (.inl ())))
instance roads_check_signals_l1_le (p1:RoadsCheck)(x1:Int):Le (A29 p1 x1) (V6 p1 x1):=by unfold A29 V6;repeat' first|infer_instance|with_reducible refine Le.bind (h:= ?_) (hf:=fun _=> ?_)|with_reducible refine Le.cond (h:= ?_) (h':= ?_)|with_reducible refine Le.thenS (h:= ?_) (hf:=fun _=> ?_) (hg:=fun _=> ?_)
def A4e (p1:RoadsCheck):Option Int:=
  thenS (N8 (A29 p1) 0) (fun _=>some 0) (fun r=>some r)
instance roads_check_signals_le (p1:RoadsCheck):Le (A4e p1) (A06 p1):=by unfold A4e A06;infer_instance
def B6k (pts:List Spot):Nat→Nat→Int→Option (List (Int×CurvePiece))
  |0,_,_=>some []
  |n+1,i,start=>(pts[i]?).bind fun p=>(pts[i+1]?).bind fun q=>(A5e p q).bind fun v=>(Z7 v v).bind fun d=>(B2n d).bind fun r=>
   (B6k pts n (i+1) (w64 (start+r.1))).bind fun l=>some (((i:Int),CurvePiece.mk p v r.1 start)::l)
instance piecesGo_le (pts:List Spot): ∀(n i:Nat) (s:Int),Le (B6k pts n i s) (A8j pts n i s)
  |0,i,s=>Le.refl _
  |n+1,i,s=>by
   rw [A8j,B6k]
   have:=fun i s=>piecesGo_le pts n i s
   infer_instance
def B7s (pts:List Spot):Option (List (Int×CurvePiece)):=if pts.length≤1000000 then B6k pts (pts.length - 1) 0 0 else none
instance piecesC_le (pts:List Spot):Le (B7s pts) (B6s pts):=by unfold B7s B6s;infer_instance
def A87 (x1:(List Int))(a1:(Int×CurvePiece)):Option (Stp (List Int) (List Int)):=
  (A83 x1 [a1.2.l]).bind fun v3=>some (.go v3)
instance curve_Pieces_l1_le (x1:(List Int))(a1:(Int×CurvePiece)):Le (A87 x1 a1) (A35 x1 a1):=by unfold A87 A35;infer_instance
def B2o (p1:Curve):Option (List Int):=
  (A7z p1).bind fun v1=>cond (v1 !=0) (some []) (((B7s p1.Pts).bind fun v2=>loopL (A87) (fun (x1:(List Int))=>x1) v2 []).bind fun y1=>some y1)
instance curve_Pieces_le (p1:Curve):Le (B2o p1) (A7p p1):=by unfold B2o A7p;infer_instance
def A88 (v1:(List Int))(x1:(Int×Int)):Option (Stp (Int×Int) Int):=
  cond (decide (x1.2< (v1.length:Int))) ((D0 v1 x1.2).bind fun v2=>some (.go ((w64 (x1.1+v2)),(w64 (x1.2+1))))) (some (.out x1.1))
instance curve_Length_l1_le (v1:(List Int))(x1:(Int×Int)):Le (A88 v1 x1) (A36 v1 x1):=by unfold A88 A36;infer_instance
def B2p (p1:Curve):Option Int:=
  (B2o p1).bind fun v1=>(N8 (A88 v1) (0,0)).bind fun y1=>some y1
instance curve_Length_le (p1:Curve):Le (B2p p1) (A7q p1):=by unfold B2p A7q;infer_instance
def A79 (p1:Map)(p2:Int):Option Int:=
  (D0 p1.Lanes p2).bind fun v1=>(B2p v1.Curve_).bind fun v2=>some v2
instance roads_long_le (p1:Map)(p2:Int):Le (A79 p1 p2) (A5p p1 p2):=by unfold A79 A5p;infer_instance
def A3k (p1:RoadsCheck)(v1:Zone)(x3:Int):Option (Stp Int (Sum Unit Int)):=
  cond (decide (x3< (v1.Parts.length:Int))) ((D0 v1.Parts x3).bind fun v5=>((cond (!((decide (v5.From<0))||(decide (v5.From≥v5.To)))) (A79 p1.Map_ v5.Lane_) (some default))).bind fun v6=>cond (((((decide (v5.From<0))||(decide (v5.From≥v5.To)))||(decide (v5.To>v6)))||(decide (v5.Rank<0)))||(decide (v5.Rank>100))) (some (.out (.inr 2))) (some (.go (w64 (x3+1))))) (some (.out (.inl ())))
instance roads_check_zones_l3_le (p1:RoadsCheck)(v1:Zone)(x3:Int):Le (A3k p1 v1 x3) (Y6 p1 v1 x3):=by unfold A3k Y6;repeat' first|infer_instance|with_reducible refine Le.bind (h:= ?_) (hf:=fun _=> ?_)|with_reducible refine Le.cond (h:= ?_) (h':= ?_)|with_reducible refine Le.thenS (h:= ?_) (hf:=fun _=> ?_) (hg:=fun _=> ?_)
def A3l (v1:Zone)(x2:((List Int)×Int)):Option (Stp ((List Int)×Int) (List Int)):=
  cond (decide (x2.2< (v1.Parts.length:Int))) ((D0 v1.Parts x2.2).bind fun v2=>(A83 x2.1 [v2.Lane_]).bind fun v3=>some (.go (v3,(w64 (x2.2+1))))) (some (.out x2.1))
instance roads_check_zones_l2_le (v1:Zone)(x2:((List Int)×Int)):Le (A3l v1 x2) (Y7 v1 x2):=by unfold A3l Y7;infer_instance
def A3m (p1:RoadsCheck)(x1:Int):Option (Stp Int (Sum Unit Int)):=
  cond (decide (x1< (p1.Map_.Zones.length:Int))) ((D0 p1.Map_.Zones x1).bind fun v1=>cond (decide ((v1.Parts.length:Int)<2)) (some (.out (.inr 6))) (cond (decide ((v1.Parts.length:Int)>6)) (some (.out (.inr 8))) (cond ((decide (v1.Signal_<0))||(decide (v1.Signal_>(p1.Map_.Signals.length:Int)))) (some (.out (.inr 2))) ((N8 (A3l v1) ([],0)).bind fun y2=>(A6n y2 0 (p1.Map_.Lanes.length:Int)).bind fun v4=>cond (!v4) (some (.out (.inr 11))) (thenS (N8 (A3k p1 v1) 0) (fun _=>some (.go (w64 (x1+1)))) (fun r=>some (.out (.inr r)))))))) (some (.out (.inl ())))
instance roads_check_zones_l1_le (p1:RoadsCheck)(x1:Int):Le (A3m p1 x1) (Y8 p1 x1):=by unfold A3m Y8;repeat' first|infer_instance|with_reducible refine Le.bind (h:= ?_) (hf:=fun _=> ?_)|with_reducible refine Le.cond (h:= ?_) (h':= ?_)|with_reducible refine Le.thenS (h:= ?_) (hf:=fun _=> ?_) (hg:=fun _=> ?_)
def A6p (p1:RoadsCheck):Option Int:=
  thenS (N8 (A3m p1) 0) (fun _=>some 0) (fun r=>some r)
instance roads_check_zones_le (p1:RoadsCheck):Le (A6p p1) (A1o p1):=by unfold A6p A1o;infer_instance
def A3n (p1:RoadsCheck)(x1:Int):Option (Stp Int (Sum Unit Int)):=
  cond (decide (x1< (p1.Map_.Works.length:Int))) ((D0 p1.Map_.Works x1).bind fun v1=>cond ((decide (v1.Lane_<0))||(decide (v1.Lane_≥(p1.Map_.Lanes.length:Int)))) (some (.out (.inr 7))) ((D0 p1.Map_.Lanes v1.Lane_).bind fun v2=>(A45 v2.Kind).bind fun v3=>((cond (!((decide (v1.From<0))||(decide (v1.From>v1.To)))) (A79 p1.Map_ v1.Lane_) (some default))).bind fun v4=>((cond (!((((((decide (v1.From<0))||(decide (v1.From>v1.To)))||(decide (v1.To>v4)))||(decide (v1.Begin<0)))||(decide (v1.Begin≥v1.End)))||(decide (v1.End>1099511627776)))) (Z2 v1.Limit 0 v3.1) (some default))).bind fun v5=>cond (((((((decide (v1.From<0))||(decide (v1.From>v1.To)))||(decide (v1.To>v4)))||(decide (v1.Begin<0)))||(decide (v1.Begin≥v1.End)))||(decide (v1.End>1099511627776)))||(!v5)) (some (.out (.inr 2))) (some (.go (w64 (x1+1)))))) (some (.out (.inl ())))
instance roads_check_works_l1_le (p1:RoadsCheck)(x1:Int):Le (A3n p1 x1) (Y9 p1 x1):=by unfold A3n Y9;repeat' first|infer_instance|with_reducible refine Le.bind (h:= ?_) (hf:=fun _=> ?_)|with_reducible refine Le.cond (h:= ?_) (h':= ?_)|with_reducible refine Le.thenS (h:= ?_) (hf:=fun _=> ?_) (hg:=fun _=> ?_)
def A6q (p1:RoadsCheck):Option Int:=
  thenS (N8 (A3n p1) 0) (fun _=>some 0) (fun r=>some r)
instance roads_check_works_le (p1:RoadsCheck):Le (A6q p1) (A1p p1):=by unfold A6q A1p;infer_instance
def A0d (v:Nat)(p1:RoadsCheck):Option Int:=
  cond (Nat.beq v 148) (A4d p1) (cond (Nat.beq v 149) (A6o p1) (cond (Nat.beq v 150) (A5f p1) (cond (Nat.beq v 151) (A4e p1) (cond (Nat.beq v 152) (A6p p1) (cond (Nat.beq v 153) (A6q p1) (none))))))
instance choose_roads_check_numbers_le (v:Nat)(p1:RoadsCheck):Le (A0d v p1) (S4 v p1):=by unfold A0d S4;infer_instance
def A9u (p1:Map)(x1:Int):Option (Stp Int (Sum Unit Int)):=
  cond (decide (x1< ([148,149,150,151,152,153].length:Int))) ((D0 [148,149,150,151,152,153] x1).bind fun v1=>(A0d v1 (RoadsCheck.mk p1)).bind fun v2=>cond (v2 !=0) (some (.out (.inr v2))) (some (.go (w64 (x1+1))))) (some (.out (.inl ())))
instance roads_Check_l1_le (p1:Map)(x1:Int):Le (A9u p1 x1) (A4m p1 x1):=by unfold A9u A4m;infer_instance
def A80 (p1:Map):Option Int:=
  thenS (N8 (A9u p1) 0) (fun _=>some 0) (fun r=>some r)
instance roads_Check_le (p1:Map):Le (A80 p1) (A58 p1):=by unfold A80 A58;infer_instance
def A1v (p1:(List Int))(p2:Int)(x1:Int):Option (Stp Int (Sum Unit Int)):=
  cond (decide (x1< (p1.length:Int))) ((D0 p1 x1).bind fun v1=>cond (p2==v1) (some (.out (.inr x1))) (some (.go (w64 (x1+1))))) (some (.out (.inl ())))
instance slices_Index_int_int_l1_le (p1:(List Int))(p2:Int)(x1:Int):Le (A1v p1 p2 x1) (U9 p1 p2 x1):=by unfold A1v U9;infer_instance
def A13 (p1:(List Int))(p2:Int):Option Int:=
  thenS (N8 (A1v p1 p2) 0) (fun _=>some (-1)) (fun r=>some r)
instance slices_Index_int_int_le (p1:(List Int))(p2:Int):Le (A13 p1 p2) (V2 p1 p2):=by unfold A13 V2;infer_instance
def T8 (p1:(List Int))(p2:Int):Option Bool:=
  (A13 p1 p2).bind fun v1=>some (decide (v1≥0))
instance slices_Contains_int_int_le (p1:(List Int))(p2:Int):Le (T8 p1 p2) (P7 p1 p2):=by unfold T8 P7;infer_instance
def A89 (p1:Map)(p2:Int)(x1:((List Int)×Int)):Option (Stp ((List Int)×Int) (List Int)):=
  cond (decide (x1.2< (p1.Lanes.length:Int))) ((D0 p1.Lanes x1.2).bind fun v1=>(T8 v1.Next p2).bind fun v2=>cond v2 ((A83 x1.1 [x1.2]).bind fun v3=>some (.go (v3,(w64 (x1.2+1))))) (some (.go (x1.1,(w64 (x1.2+1)))))) (some (.out x1.1))
instance roads_before_l1_le (p1:Map)(p2:Int)(x1:((List Int)×Int)):Le (A89 p1 p2 x1) (A37 p1 p2 x1):=by unfold A89 A37;infer_instance
def B2q (p1:Map)(p2:Int):Option (List Int):=
  (N8 (A89 p1 p2) ([],0)).bind fun y1=>some y1
instance roads_before_le (p1:Map)(p2:Int):Le (B2q p1 p2) (A7r p1 p2):=by unfold B2q A7r;infer_instance
def A4f (p1:Map)(v7:List Int)(x1:(Int×Int)):Option (Stp (Int×Int) (Sum Unit Int)):=
  cond (decide (x1.2< (v7.length:Int))) ((D0 v7 x1.2).bind fun v8=>(D0 p1.Lanes x1.1).bind fun v9=>(T8 v9.Next v8).bind fun v10=>cond (!v10) (some (.out (.inr 13))) (some (.go (v8,(w64 (x1.2+1)))))) (some (.out (.inl ())))
instance roads_CheckRoute_l1_le (p1:Map)(v7:List Int)(x1:(Int×Int)):Le (A4f p1 v7 x1) (A07 p1 v7 x1):=by unfold A4f A07;infer_instance
def A46 (p1:Map)(p2:(List Int)):Option Int:=
  (A80 p1).bind fun v1=>cond (v1 !=0) (some v1) (((cond (!(((p2.length:Int)==0)||(decide ((p2.length:Int)>8)))) (D0 p2 0) (some default))).bind fun v2=>((cond (!((((p2.length:Int)==0)||(decide ((p2.length:Int)>8)))||(decide (v2<0)))) (D0 p2 0) (some default))).bind fun v3=>((cond (!(((((p2.length:Int)==0)||(decide ((p2.length:Int)>8)))||(decide (v2<0)))||(decide (v3≥(p1.Lanes.length:Int))))) (D0 p2 0) (some default))).bind fun v4=>((cond (!(((((p2.length:Int)==0)||(decide ((p2.length:Int)>8)))||(decide (v2<0)))||(decide (v3≥(p1.Lanes.length:Int))))) (B2q p1 v4) (some default))).bind fun v5=>cond ((((((p2.length:Int)==0)||(decide ((p2.length:Int)>8)))||(decide (v2<0)))||(decide (v3≥(p1.Lanes.length:Int))))||(decide ((v5.length:Int)>0))) (some 13) ((D0 p2 0).bind fun v6=>(D0s p2 1 (p2.length:Int)).bind fun v7=>thenS (N8 (A4f p1 v7) (v6,0)) (fun _=>some 0) (fun r=>some r)))
instance roads_CheckRoute_le (p1:Map)(p2:(List Int)):Le (A46 p1 p2) (A0n p1 p2):=by unfold A46 A0n;repeat' first|infer_instance|with_reducible refine Le.bind (h:= ?_) (hf:=fun _=> ?_)|with_reducible refine Le.cond (h:= ?_) (h':= ?_)|with_reducible refine Le.thenS (h:= ?_) (hf:=fun _=> ?_) (hg:=fun _=> ?_)
def A8a (p1:Map)(p2:(List Int))(x1:(Int× ((List Int)×Int))):Option (Stp (Int× ((List Int)×Int)) ((List Int)×Int)):=
  cond (decide (x1.1< (p2.length:Int))) ((D0 p2 x1.1).bind fun v2=>(A83 x1.2.1 [x1.2.2]).bind fun v3=>(A79 p1 v2).bind fun v4=>some (.go ((w64 (x1.1+1)),(v3,(w64 (x1.2.2+v4)))))) (some (.out x1.2))
instance roads_follow_l1_le (p1:Map)(p2:(List Int))(x1:(Int× ((List Int)×Int))):Le (A8a p1 p2 x1) (A38 p1 p2 x1):=by unfold A8a A38;infer_instance
def A2a (p1:Map)(p2:(List Int)):Option RoadsWay:=
  (A46 p1 p2).bind fun v1=>cond (v1 !=0) (some (RoadsWay.mk (Map.mk 0 [] [] [] []) [] [] 0)) ((N8 (A8a p1 p2) (0,([],0))).bind fun y1=>some (RoadsWay.mk p1 p2 y1.1 y1.2))
instance roads_follow_le (p1:Map)(p2:(List Int)):Le (A2a p1 p2) (A0w p1 p2):=by unfold A2a A0w;infer_instance
def A6r (p1:Map)(p2:(List Int)):Option (List Int):=
  (A2a p1 p2).bind fun v1=>some v1.starts
instance roads_Starts_le (p1:Map)(p2:(List Int)):Le (A6r p1 p2) (A3a p1 p2):=by unfold A6r A3a;infer_instance
def A3o (p1:Agent):Option WorldSpan:=
  some (WorldSpan.mk (w64 (p1.S - p1.Len)) p1.S)
instance world_body_le (p1:Agent):Le (A3o p1) (A2j p1):=by unfold A3o A2j;infer_instance
def A0p (p1:WorldSpan)(p2:Int):Option WorldSpan:=
  some (WorldSpan.mk (w64 (p1.from_ - p2)) (w64 (p1.to - p2)))
instance world_span_less_le (p1:WorldSpan)(p2:Int):Le (A0p p1 p2) (W9 p1 p2):=by unfold A0p W9;infer_instance
def B3x (p1:Map)(p2:Int):Option Bool:=
  ((cond ((decide (p2≥0))&& (decide (p2< (p1.Lanes.length:Int)))) (A80 p1) (some default))).bind fun v1=>some (((decide (p2≥0))&& (decide (p2< (p1.Lanes.length:Int))))&& (v1==0))
instance roads_is_le (p1:Map)(p2:Int):Le (B3x p1 p2) (B2f p1 p2):=by unfold B3x B2f;infer_instance
def A47 (p1:Map)(p2:Int):Option Int:=
  (B3x p1 p2).bind fun v1=>cond (!v1) (some 0) ((A79 p1 p2).bind fun v2=>some v2)
instance roads_Length_le (p1:Map)(p2:Int):Le (A47 p1 p2) (A21 p1 p2):=by unfold A47 A21;infer_instance
def A3p (p1:WorldSpan)(p2:WorldSpan):Option WorldSpan:=
  some (WorldSpan.mk (mm2 true p1.from_ p2.from_) (mm2 false p1.to p2.to))
instance world_span_and_le (p1:WorldSpan)(p2:WorldSpan):Le (A3p p1 p2) (A18 p1 p2):=by unfold A3p A18;infer_instance
def A1w (p1:WorldSpan):Option Bool:=
  some (decide (p1.from_>p1.to))
instance world_span_empty_le (p1:WorldSpan):Le (A1w p1) (Y3 p1):=by unfold A1w Y3;infer_instance
def B0v (p1:Map)(p2:Agent)(v2:(List Int))(x1:((List Span)×Int)):Option (Stp ((List Span)×Int) (List Span)):=
  cond (decide (x1.2< (v2.length:Int))) ((D0 v2 x1.2).bind fun v3=>(D0 p2.Route x1.2).bind fun v4=>(A3o p2).bind fun v5=>(A0p v5 v3).bind fun v6=>(A47 p1 v4).bind fun v7=>(A3p v6 (WorldSpan.mk 0 v7)).bind fun v8=>(A1w v8).bind fun v9=>cond (!v9) ((A83 x1.1 [(Span.mk v4 v8.from_ v8.to)]).bind fun v10=>some (.go (v10,(w64 (x1.2+1))))) (some (.go (x1.1,(w64 (x1.2+1)))))) (some (.out x1.1))
instance world_Body_l1_le (p1:Map)(p2:Agent)(v2:(List Int))(x1:((List Span)×Int)):Le (B0v p1 p2 v2 x1) (A66 p1 p2 v2 x1):=by unfold B0v A66;repeat' first|infer_instance|with_reducible refine Le.bind (h:= ?_) (hf:=fun _=> ?_)|with_reducible refine Le.cond (h:= ?_) (h':= ?_)|with_reducible refine Le.thenS (h:= ?_) (hf:=fun _=> ?_) (hg:=fun _=> ?_)
def A5g (p1:Map)(p2:Agent):Option (List Span):=
  (A9s p2).bind fun v1=>cond (!v1) (some []) ((A6r p1 p2.Route).bind fun v2=>(N8 (B0v p1 p2 v2) ([],0)).bind fun y1=>some y1)
instance world_Body_le (p1:Map)(p2:Agent):Le (A5g p1 p2) (A3z p1 p2):=by unfold A5g A3z;infer_instance
def A7a (p1:(List Span))(p2:(List Span))(x1:Int):Option (Stp Int (Sum Unit Bool)):=
  cond ((decide (x1< (p1.length:Int)))&& (decide (x1< (p2.length:Int)))) ((D0 p1 x1).bind fun v1=>(D0 p2 x1).bind fun v2=>cond (!(v1.Lane_==v2.Lane_&& (v1.From==v2.From&& (v1.To==v2.To&&true)))) (some (.out (.inr false))) (some (.go (w64 (x1+1))))) (some (.out (.inl ())))
instance kit_SameSpans_l1_le (p1:(List Span))(p2:(List Span))(x1:Int):Le (A7a p1 p2 x1) (A2e p1 p2 x1):=by unfold A7a A2e;infer_instance
def B0w (p1:(List Span))(p2:(List Span)):Option Bool:=
  thenS (N8 (A7a p1 p2) 0) (fun _=>some ((p1.length:Int)==(p2.length:Int))) (fun r=>some r)
instance kit_SameSpans_le (p1:(List Span))(p2:(List Span)):Le (B0w p1 p2) (A68 p1 p2):=by unfold B0w A68;infer_instance
def A3q (p1:Span)(p2:Span):Option Bool:=
  ((cond (p2.Lane_==p1.Lane_) (A3p (WorldSpan.mk p2.From p2.To) (WorldSpan.mk p1.From p1.To)) (some default))).bind fun v1=>((cond (p2.Lane_==p1.Lane_) (A1w v1) (some default))).bind fun v2=>some ((p2.Lane_==p1.Lane_)&& (!v2))
instance world_Touching_1_1_b_le (p1:Span)(p2:Span):Le (A3q p1 p2) (Z0 p1 p2):=by unfold A3q Z0;infer_instance
def M3 (p1:(List Span))(p2:Span)(x1:Int):Option (Stp Int (Sum Unit Int)):=
  cond (decide (x1< (p1.length:Int))) ((D0 p1 x1).bind fun v1=>(A3q v1 p2).bind fun v2=>cond v2 (some (.out (.inr x1))) (some (.go (w64 (x1+1))))) (some (.out (.inl ())))
instance slices_IndexFunc_Span_Span_world_Touching_1_1b_l1_le (p1:(List Span))(p2:Span)(x1:Int):Le (M3 p1 p2 x1) (E8 p1 p2 x1):=by unfold M3 E8;infer_instance
def N4 (p1:(List Span))(p2:Span):Option Int:=
  thenS (N8 (M3 p1 p2) 0) (fun _=>some (-1)) (fun r=>some r)
instance slices_IndexFunc_Span_Span_world_Touching_1_1b_le (p1:(List Span))(p2:Span):Le (N4 p1 p2) (G3 p1 p2):=by unfold N4 G3;infer_instance
def M4 (p1:(List Span))(p2:Span):Option Bool:=
  (N4 p1 p2).bind fun v1=>some (decide (v1≥0))
instance slices_ContainsFunc_Span_Span_world_Touching_1_1b_le (p1:(List Span))(p2:Span):Le (M4 p1 p2) (E9 p1 p2):=by unfold M4 E9;infer_instance
def A5h (p1:Span)(p2:(List Span)):Option Bool:=
  (M4 p2 p1).bind fun v1=>some v1
instance world_Touching_1_b_le (p1:Span)(p2:(List Span)):Le (A5h p1 p2) (A0x p1 p2):=by unfold A5h A0x;infer_instance
def M9 (p1:(List Span))(p2:(List Span))(x1:Int):Option (Stp Int (Sum Unit Int)):=
  cond (decide (x1< (p1.length:Int))) ((D0 p1 x1).bind fun v1=>(A5h v1 p2).bind fun v2=>cond v2 (some (.out (.inr x1))) (some (.go (w64 (x1+1))))) (some (.out (.inl ())))
instance slices_IndexFunc_Span_Span_world_Touching_1b_l1_le (p1:(List Span))(p2:(List Span))(x1:Int):Le (M9 p1 p2 x1) (F5 p1 p2 x1):=by unfold M9 F5;infer_instance
def O6 (p1:(List Span))(p2:(List Span)):Option Int:=
  thenS (N8 (M9 p1 p2) 0) (fun _=>some (-1)) (fun r=>some r)
instance slices_IndexFunc_Span_Span_world_Touching_1b_le (p1:(List Span))(p2:(List Span)):Le (O6 p1 p2) (H6 p1 p2):=by unfold O6 H6;infer_instance
def N0 (p1:(List Span))(p2:(List Span)):Option Bool:=
  (O6 p1 p2).bind fun v1=>some (decide (v1≥0))
instance slices_ContainsFunc_Span_Span_world_Touching_1b_le (p1:(List Span))(p2:(List Span)):Le (N0 p1 p2) (F6 p1 p2):=by unfold N0 F6;infer_instance
def A6s (p1:Map)(p2:Agent)(p3:Agent):Option Bool:=
  (A5g p1 p3).bind fun v1=>(A5g p1 p2).bind fun v2=>(N0 v2 v1).bind fun v3=>some v3
instance world_Touching_le (p1:Map)(p2:Agent)(p3:Agent):Le (A6s p1 p2 p3) (A2k p1 p2 p3):=by unfold A6s A2k;infer_instance
def Z3 (p1:List Stay):Option (List Stay):=A83 [] p1
instance slices_Clone_Stay_Stay_le (p1:List Stay):Le (Z3 p1) (S9 p1):=by unfold Z3 S9;infer_instance
def A3r (p1:List Int):Option (List Int):=A83 [] p1
instance slices_Clone_int_int_le (p1:List Int):Le (A3r p1) (A1g p1):=by unfold A3r A1g;infer_instance
def A3s (p1:Agent):Option Agent:=
  (A3r p1.Route).bind fun v1=>some (Agent.mk v1 p1.S p1.V p1.Len p1.Begin p1.Obey p1.Gone)
instance world_ownAgent_le (p1:Agent):Le (A3s p1) (A1a p1):=by unfold A3s A1a;infer_instance
def B0x (p1:State)(x1:(Int×State)):Option (Stp (Int×State) State):=
  cond (decide (x1.1< (p1.Agents.length:Int))) ((D0 p1.Agents x1.1).bind fun v2=>(A3s v2).bind fun v3=>(A83 x1.2.Agents [v3]).bind fun v4=>some (.go ((w64 (x1.1+1)),(State.mk x1.2.Tick v4 x1.2.In)))) (some (.out x1.2))
instance world_Copy_l1_le (p1:State)(x1:(Int×State)):Le (B0x p1 x1) (A69 p1 x1):=by unfold B0x A69;infer_instance
def B2r (p1:State):Option State:=
  (Z3 p1.In).bind fun v1=>(N8 (B0x p1) (0,(State.mk p1.Tick [] v1))).bind fun y1=>some y1
instance world_Copy_le (p1:State):Le (B2r p1) (A8x p1):=by unfold B2r A8x;infer_instance
def A14 (p1:Map)(p2:(List Int)):Option Int:=
  (A2a p1 p2).bind fun v1=>some v1.length
instance roads_RouteLength_le (p1:Map)(p2:(List Int)):Le (A14 p1 p2) (V9 p1 p2):=by unfold A14 V9;infer_instance
def B0y (p2:Agent)(v1:(List Int))(x1:Int):Option (Stp Int Int):=
  (D0 v1 x1).bind fun v2=>cond (decide (v2>p2.S)) (some (.go (w64 (x1 - 1)))) (some (.out x1))
instance world_lane_l1_le (p2:Agent)(v1:(List Int))(x1:Int):Le (B0y p2 v1 x1) (A6a p2 v1 x1):=by unfold B0y A6a;infer_instance
def B2s (p1:Map)(p2:Agent):Option (Int×Int):=
  (A6r p1 p2.Route).bind fun v1=>(N8 (B0y p2 v1) (w64 ((v1.length:Int) - 1))).bind fun y1=>(D0 p2.Route y1).bind fun v3=>(D0 v1 y1).bind fun v4=>some (v3,(w64 (p2.S - v4)))
instance world_lane_le (p1:Map)(p2:Agent):Le (B2s p1 p2) (A8y p1 p2):=by unfold B2s A8y;infer_instance
def B2t (p1:Map)(p2:Agent):Option Bool:=
  (A3o p2).bind fun v1=>(A14 p1 p2.Route).bind fun v2=>some (decide (v1.from_>v2))
instance world_left_le (p1:Map)(p2:Agent):Le (B2t p1 p2) (A8z p1 p2):=by unfold B2t A8z;infer_instance
def A7b (p1:Map)(p2:State)(p3:Int):Option Int:=
  (D0 p2.Agents p3).bind fun v1=>(A46 p1 v1.Route).bind fun v2=>cond (v2 !=0) (some 13) (((cond (!(((((decide (v1.Len<300))||(decide (v1.Len>20000)))||(decide (v1.Begin<0)))||(decide (v1.Begin>1099511627776)))||(decide (v1.S<0)))) (A14 p1 v1.Route) (some default))).bind fun v3=>cond ((((((decide (v1.Len<300))||(decide (v1.Len>20000)))||(decide (v1.Begin<0)))||(decide (v1.Begin>1099511627776)))||(decide (v1.S<0)))||(decide (v1.S>(w64 ((w64 (v3+v1.Len))+2000))))) (some 2) ((B2s p1 v1).bind fun v4=>(D0 p1.Lanes v4.1).bind fun v5=>(A45 v5.Kind).bind fun v6=>cond ((decide (v1.V<0))||(decide (v1.V>v6.1))) (some 2) ((B2t p1 v1).bind fun v7=>cond ((!(v1.Gone==v7))||(((decide (v1.Begin>p2.Tick))&& (v1.S !=0))||((p3==0)&& (v1.Begin !=0)))) (some 10) (some 0))))
instance world_checkAgent_le (p1:Map)(p2:State)(p3:Int):Le (A7b p1 p2 p3) (A2f p1 p2 p3):=by unfold A7b A2f;repeat' first|infer_instance|with_reducible refine Le.bind (h:= ?_) (hf:=fun _=> ?_)|with_reducible refine Le.cond (h:= ?_) (h':= ?_)|with_reducible refine Le.thenS (h:= ?_) (hf:=fun _=> ?_) (hg:=fun _=> ?_)
def A7h (p1:Int):Option Bool:=
  some (p1 !=p1)
instance cmp_isNaN_int_le (p1:Int):Le (A7h p1) (A40 p1):=by unfold A7h A40;infer_instance
def A0q (p1:Int)(p2:Int):Option Int:=
  (A7h p1).bind fun v1=>(A7h p2).bind fun v2=>cond v1 (cond v2 (some 0) (some (-1))) (cond v2 (some 1) (cond (decide (p1<p2)) (some (-1)) (cond (decide (p1>p2)) (some 1) (some 0))))
instance cmp_Compare_int_le (p1:Int)(p2:Int):Le (A0q p1 p2) (X0 p1 p2):=by unfold A0q X0;infer_instance
def B0z (p1:(List Int))(x1:Int):Option (Stp Int (Sum Unit Int)):=
  cond (decide (x1< (p1.length:Int))) ((D0 p1 x1).bind fun v1=>cond (v1 !=0) (some (.out (.inr v1))) (some (.go (w64 (x1+1))))) (some (.out (.inl ())))
instance cmp_Or_int_l1_le (p1:(List Int))(x1:Int):Le (B0z p1 x1) (A6b p1 x1):=by unfold B0z A6b;infer_instance
def A9v (p1:(List Int)):Option Int:=
  thenS (N8 (B0z p1) 0) (fun _=>some 0) (fun r=>some r)
instance cmp_Or_int_le (p1:(List Int)):Le (A9v p1) (A74 p1):=by unfold A9v A74;infer_instance
def A81 (p1:Stay)(p2:Stay):Option Int:=
  (A0q p1.Agent_ p2.Agent_).bind fun v1=>(A0q p1.Zone_ p2.Zone_).bind fun v2=>(A9v [v1,v2]).bind fun v3=>some v3
instance world_order_le (p1:Stay)(p2:Stay):Le (A81 p1 p2) (A5a p1 p2):=by unfold A81 A5a;infer_instance
def A8b (p1:Stay)(p2:State):Option Bool:=
  some ((((decide (p1.Since<0))||(decide (p1.Since>p2.Tick)))||(decide (p1.Rank<0)))||(decide (p1.Rank>100)))
instance world_Check_1_b_le (p1:Stay)(p2:State):Le (A8b p1 p2) (A3c p1 p2):=by unfold A8b A3c;infer_instance
def O7 (p1:(List Stay))(p2:State)(x1:Int):Option (Stp Int (Sum Unit Int)):=
  cond (decide (x1< (p1.length:Int))) ((D0 p1 x1).bind fun v1=>(A8b v1 p2).bind fun v2=>cond v2 (some (.out (.inr x1))) (some (.go (w64 (x1+1))))) (some (.out (.inl ())))
instance slices_IndexFunc_Stay_Stay_world_Check_1b_l1_le (p1:(List Stay))(p2:State)(x1:Int):Le (O7 p1 p2 x1) (H7 p1 p2 x1):=by unfold O7 H7;infer_instance
def Q3 (p1:(List Stay))(p2:State):Option Int:=
  thenS (N8 (O7 p1 p2) 0) (fun _=>some (-1)) (fun r=>some r)
instance slices_IndexFunc_Stay_Stay_world_Check_1b_le (p1:(List Stay))(p2:State):Le (Q3 p1 p2) (J5 p1 p2):=by unfold Q3 J5;infer_instance
def O8 (p1:(List Stay))(p2:State):Option Bool:=
  (Q3 p1 p2).bind fun v1=>some (decide (v1≥0))
instance slices_ContainsFunc_Stay_Stay_world_Check_1b_le (p1:(List Stay))(p2:State):Le (O8 p1 p2) (H8 p1 p2):=by unfold O8 H8;infer_instance
def A9w (p1:Map)(p2:State)(x2:Int):Option (Stp Int (Sum Unit Int)):=
  cond (decide (x2< (p2.In.length:Int))) ((D0 p2.In x2).bind fun v3=>((cond ((!((((decide (v3.Agent_<0))||(decide (v3.Agent_≥(p2.Agents.length:Int))))||(decide (v3.Zone_<0)))||(decide (v3.Zone_≥(p1.Zones.length:Int)))))&& (decide (x2>0))) (D0 p2.In (w64 (x2 - 1))) (some default))).bind fun v4=>((cond ((!((((decide (v3.Agent_<0))||(decide (v3.Agent_≥(p2.Agents.length:Int))))||(decide (v3.Zone_<0)))||(decide (v3.Zone_≥(p1.Zones.length:Int)))))&& (decide (x2>0))) (A81 v4 v3) (some default))).bind fun v5=>cond (((((decide (v3.Agent_<0))||(decide (v3.Agent_≥(p2.Agents.length:Int))))||(decide (v3.Zone_<0)))||(decide (v3.Zone_≥(p1.Zones.length:Int))))||((decide (x2>0))&& (decide (v5≥0)))) (some (.out (.inr 11))) (some (.go (w64 (x2+1))))) (some (.out (.inl ())))
instance world_Check_l2_le (p1:Map)(p2:State)(x2:Int):Le (A9w p1 p2 x2) (A4p p1 p2 x2):=by unfold A9w A4p;repeat' first|infer_instance|with_reducible refine Le.bind (h:= ?_) (hf:=fun _=> ?_)|with_reducible refine Le.cond (h:= ?_) (h':= ?_)|with_reducible refine Le.thenS (h:= ?_) (hf:=fun _=> ?_) (hg:=fun _=> ?_)
def A9x (p1:Map)(p2:State)(x1:Int):Option (Stp Int (Sum Unit Int)):=
  cond (decide (x1< (p2.Agents.length:Int))) ((A7b p1 p2 x1).bind fun v2=>cond (v2 !=0) (some (.out (.inr v2))) (some (.go (w64 (x1+1))))) (some (.out (.inl ())))
instance world_Check_l1_le (p1:Map)(p2:State)(x1:Int):Le (A9x p1 p2 x1) (A4q p1 p2 x1):=by unfold A9x A4q;infer_instance
def A5s (p1:Map)(p2:State):Option Int:=
  (A80 p1).bind fun v1=>cond (v1 !=0) (some v1) (cond ((decide (p2.Tick<0))||(decide (p2.Tick>1099511627776))) (some 2) (cond ((p2.Agents.length:Int)==0) (some 6) (cond (decide ((p2.Agents.length:Int)>8)) (some 8) (thenS (N8 (A9x p1 p2) 0) (fun _=>thenS (N8 (A9w p1 p2) 0) (fun _=>(O8 p2.In p2).bind fun v6=>cond v6 (some 2) (some 0)) (fun r=>some r)) (fun r=>some r)))))
instance world_Check_le (p1:Map)(p2:State):Le (A5s p1 p2) (A3d p1 p2):=by unfold A5s A3d;repeat' first|infer_instance|with_reducible refine Le.bind (h:= ?_) (hf:=fun _=> ?_)|with_reducible refine Le.cond (h:= ?_) (h':= ?_)|with_reducible refine Le.thenS (h:= ?_) (hf:=fun _=> ?_) (hg:=fun _=> ?_)
def B3y (p1:Agent):Option Bool:=
  some p1.Gone
instance world_New_1_le (p1:Agent):Le (B3y p1) (A9g p1):=by unfold B3y A9g;infer_instance
def P0 (p1:(List Agent))(x1:Int):Option (Stp Int (Sum Unit Int)):=
  cond (decide (x1< (p1.length:Int))) ((D0 p1 x1).bind fun v1=>(B3y v1).bind fun v2=>cond v2 (some (.out (.inr x1))) (some (.go (w64 (x1+1))))) (some (.out (.inl ())))
instance slices_IndexFunc_Agent_Agent_world_New_1_l1_le (p1:(List Agent))(x1:Int):Le (P0 p1 x1) (I4 p1 x1):=by unfold P0 I4;infer_instance
def Q6 (p1:(List Agent)):Option Int:=
  thenS (N8 (P0 p1) 0) (fun _=>some (-1)) (fun r=>some r)
instance slices_IndexFunc_Agent_Agent_world_New_1_le (p1:(List Agent)):Le (Q6 p1) (J7 p1):=by unfold Q6 J7;infer_instance
def P1 (p1:(List Agent)):Option Bool:=
  (Q6 p1).bind fun v1=>some (decide (v1≥0))
instance slices_ContainsFunc_Agent_Agent_world_New_1_le (p1:(List Agent)):Le (P1 p1) (I5 p1):=by unfold P1 I5;infer_instance
def A22 (p1:State)(p2:Int):Option Bool:=
  ((cond ((decide (p2≥0))&& (decide (p2< (p1.Agents.length:Int)))) (D0 p1.Agents p2) (some default))).bind fun v1=>((cond (((decide (p2≥0))&& (decide (p2< (p1.Agents.length:Int))))&& (!v1.Gone)) (D0 p1.Agents p2) (some default))).bind fun v2=>some ((((decide (p2≥0))&& (decide (p2< (p1.Agents.length:Int))))&& (!v1.Gone))&& (decide (v2.Begin≤p1.Tick)))
instance world_There_le (p1:State)(p2:Int):Le (A22 p1 p2) (A1c p1 p2):=by unfold A22 A1c;repeat' first|infer_instance|with_reducible refine Le.bind (h:= ?_) (hf:=fun _=> ?_)|with_reducible refine Le.cond (h:= ?_) (h':= ?_)|with_reducible refine Le.thenS (h:= ?_) (hf:=fun _=> ?_) (hg:=fun _=> ?_)
def A0r (p1:Int):Option Bool:=
  some (p1 !=p1)
instance cmp_isNaN_int64_le (p1:Int):Le (A0r p1) (X1 p1):=by unfold A0r X1;infer_instance
def A30 (p1:Int)(p2:Int):Option Int:=
  (A0r p1).bind fun v1=>(A0r p2).bind fun v2=>cond v1 (cond v2 (some 0) (some (-1))) (cond v2 (some 1) (cond (decide (p1<p2)) (some (-1)) (cond (decide (p1>p2)) (some 1) (some 0))))
instance cmp_Compare_int64_le (p1:Int)(p2:Int):Le (A30 p1 p2) (Z5 p1 p2):=by unfold A30 Z5;infer_instance
def A9y (p1:Pass)(p2:Pass):Option Int:=
  (A30 p1.From p2.From).bind fun v1=>(A0q p1.Zone_ p2.Zone_).bind fun v2=>(A9v [v1,v2]).bind fun v3=>some v3
instance roads_Passes_1_le (p1:Pass)(p2:Pass):Le (A9y p1 p2) (A4r p1 p2):=by unfold A9y A4r;infer_instance
def L3 (p2:Int)(x2:(Int× (List Pass))):Option (Stp (Int× (List Pass)) (List Pass)):=
  ((cond (decide (x2.1>p2)) (D0 x2.2 x2.1) (some default))).bind fun v1=>((cond (decide (x2.1>p2)) (D0 x2.2 (w64 (x2.1 - 1))) (some default))).bind fun v2=>((cond (decide (x2.1>p2)) (A9y v1 v2) (some default))).bind fun v3=>cond ((decide (x2.1>p2))&& (decide (v3<0))) ((D0 x2.2 (w64 (x2.1 - 1))).bind fun v4=>(D0 x2.2 x2.1).bind fun v5=>(D0 x2.2 x2.1).bind fun v6=>(D0 (B92 x2.2 x2.1 v4) (w64 (x2.1 - 1))).bind fun v7=>some (.go ((w64 (x2.1 - 1)),(B92 (B92 x2.2 x2.1 v4) (w64 (x2.1 - 1)) v5)))) (some (.out x2.2))
instance slices_insertionSortCmpFunc_Pass_a_roads_Passes_1_l2_le (p2:Int)(x2:(Int× (List Pass))):Le (L3 p2 x2) (D9 p2 x2):=by unfold L3 D9;repeat' first|infer_instance|with_reducible refine Le.bind (h:= ?_) (hf:=fun _=> ?_)|with_reducible refine Le.cond (h:= ?_) (h':= ?_)|with_reducible refine Le.thenS (h:= ?_) (hf:=fun _=> ?_) (hg:=fun _=> ?_)
def L4 (p2:Int)(p3:Int)(x1:(Int× (List Pass))):Option (Stp (Int× (List Pass)) (List Pass)):=
  cond (decide (x1.1<p3)) ((N8 (L3 p2) (x1.1,x1.2)).bind fun y1=>some (.go ((w64 (x1.1+1)),y1))) (some (.out (x1.2)))
instance slices_insertionSortCmpFunc_Pass_a_roads_Passes_1_l1_le (p2:Int)(p3:Int)(x1:(Int× (List Pass))):Le (L4 p2 p3 x1) (E0 p2 p3 x1):=by unfold L4 E0;infer_instance
def I9 (p1:(List Pass))(p2:Int)(p3:Int):Option (List Pass):=
  N8 (L4 p2 p3) ((w64 (p2+1)),p1)
instance slices_insertionSortCmpFunc_Pass_a_roads_Passes_1_le (p1:(List Pass))(p2:Int)(p3:Int):Le (I9 p1 p2 p3) (C8 p1 p2 p3):=by unfold I9 C8;infer_instance
def N9 (p2:Int)(x3:(Int×Int)):Option (Stp (Int×Int) Int):=
  cond (decide (x3.2≤p2)) (none) (some (.out x3.1))
instance slices_stableCmpFunc_Pass_a_roads_Passes_1_l3_le (p2:Int)(x3:(Int×Int)):Le (N9 p2 x3) (G6 p2 x3):=by unfold N9 G6;infer_instance
def O0 (p2:Int)(v2:(List Pass))(x2:Int):Option (Stp Int (List Pass)):=
  cond (decide (x2<p2)) ((N8 (N9 p2) (0,(w64 (2*x2)))).bind fun y2=>cond (decide ((w64 (y2+x2))<p2)) (none) (some (.go (w64 (x2*2))))) (some (.out (v2)))
instance slices_stableCmpFunc_Pass_a_roads_Passes_1_l2_le (p2:Int)(v2:(List Pass))(x2:Int):Le (O0 p2 v2 x2) (G7 p2 v2 x2):=by unfold O0 G7;infer_instance
def O1 (p2:Int)(x1:(Int×Int× (List Pass))):Option (Stp (Int×Int× (List Pass)) (Int× (List Pass))):=
  cond (decide (x1.2.1≤p2)) ((I9 x1.2.2 x1.1 x1.2.1).bind fun v1=>some (.go (x1.2.1,(w64 (x1.2.1+20)),v1))) (some (.out (x1.1,x1.2.2)))
instance slices_stableCmpFunc_Pass_a_roads_Passes_1_l1_le (p2:Int)(x1:(Int×Int× (List Pass))):Le (O1 p2 x1) (G8 p2 x1):=by unfold O1 G8;infer_instance
def P8 (p1:(List Pass))(p2:Int):Option (List Pass):=
  (N8 (O1 p2) (0,20,p1)).bind fun y1=>(I9 y1.2 y1.1 p2).bind fun v2=>N8 (O0 p2 v2) 20
instance slices_stableCmpFunc_Pass_a_roads_Passes_1_le (p1:(List Pass))(p2:Int):Le (P8 p1 p2) (J1 p1 p2):=by unfold P8 J1;infer_instance
def M7 (p1:(List Pass)):Option (List Pass):=
  (P8 p1 (p1.length:Int)).bind fun v1=>some v1
instance slices_SortStableFunc_Pass_Pass_a_roads_Passes_1_le (p1:(List Pass)):Le (M7 p1) (F2 p1):=by unfold M7 F2;infer_instance
def L5 (p1:Int)(x2:Int):Option (Stp Int Unit):=
  ((cond (decide (x2>p1)) ((none:Option Unit)) (some default))).bind fun v1=>cond ((decide (x2>p1))&&false) (none) (some (.out ()))
instance slices_insertionSortCmpFunc_Pass_n_roads_Passes_1_l2_le (p1:Int)(x2:Int):Le (L5 p1 x2) (E1 p1 x2):=by unfold L5 E1;infer_instance
def L6 (p1:Int)(p2:Int)(x1:Int):Option (Stp Int Unit):=
  cond (decide (x1<p2)) ((N8 (L5 p1) x1).bind fun _=>some (.go (w64 (x1+1)))) (some (.out (())))
instance slices_insertionSortCmpFunc_Pass_n_roads_Passes_1_l1_le (p1:Int)(p2:Int)(x1:Int):Le (L6 p1 p2 x1) (E2 p1 p2 x1):=by unfold L6 E2;infer_instance
def J0 (p1:Int)(p2:Int):Option Unit:=
  N8 (L6 p1 p2) (w64 (p1+1))
instance slices_insertionSortCmpFunc_Pass_n_roads_Passes_1_le (p1:Int)(p2:Int):Le (J0 p1 p2) (C9 p1 p2):=by unfold J0 C9;infer_instance
def O2 (p1:Int)(x3:(Int×Int)):Option (Stp (Int×Int) Int):=
  cond (decide (x3.2≤p1)) (none) (some (.out x3.1))
instance slices_stableCmpFunc_Pass_n_roads_Passes_1_l3_le (p1:Int)(x3:(Int×Int)):Le (O2 p1 x3) (G9 p1 x3):=by unfold O2 G9;infer_instance
def O3 (p1:Int)(x2:Int):Option (Stp Int Unit):=
  cond (decide (x2<p1)) ((N8 (O2 p1) (0,(w64 (2*x2)))).bind fun y2=>cond (decide ((w64 (y2+x2))<p1)) (none) (some (.go (w64 (x2*2))))) (some (.out (())))
instance slices_stableCmpFunc_Pass_n_roads_Passes_1_l2_le (p1:Int)(x2:Int):Le (O3 p1 x2) (H4 p1 x2):=by unfold O3 H4;infer_instance
def O4 (p1:Int)(x1:(Int×Int)):Option (Stp (Int×Int) Int):=
  cond (decide (x1.2≤p1)) ((J0 x1.1 x1.2).bind fun v1=>some (.go (x1.2,(w64 (x1.2+20))))) (some (.out x1.1))
instance slices_stableCmpFunc_Pass_n_roads_Passes_1_l1_le (p1:Int)(x1:(Int×Int)):Le (O4 p1 x1) (H5 p1 x1):=by unfold O4 H5;infer_instance
def P9 (p1:Int):Option Unit:=
  (N8 (O4 p1) (0,20)).bind fun y1=>(J0 y1 p1).bind fun v2=>N8 (O3 p1) 20
instance slices_stableCmpFunc_Pass_n_roads_Passes_1_le (p1:Int):Le (P9 p1) (J2 p1):=by unfold P9 J2;infer_instance
def M8:Option Unit:=
  (P9 0).bind fun v1=>some ()
instance slices_SortStableFunc_Pass_Pass_n_roads_Passes_1_le:Le (M8) (F3):=by unfold M8 F3;infer_instance
def A8c (v1:RoadsWay)(x1:((List Pass)×Int))(v2:Int)(x2:((List Pass)×Int))(v3:Zone)(x3:((List Pass)×Int)):Option (Stp ((List Pass)×Int) (List Pass)):=
  cond (decide (x3.2< (v3.Parts.length:Int))) ((D0 v3.Parts x3.2).bind fun v4=>cond (v4.Lane_==v2) ((D0 v1.starts x1.2).bind fun v5=>(D0 v1.starts x1.2).bind fun v6=>(A83 x3.1 [(Pass.mk x2.2 x3.2 (w64 (v5+v4.From)) (w64 (v6+v4.To)))]).bind fun v7=>some (.go (v7,(w64 (x3.2+1))))) (some (.go (x3.1,(w64 (x3.2+1)))))) (some (.out x3.1))
instance roads_Passes_l3_le (v1:RoadsWay)(x1:((List Pass)×Int))(v2:Int)(x2:((List Pass)×Int))(v3:Zone)(x3:((List Pass)×Int)):Le (A8c v1 x1 v2 x2 v3 x3) (A3e v1 x1 v2 x2 v3 x3):=by unfold A8c A3e;repeat' first|infer_instance|with_reducible refine Le.bind (h:= ?_) (hf:=fun _=> ?_)|with_reducible refine Le.cond (h:= ?_) (h':= ?_)|with_reducible refine Le.thenS (h:= ?_) (hf:=fun _=> ?_) (hg:=fun _=> ?_)
def A8d (p1:Map)(v1:RoadsWay)(x1:((List Pass)×Int))(v2:Int)(x2:((List Pass)×Int)):Option (Stp ((List Pass)×Int) (List Pass)):=
  cond (decide (x2.2< (p1.Zones.length:Int))) ((D0 p1.Zones x2.2).bind fun v3=>(N8 (A8c v1 x1 v2 x2 v3) (x2.1,0)).bind fun y3=>some (.go (y3,(w64 (x2.2+1))))) (some (.out x2.1))
instance roads_Passes_l2_le (p1:Map)(v1:RoadsWay)(x1:((List Pass)×Int))(v2:Int)(x2:((List Pass)×Int)):Le (A8d p1 v1 x1 v2 x2) (A3f p1 v1 x1 v2 x2):=by unfold A8d A3f;infer_instance
def A8e (p1:Map)(v1:RoadsWay)(x1:((List Pass)×Int)):Option (Stp ((List Pass)×Int) (List Pass)):=
  cond (decide (x1.2< (v1.lanes.length:Int))) ((D0 v1.lanes x1.2).bind fun v2=>(N8 (A8d p1 v1 x1 v2) (x1.1,0)).bind fun y2=>some (.go (y2,(w64 (x1.2+1))))) (some (.out x1.1))
instance roads_Passes_l1_le (p1:Map)(v1:RoadsWay)(x1:((List Pass)×Int)):Le (A8e p1 v1 x1) (A3g p1 v1 x1):=by unfold A8e A3g;infer_instance
def B2u (p1:Map)(p2:(List Int)):Option (List Pass):=
  (A2a p1 p2).bind fun v1=>(N8 (A8e p1 v1) ([],0)).bind fun y1=>cond (List.isEmpty y1) ((M8).bind fun v9=>some []) ((M7 y1).bind fun v8=>some v8)
instance roads_Passes_le (p1:Map)(p2:(List Int)):Le (B2u p1 p2) (A7s p1 p2):=by unfold B2u A7s;infer_instance
def A4g (p1:Pass)(p2:Int)(p3:WorldSpan):Option Bool:=
  some (((p1.Zone_==p2)&& (decide (p1.From≤p3.to)))&& (decide (p3.from_≤p1.To)))
instance world_Present_1_b_b_le (p1:Pass)(p2:Int)(p3:WorldSpan):Le (A4g p1 p2 p3) (A0a p1 p2 p3):=by unfold A4g A0a;infer_instance
def N1 (p1:(List Pass))(p2:Int)(p3:WorldSpan)(x1:Int):Option (Stp Int (Sum Unit Int)):=
  cond (decide (x1< (p1.length:Int))) ((D0 p1 x1).bind fun v1=>(A4g v1 p2 p3).bind fun v2=>cond v2 (some (.out (.inr x1))) (some (.go (w64 (x1+1))))) (some (.out (.inl ())))
instance slices_IndexFunc_Pass_Pass_world_Present_1bb_l1_le (p1:(List Pass))(p2:Int)(p3:WorldSpan)(x1:Int):Le (N1 p1 p2 p3 x1) (F7 p1 p2 p3 x1):=by unfold N1 F7;infer_instance
def O9 (p1:(List Pass))(p2:Int)(p3:WorldSpan):Option Int:=
  thenS (N8 (N1 p1 p2 p3) 0) (fun _=>some (-1)) (fun r=>some r)
instance slices_IndexFunc_Pass_Pass_world_Present_1bb_le (p1:(List Pass))(p2:Int)(p3:WorldSpan):Le (O9 p1 p2 p3) (H9 p1 p2 p3):=by unfold O9 H9;infer_instance
def N2 (p1:(List Pass))(p2:Int)(p3:WorldSpan):Option Bool:=
  (O9 p1 p2 p3).bind fun v1=>some (decide (v1≥0))
instance slices_ContainsFunc_Pass_Pass_world_Present_1bb_le (p1:(List Pass))(p2:Int)(p3:WorldSpan):Le (N2 p1 p2 p3) (F8 p1 p2 p3):=by unfold N2 F8;infer_instance
def B10 (p1:Map)(p2:Agent)(p3:Agent)(p4:Int):Option Bool:=
  (A9s p2).bind fun v1=>((cond (!(!v1)) (A9s p3) (some default))).bind fun v2=>cond ((!v1)||(!v2)) (some false) ((A3o p2).bind fun v3=>(B2u p1 p2.Route).bind fun v4=>(N2 v4 p4 (WorldSpan.mk v3.from_ p3.S)).bind fun v5=>some v5)
instance world_Present_le (p1:Map)(p2:Agent)(p3:Agent)(p4:Int):Le (B10 p1 p2 p3 p4) (A6c p1 p2 p3 p4):=by unfold B10 A6c;infer_instance
def T0 (p1:WorldScene)(p2:Int)(p3:Int):Option Bool:=
  (A22 p1.before p2).bind fun v1=>((cond v1 (D0 p1.before.Agents p2) (some default))).bind fun v2=>((cond v1 (D0 p1.after.Agents p2) (some default))).bind fun v3=>((cond v1 (B10 p1.m v2 v3 p3) (some default))).bind fun v4=>some (v1&&v4)
instance world_scene_present_b_le (p1:WorldScene)(p2:Int)(p3:Int):Le (T0 p1 p2 p3) (P6 p1 p2 p3):=by unfold T0 P6;infer_instance
def K9 (p1:(List Stay))(p2:Stay)(x1:(Int×Int)):Option (Stp (Int×Int) Int):=
  cond (decide (x1.1<x1.2)) ((D0 p1 (w64 ((IntKind.wrap .u64 (w64 (x1.1+x1.2))).fdiv (2^ (min (1:Int).toNat (IntKind.bits .u64)))))).bind fun v1=>(A81 v1 p2).bind fun v2=>cond (decide (v2<0)) (some (.go ((w64 ((w64 ((IntKind.wrap .u64 (w64 (x1.1+x1.2))).fdiv (2^ (min (1:Int).toNat (IntKind.bits .u64)))))+1)),x1.2))) (some (.go (x1.1,(w64 ((IntKind.wrap .u64 (w64 (x1.1+x1.2))).fdiv (2^ (min (1:Int).toNat (IntKind.bits .u64))))))))) (some (.out x1.1))
instance slices_BinarySearchFunc_Stay_Stay_Stay_world_order_l1_le (p1:(List Stay))(p2:Stay)(x1:(Int×Int)):Le (K9 p1 p2 x1) (D8 p1 p2 x1):=by unfold K9 D8;repeat' first|infer_instance|with_reducible refine Le.bind (h:= ?_) (hf:=fun _=> ?_)|with_reducible refine Le.cond (h:= ?_) (h':= ?_)|with_reducible refine Le.thenS (h:= ?_) (hf:=fun _=> ?_) (hg:=fun _=> ?_)
def E4 (p1:(List Stay))(p2:Stay):Option (Int×Bool):=
  (N8 (K9 p1 p2) (0,(p1.length:Int))).bind fun y1=>((cond (decide (y1< (p1.length:Int))) (D0 p1 y1) (some default))).bind fun v3=>((cond (decide (y1< (p1.length:Int))) (A81 v3 p2) (some default))).bind fun v4=>some (y1,((decide (y1< (p1.length:Int)))&& (v4==0)))
instance slices_BinarySearchFunc_Stay_Stay_Stay_world_order_le (p1:(List Stay))(p2:Stay):Le (E4 p1 p2) (C1 p1 p2):=by unfold E4 C1;repeat' first|infer_instance|with_reducible refine Le.bind (h:= ?_) (hf:=fun _=> ?_)|with_reducible refine Le.cond (h:= ?_) (h':= ?_)|with_reducible refine Le.thenS (h:= ?_) (hf:=fun _=> ?_) (hg:=fun _=> ?_)
def A9z (p1:Part)(p2:Int):Option Bool:=
  some (p1.Lane_==p2)
instance roads_part_1_b_le (p1:Part)(p2:Int):Le (A9z p1 p2) (A4s p1 p2):=by unfold A9z A4s;infer_instance
def P2 (p1:(List Part))(p2:Int)(x1:Int):Option (Stp Int (Sum Unit Int)):=
  cond (decide (x1< (p1.length:Int))) ((D0 p1 x1).bind fun v1=>(A9z v1 p2).bind fun v2=>cond v2 (some (.out (.inr x1))) (some (.go (w64 (x1+1))))) (some (.out (.inl ())))
instance slices_IndexFunc_Part_Part_roads_part_1b_l1_le (p1:(List Part))(p2:Int)(x1:Int):Le (P2 p1 p2 x1) (I6 p1 p2 x1):=by unfold P2 I6;infer_instance
def Q7 (p1:(List Part))(p2:Int):Option Int:=
  thenS (N8 (P2 p1 p2) 0) (fun _=>some (-1)) (fun r=>some r)
instance slices_IndexFunc_Part_Part_roads_part_1b_le (p1:(List Part))(p2:Int):Le (Q7 p1 p2) (J8 p1 p2):=by unfold Q7 J8;infer_instance
def B5j (p1:Zone)(p2:Int):Option (Part×Bool):=
  (Q7 p1.Parts p2).bind fun v1=>cond (decide (v1<0)) (some ((Part.mk 0 0 0 0),false)) ((D0 p1.Parts v1).bind fun v2=>some (v2,true))
instance roads_part_le (p1:Zone)(p2:Int):Le (B5j p1 p2) (B1t p1 p2):=by unfold B5j B1t;infer_instance
def A6t (p1:Int)(p2:Map)(p3:Int):Option Bool:=
  (D0 p2.Zones p3).bind fun v1=>(B5j v1 p1).bind fun v2=>some v2.2
instance roads_Entry_1_b_b_le (p1:Int)(p2:Map)(p3:Int):Le (A6t p1 p2 p3) (A1s p1 p2 p3):=by unfold A6t A1s;infer_instance
def P3 (p1:(List Int))(p2:Map)(p3:Int)(x1:Int):Option (Stp Int (Sum Unit Int)):=
  cond (decide (x1< (p1.length:Int))) ((D0 p1 x1).bind fun v1=>(A6t v1 p2 p3).bind fun v2=>cond v2 (some (.out (.inr x1))) (some (.go (w64 (x1+1))))) (some (.out (.inl ())))
instance slices_IndexFunc_int_int_roads_Entry_1bb_l1_le (p1:(List Int))(p2:Map)(p3:Int)(x1:Int):Le (P3 p1 p2 p3 x1) (I7 p1 p2 p3 x1):=by unfold P3 I7;infer_instance
def Q8 (p1:(List Int))(p2:Map)(p3:Int):Option Int:=
  thenS (N8 (P3 p1 p2 p3) 0) (fun _=>some (-1)) (fun r=>some r)
instance slices_IndexFunc_int_int_roads_Entry_1bb_le (p1:(List Int))(p2:Map)(p3:Int):Le (Q8 p1 p2 p3) (J9 p1 p2 p3):=by unfold Q8 J9;infer_instance
def B3z (p1:Map)(p2:(List Int))(p3:Int):Option Int:=
  (A2a p1 p2).bind fun v1=>cond ((decide (p3<0))||(decide (p3≥(p1.Zones.length:Int)))) (some (-1)) ((Q8 v1.lanes p1 p3).bind fun v2=>some v2)
instance roads_Entry_le (p1:Map)(p2:(List Int))(p3:Int):Le (B3z p1 p2 p3) (A9h p1 p2 p3):=by unfold B3z A9h;infer_instance
def A82 (p1:Map)(p2:(List Int))(p3:Int):Option Int:=
  (B3z p1 p2 p3).bind fun v1=>cond (decide (v1≥0)) ((D0 p2 v1).bind fun v2=>some v2) (some (-1))
instance world_entry_le (p1:Map)(p2:(List Int))(p3:Int):Le (A82 p1 p2 p3) (A5b p1 p2 p3):=by unfold A82 A5b;infer_instance
def B00 (p1:Signal)(p2:Int)(x2:(Int×Int)):Option (Stp (Int×Int) (Sum Unit Bool)):=
  cond (decide (x2.2< (p1.Phases.length:Int))) ((D0 p1.Phases x2.2).bind fun v5=>cond (decide (x2.1≥v5.Ticks)) (some (.go ((w64 (x2.1 - v5.Ticks)),(w64 (x2.2+1))))) ((T8 v5.Green p2).bind fun v6=>some (.out (.inr v6)))) (some (.out (.inl ())))
instance signs_Green_l2_le (p1:Signal)(p2:Int)(x2:(Int×Int)):Le (B00 p1 p2 x2) (A4t p1 p2 x2):=by unfold B00 A4t;infer_instance
def B01 (p1:Signal)(x1:(Int×Int)):Option (Stp (Int×Int) Int):=
  cond (decide (x1.2< (p1.Phases.length:Int))) ((D0 p1.Phases x1.2).bind fun v1=>some (.go ((w64 (x1.1+v1.Ticks)),(w64 (x1.2+1))))) (some (.out x1.1))
instance signs_Green_l1_le (p1:Signal)(x1:(Int×Int)):Le (B01 p1 x1) (A4u p1 x1):=by unfold B01 A4u;infer_instance
def B0j (p1:Signal)(p2:Int)(p3:Int):Option Bool:=
  (N8 (B01 p1) (0,0)).bind fun y1=>(C2r p1.Offset y1).bind fun v2=>(C2r p3 y1).bind fun v3=>(C2r (w64 (v2+v3)) y1).bind fun v4=>thenS (N8 (B00 p1 p2) (v4,0)) (fun _=>some false) (fun r=>some r)
instance signs_Green_le (p1:Signal)(p2:Int)(p3:Int):Le (B0j p1 p2 p3) (A75 p1 p2 p3):=by unfold B0j A75;infer_instance
def B40 (p1:Map)(p2:Int)(p3:Int)(p4:Int):Option Bool:=
  ((cond (((decide (p4≥0))&& (decide (p2≥0)))&& (decide (p2< (p1.Signals.length:Int)))) (B3x p1 p3) (some default))).bind fun v1=>((cond ((((decide (p4≥0))&& (decide (p2≥0)))&& (decide (p2< (p1.Signals.length:Int))))&&v1) (D0 p1.Signals p2) (some default))).bind fun v2=>((cond ((((decide (p4≥0))&& (decide (p2≥0)))&& (decide (p2< (p1.Signals.length:Int))))&&v1) (B0j v2 p3 p4) (some default))).bind fun v3=>some (((((decide (p4≥0))&& (decide (p2≥0)))&& (decide (p2< (p1.Signals.length:Int))))&&v1)&&v3)
instance roads_Green_le (p1:Map)(p2:Int)(p3:Int)(p4:Int):Le (B40 p1 p2 p3 p4) (A9i p1 p2 p3 p4):=by unfold B40 A9i;repeat' first|infer_instance|with_reducible refine Le.bind (h:= ?_) (hf:=fun _=> ?_)|with_reducible refine Le.cond (h:= ?_) (h':= ?_)|with_reducible refine Le.thenS (h:= ?_) (hf:=fun _=> ?_) (hg:=fun _=> ?_)
def B02 (p1:Part)(p2:Int):Option Bool:=
  some (p1.Lane_==p2)
instance world_Rank_1_b_le (p1:Part)(p2:Int):Le (B02 p1 p2) (A4v p1 p2):=by unfold B02 A4v;infer_instance
def P4 (p1:(List Part))(p2:Int)(x1:Int):Option (Stp Int (Sum Unit Int)):=
  cond (decide (x1< (p1.length:Int))) ((D0 p1 x1).bind fun v1=>(B02 v1 p2).bind fun v2=>cond v2 (some (.out (.inr x1))) (some (.go (w64 (x1+1))))) (some (.out (.inl ())))
instance slices_IndexFunc_Part_Part_world_Rank_1b_l1_le (p1:(List Part))(p2:Int)(x1:Int):Le (P4 p1 p2 x1) (I8 p1 p2 x1):=by unfold P4 I8;infer_instance
def Q9 (p1:(List Part))(p2:Int):Option Int:=
  thenS (N8 (P4 p1 p2) 0) (fun _=>some (-1)) (fun r=>some r)
instance slices_IndexFunc_Part_Part_world_Rank_1b_le (p1:(List Part))(p2:Int):Le (Q9 p1 p2) (K0 p1 p2):=by unfold Q9 K0;infer_instance
def B2v (p1:Map)(p2:Agent)(p3:Int)(p4:Int):Option Int:=
  (A82 p1 p2.Route p3).bind fun v1=>cond (decide (v1<0)) (some 0) ((D0 p1.Zones p3).bind fun v2=>((cond (decide (v2.Signal_>0)) (B40 p1 (w64 (v2.Signal_ - 1)) v1 p4) (some default))).bind fun v3=>cond ((decide (v2.Signal_>0))&&v3) (some 2) (cond (decide (v2.Signal_>0)) (some 0) ((Q9 v2.Parts v1).bind fun v4=>(D0 v2.Parts v4).bind fun v5=>some v5.Rank)))
instance world_Rank_le (p1:Map)(p2:Agent)(p3:Int)(p4:Int):Le (B2v p1 p2 p3 p4) (A90 p1 p2 p3 p4):=by unfold B2v A90;repeat' first|infer_instance|with_reducible refine Le.bind (h:= ?_) (hf:=fun _=> ?_)|with_reducible refine Le.cond (h:= ?_) (h':= ?_)|with_reducible refine Le.thenS (h:= ?_) (hf:=fun _=> ?_) (hg:=fun _=> ?_)
def A2b (p1:WorldScene)(x1:(Int× (List Stay)))(v1:Agent)(x2:(Int× (List Stay))):Option (Stp (Int× (List Stay)) (List Stay)):=
  cond (decide (x2.1< (p1.m.Zones.length:Int))) ((T0 (WorldScene.mk p1.m p1.before (State.mk p1.after.Tick p1.after.Agents x2.2) p1.acts p1.crashes) x1.1 x2.1).bind fun v2=>cond (!v2) (some (.go ((w64 (x2.1+1)),x2.2))) ((E4 p1.before.In (Stay.mk x1.1 x2.1 p1.before.Tick 0)).bind fun v3=>(cond v3.2 ((D0 p1.before.In v3.1).bind fun v4=>some v4) ((B2v p1.m v1 x2.1 p1.before.Tick).bind fun v5=>some (Stay.mk x1.1 x2.1 p1.before.Tick v5))).bind fun y2=>(A83 x2.2 [y2]).bind fun v6=>some (.go ((w64 (x2.1+1)),v6)))) (some (.out x2.2))
instance world_scene_stays_o_l2_le (p1:WorldScene)(x1:(Int× (List Stay)))(v1:Agent)(x2:(Int× (List Stay))):Le (A2b p1 x1 v1 x2) (V7 p1 x1 v1 x2):=by unfold A2b V7;repeat' first|infer_instance|with_reducible refine Le.bind (h:= ?_) (hf:=fun _=> ?_)|with_reducible refine Le.cond (h:= ?_) (h':= ?_)|with_reducible refine Le.thenS (h:= ?_) (hf:=fun _=> ?_) (hg:=fun _=> ?_)
def A2c (p1:WorldScene)(x1:(Int× (List Stay))):Option (Stp (Int× (List Stay)) WorldScene):=
  cond (decide (x1.1< (p1.before.Agents.length:Int))) ((D0 p1.before.Agents x1.1).bind fun v1=>(N8 (A2b p1 x1 v1) (0,x1.2)).bind fun y1=>some (.go ((w64 (x1.1+1)),y1))) (some (.out ((WorldScene.mk p1.m p1.before (State.mk p1.after.Tick p1.after.Agents x1.2) p1.acts p1.crashes))))
instance world_scene_stays_o_l1_le (p1:WorldScene)(x1:(Int× (List Stay))):Le (A2c p1 x1) (V8 p1 x1):=by unfold A2c V8;repeat' first|infer_instance|with_reducible refine Le.bind (h:= ?_) (hf:=fun _=> ?_)|with_reducible refine Le.cond (h:= ?_) (h':= ?_)|with_reducible refine Le.thenS (h:= ?_) (hf:=fun _=> ?_) (hg:=fun _=> ?_)
def A4h (p1:WorldScene):Option WorldScene:=
  N8 (A2c p1) (0,[])
instance world_scene_stays_o_le (p1:WorldScene):Le (A4h p1) (A0b p1):=by unfold A4h A0b;infer_instance
def C0p (s:State)(i:Nat):Nat→Nat→Option (List (Int×Int))
  |0,_=>some []
  |k+1,j=>(A22 s i).bind fun a=>(A22 s j).bind fun b=>(C0p s i k (j+1)).bind fun l=>some (cond (a&&b) (((i:Int),(j:Int))::l) l)
instance pairsJ_le (s:State)(i:Nat): ∀(k j:Nat),Le (C0p s i k j) (B75 s i k j)
  |0,j=>Le.refl _
  |k+1,j=>by
   rw [B75,C0p]
   have:=fun j=>pairsJ_le s i k j
   infer_instance
def C0q (s:State)(n:Nat):Nat→Nat→Option (List (Int×Int))
  |0,_=>some []
  |k+1,i=>(C0p s i (n - (i+1)) (i+1)).bind fun a=>(C0q s n k (i+1)).bind fun b=>some (a++b)
instance pairsI_le (s:State)(n:Nat): ∀(k i:Nat),Le (C0q s n k i) (B8u s n k i)
  |0,i=>Le.refl _
  |k+1,i=>by
   rw [B8u,C0q]
   have:=fun i=>pairsI_le s n k i
   infer_instance
def C0r (s:State):Option (List (Int×Int)):=if s.Agents.length≤1000000 then C0q s s.Agents.length s.Agents.length 0 else none
instance pairsC_le (s:State):Le (C0r s) (B9t s):=by unfold C0r B9t;infer_instance
def A1h (p1:WorldScene)(p2:Int)(p3:Int)(p4:Int):Option Bool:=
  (T0 p1 p2 p4).bind fun v1=>((cond v1 (T0 p1 p3 p4) (some default))).bind fun v2=>((cond (v1&&v2) (D0 p1.before.Agents p2) (some default))).bind fun v3=>((cond (v1&&v2) (A82 p1.m v3.Route p4) (some default))).bind fun v4=>((cond (v1&&v2) (D0 p1.before.Agents p3) (some default))).bind fun v5=>((cond (v1&&v2) (A82 p1.m v5.Route p4) (some default))).bind fun v6=>some ((v1&&v2)&& (v4 !=v6))
instance world_scene_clash_b_le (p1:WorldScene)(p2:Int)(p3:Int)(p4:Int):Le (A1h p1 p2 p3 p4) (W0 p1 p2 p3 p4):=by unfold A1h W0;repeat' first|infer_instance|with_reducible refine Le.bind (h:= ?_) (hf:=fun _=> ?_)|with_reducible refine Le.cond (h:= ?_) (h':= ?_)|with_reducible refine Le.thenS (h:= ?_) (hf:=fun _=> ?_) (hg:=fun _=> ?_)
def B2w (p1:Map)(v5:WorldScene)(a1:(Int×Int))(x2:Int):Option (Stp Int (Sum Unit (State×Int))):=
  cond (decide (x2< (p1.Zones.length:Int))) ((A1h v5 a1.1 a1.2 x2).bind fun v10=>cond v10 (some (.out (.inr ((State.mk 0 [] []),12)))) (some (.go (w64 (x2+1))))) (some (.out (.inl ())))
instance world_New_l3_le (p1:Map)(v5:WorldScene)(a1:(Int×Int))(x2:Int):Le (B2w p1 v5 a1 x2) (A7t p1 v5 a1 x2):=by unfold B2w A7t;infer_instance
def B2x (p1:Map)(p2:(List Agent))(v5:WorldScene)(x1:Unit)(a1:(Int×Int)):Option (Stp Unit (Sum Unit (State×Int))):=
  (D0 p2 a1.1).bind fun v7=>(D0 p2 a1.2).bind fun v8=>(A6s p1 v7 v8).bind fun v9=>cond v9 (some (.out (.inr ((State.mk 0 [] []),12)))) (thenS (N8 (B2w p1 v5 a1) 0) (fun _=>some (.go ())) (fun r=>some (.out (.inr r))))
instance world_New_l2_le (p1:Map)(p2:(List Agent))(v5:WorldScene)(x1:Unit)(a1:(Int×Int)):Le (B2x p1 p2 v5 x1 a1) (A7u p1 p2 v5 x1 a1):=by unfold B2x A7u;infer_instance
def B2y:Option Unit:=
  some ()
instance world_New_i1_le:Le (B2y) (B0g):=by unfold B2y B0g;infer_instance
def B20 (p1:Map)(p2:(List Agent)):Option (State×Int):=
  (B2r (State.mk 0 p2 [])).bind fun v1=>(A5s p1 v1).bind fun v2=>cond (v2 !=0) (some ((State.mk 0 [] []),v2)) ((P1 p2).bind fun v3=>cond v3 (some ((State.mk 0 [] []),10)) ((B2r v1).bind fun v4=>(A4h (WorldScene.mk p1 v1 v4 [] [])).bind fun v5=>(B2y).bind fun y1=>thenS ((C0r v5.before).bind fun v6=>loopL (B2x p1 p2 v5) (fun (x1:Unit)=> .inl ()) v6 ()) (fun _=>some (v5.after,0)) (fun r=>some r)))
instance world_New_le (p1:Map)(p2:(List Agent)):Le (B20 p1 p2) (A9j p1 p2):=by unfold B20 A9j;repeat' first|infer_instance|with_reducible refine Le.bind (h:= ?_) (hf:=fun _=> ?_)|with_reducible refine Le.cond (h:= ?_) (h':= ?_)|with_reducible refine Le.thenS (h:= ?_) (hf:=fun _=> ?_) (hg:=fun _=> ?_)
def A8f (p1:Int):Option Int:=
  (cond (decide (p1≥4294967296)) (some ((p1.fdiv (2^ (min (32:Int).toNat (IntKind.bits .u64)))),32)) (some (p1,0))).bind fun y1=>(cond (decide (y1.1≥65536)) (some ((y1.1.fdiv (2^ (min (16:Int).toNat (IntKind.bits .u64)))),(w64 (y1.2+16)))) (some (y1.1,y1.2))).bind fun y2=>cond (decide (y2.1≥256)) ((D06 (ByteArray.mk #[0,1,2,2,3,3,3,3,4,4,4,4,4,4,4,4,5,5,5,5,5,5,5,5,5,5,5,5,5,5,5,5,6,6,6,6,6,6,6,6,6,6,6,6,6,6,6,6,6,6,6,6,6,6,6,6,6,6,6,6,6,6,6,6,7,7,7,7,7,7,7,7,7,7,7,7,7,7,7,7,7,7,7,7,7,7,7,7,7,7,7,7,7,7,7,7,7,7,7,7,7,7,7,7,7,7,7,7,7,7,7,7,7,7,7,7,7,7,7,7,7,7,7,7,7,7,7,7,8,8,8,8,8,8,8,8,8,8,8,8,8,8,8,8,8,8,8,8,8,8,8,8,8,8,8,8,8,8,8,8,8,8,8,8,8,8,8,8,8,8,8,8,8,8,8,8,8,8,8,8,8,8,8,8,8,8,8,8,8,8,8,8,8,8,8,8,8,8,8,8,8,8,8,8,8,8,8,8,8,8,8,8,8,8,8,8,8,8,8,8,8,8,8,8,8,8,8,8,8,8,8,8,8,8,8,8,8,8,8,8,8,8,8,8,8,8,8,8,8,8,8,8,8,8,8,8]) (IntKind.wrap .u8 (y2.1.fdiv (2^ (min (8:Int).toNat (IntKind.bits .u64)))))).bind fun v1=>some (w64 ((w64 (y2.2+8))+ (w64 v1)))) ((D06 (ByteArray.mk #[0,1,2,2,3,3,3,3,4,4,4,4,4,4,4,4,5,5,5,5,5,5,5,5,5,5,5,5,5,5,5,5,6,6,6,6,6,6,6,6,6,6,6,6,6,6,6,6,6,6,6,6,6,6,6,6,6,6,6,6,6,6,6,6,7,7,7,7,7,7,7,7,7,7,7,7,7,7,7,7,7,7,7,7,7,7,7,7,7,7,7,7,7,7,7,7,7,7,7,7,7,7,7,7,7,7,7,7,7,7,7,7,7,7,7,7,7,7,7,7,7,7,7,7,7,7,7,7,8,8,8,8,8,8,8,8,8,8,8,8,8,8,8,8,8,8,8,8,8,8,8,8,8,8,8,8,8,8,8,8,8,8,8,8,8,8,8,8,8,8,8,8,8,8,8,8,8,8,8,8,8,8,8,8,8,8,8,8,8,8,8,8,8,8,8,8,8,8,8,8,8,8,8,8,8,8,8,8,8,8,8,8,8,8,8,8,8,8,8,8,8,8,8,8,8,8,8,8,8,8,8,8,8,8,8,8,8,8,8,8,8,8,8,8,8,8,8,8,8,8,8,8,8,8,8,8]) (IntKind.wrap .u8 y2.1)).bind fun v2=>some (w64 (y2.2+ (w64 v2))))
instance math_bits_Len64_le (p1:Int):Le (A8f p1) (A3h p1):=by unfold A8f A3h;repeat' first|infer_instance|with_reducible refine Le.bind (h:= ?_) (hf:=fun _=> ?_)|with_reducible refine Le.cond (h:= ?_) (h':= ?_)|with_reducible refine Le.thenS (h:= ?_) (hf:=fun _=> ?_) (hg:=fun _=> ?_)
def A7i (p1:Int):Option Int:=
  (A8f p1).bind fun v1=>some v1
instance math_bits_Len_le (p1:Int):Le (A7i p1) (A41 p1):=by unfold A7i A41;infer_instance
def B03 (p1:Int)(p2:Int):Option Bool:=
  (A0r p1).bind fun v1=>((cond v1 (A0r p2) (some default))).bind fun v2=>some ((v1&& (!v2))||(decide (p1<p2)))
instance cmp_Less_int64_le (p1:Int)(p2:Int):Le (B03 p1 p2) (A4w p1 p2):=by unfold B03 A4w;infer_instance
def R3 (p2:Int)(x2:(Int× (List Int))):Option (Stp (Int× (List Int)) (List Int)):=
  ((cond (decide (x2.1>p2)) (D0 x2.2 x2.1) (some default))).bind fun v1=>((cond (decide (x2.1>p2)) (D0 x2.2 (w64 (x2.1 - 1))) (some default))).bind fun v2=>((cond (decide (x2.1>p2)) (B03 v1 v2) (some default))).bind fun v3=>cond ((decide (x2.1>p2))&&v3) ((D0 x2.2 (w64 (x2.1 - 1))).bind fun v4=>(D0 x2.2 x2.1).bind fun v5=>(D0 x2.2 x2.1).bind fun v6=>(D0 (B92 x2.2 x2.1 v4) (w64 (x2.1 - 1))).bind fun v7=>some (.go ((w64 (x2.1 - 1)),(B92 (B92 x2.2 x2.1 v4) (w64 (x2.1 - 1)) v5)))) (some (.out x2.2))
instance slices_insertionSortOrdered_int64_a_l2_le (p2:Int)(x2:(Int× (List Int))):Le (R3 p2 x2) (K1 p2 x2):=by unfold R3 K1;repeat' first|infer_instance|with_reducible refine Le.bind (h:= ?_) (hf:=fun _=> ?_)|with_reducible refine Le.cond (h:= ?_) (h':= ?_)|with_reducible refine Le.thenS (h:= ?_) (hf:=fun _=> ?_) (hg:=fun _=> ?_)
def R4 (p2:Int)(p3:Int)(x1:(Int× (List Int))):Option (Stp (Int× (List Int)) (List Int)):=
  cond (decide (x1.1<p3)) ((N8 (R3 p2) (x1.1,x1.2)).bind fun y1=>some (.go ((w64 (x1.1+1)),y1))) (some (.out (x1.2)))
instance slices_insertionSortOrdered_int64_a_l1_le (p2:Int)(p3:Int)(x1:(Int× (List Int))):Le (R4 p2 p3 x1) (K2 p2 p3 x1):=by unfold R4 K2;infer_instance
def T5 (p1:(List Int))(p2:Int)(p3:Int):Option (List Int):=
  N8 (R4 p2 p3) ((w64 (p2+1)),p1)
instance slices_insertionSortOrdered_int64_a_le (p1:(List Int))(p2:Int)(p3:Int):Le (T5 p1 p2 p3) (L8 p1 p2 p3):=by unfold T5 L8;infer_instance
def V0 (p1:(List Int))(x1:(Int×Int×Int×Bool×Bool)):Option (Stp (Int×Int×Int×Bool×Bool) (List Int)):=
  cond (decide ((w64 (x1.2.1 - x1.1))≤12)) ((T5 p1 x1.1 x1.2.1).bind fun v1=>some (.out (v1))) (cond (x1.2.2.1==0) (none) ((cond (!x1.2.2.2.1) (none) (some ())).bind fun _=>none))
instance slices_pdqsortOrdered_int64_a_l1_le (p1:(List Int))(x1:(Int×Int×Int×Bool×Bool)):Le (V0 p1 x1) (N6 p1 x1):=by unfold V0 N6;infer_instance
def X5 (p1:(List Int))(p2:Int)(p3:Int)(p4:Int):Option (List Int):=
  N8 (V0 p1) (p2,p3,p4,true,true)
instance slices_pdqsortOrdered_int64_a_le (p1:(List Int))(p2:Int)(p3:Int)(p4:Int):Le (X5 p1 p2 p3 p4) (Q1 p1 p2 p3 p4):=by unfold X5 Q1;infer_instance
def A0l (p1:(List Int)):Option (List Int):=
  (A7i (IntKind.wrap .u64 (p1.length:Int))).bind fun v1=>(X5 p1 0 (p1.length:Int) v1).bind fun v2=>some v2
instance slices_Sort_int64_int64_a_le (p1:(List Int)):Le (A0l p1) (T3 p1):=by unfold A0l T3;infer_instance
def R5 (p1:Int)(x2:Int):Option (Stp Int Unit):=
  ((cond (decide (x2>p1)) ((none:Option Unit)) (some default))).bind fun v1=>cond ((decide (x2>p1))&&false) (none) (some (.out ()))
instance slices_insertionSortOrdered_int64_n_l2_le (p1:Int)(x2:Int):Le (R5 p1 x2) (K3 p1 x2):=by unfold R5 K3;infer_instance
def R6 (p1:Int)(p2:Int)(x1:Int):Option (Stp Int Unit):=
  cond (decide (x1<p2)) ((N8 (R5 p1) x1).bind fun _=>some (.go (w64 (x1+1)))) (some (.out (())))
instance slices_insertionSortOrdered_int64_n_l1_le (p1:Int)(p2:Int)(x1:Int):Le (R6 p1 p2 x1) (K4 p1 p2 x1):=by unfold R6 K4;infer_instance
def T6 (p1:Int)(p2:Int):Option Unit:=
  N8 (R6 p1 p2) (w64 (p1+1))
instance slices_insertionSortOrdered_int64_n_le (p1:Int)(p2:Int):Le (T6 p1 p2) (L9 p1 p2):=by unfold T6 L9;infer_instance
def V1 (x1:(Int×Int×Int×Bool×Bool)):Option (Stp (Int×Int×Int×Bool×Bool) Unit):=
  cond (decide ((w64 (x1.2.1 - x1.1))≤12)) ((T6 x1.1 x1.2.1).bind fun v1=>some (.out (()))) (cond (x1.2.2.1==0) (none) ((cond (!x1.2.2.2.1) (none) (some ())).bind fun _=>none))
instance slices_pdqsortOrdered_int64_n_l1_le (x1:(Int×Int×Int×Bool×Bool)):Le (V1 x1) (N7 x1):=by unfold V1 N7;infer_instance
def X6 (p1:Int)(p2:Int)(p3:Int):Option Unit:=
  N8 (V1) (p1,p2,p3,true,true)
instance slices_pdqsortOrdered_int64_n_le (p1:Int)(p2:Int)(p3:Int):Le (X6 p1 p2 p3) (Q2 p1 p2 p3):=by unfold X6 Q2;infer_instance
def A0m:Option Unit:=
  (A7i (IntKind.wrap .u64 0)).bind fun v1=>(X6 0 0 v1).bind fun v2=>some ()
instance slices_Sort_int64_int64_n_le:Le (A0m) (T4):=by unfold A0m T4;infer_instance
def B2z (p1:Map)(p2:Int)(p3:Int)(v1:Zone)(x2:((List Int)×Int)):Option (Stp ((List Int)×Int) (List Int)):=
  cond (decide (x2.2< (v1.Parts.length:Int))) ((D0 v1.Parts x2.2).bind fun v2=>((cond (v2.Lane_==p2) (D0 p1.Signals (w64 (v1.Signal_ - 1))) (some default))).bind fun v3=>((cond (v2.Lane_==p2) (B0j v3 p2 p3) (some default))).bind fun v4=>cond ((v2.Lane_==p2)&& (!v4)) ((A83 x2.1 [v2.From]).bind fun v5=>some (.go (v5,(w64 (x2.2+1))))) (some (.go (x2.1,(w64 (x2.2+1)))))) (some (.out x2.1))
instance signs_Red_l2_le (p1:Map)(p2:Int)(p3:Int)(v1:Zone)(x2:((List Int)×Int)):Le (B2z p1 p2 p3 v1 x2) (A7v p1 p2 p3 v1 x2):=by unfold B2z A7v;repeat' first|infer_instance|with_reducible refine Le.bind (h:= ?_) (hf:=fun _=> ?_)|with_reducible refine Le.cond (h:= ?_) (h':= ?_)|with_reducible refine Le.thenS (h:= ?_) (hf:=fun _=> ?_) (hg:=fun _=> ?_)
def B30 (p1:Map)(p2:Int)(p3:Int)(x1:((List Int)×Int)):Option (Stp ((List Int)×Int) (List Int)):=
  cond (decide (x1.2< (p1.Zones.length:Int))) ((D0 p1.Zones x1.2).bind fun v1=>cond (v1.Signal_==0) (some (.go (x1.1,(w64 (x1.2+1))))) ((N8 (B2z p1 p2 p3 v1) (x1.1,0)).bind fun y2=>some (.go (y2,(w64 (x1.2+1)))))) (some (.out x1.1))
instance signs_Red_l1_le (p1:Map)(p2:Int)(p3:Int)(x1:((List Int)×Int)):Le (B30 p1 p2 p3 x1) (A7w p1 p2 p3 x1):=by unfold B30 A7w;infer_instance
def B6x (p1:Map)(p2:Int)(p3:Int):Option (List Int):=
  (N8 (B30 p1 p2 p3) ([],0)).bind fun y1=>cond (List.isEmpty y1) ((A0m).bind fun v8=>some []) ((A0l y1).bind fun v6=>(B7r v6).bind fun v7=>some v7)
instance signs_Red_le (p1:Map)(p2:Int)(p3:Int):Le (B6x p1 p2 p3) (B3p p1 p2 p3):=by unfold B6x B3p;infer_instance
def B6y (p1:Map)(p2:Int)(p3:Int):Option (List Int):=
  ((cond (!(decide (p3<0))) (B3x p1 p2) (some default))).bind fun v1=>cond ((decide (p3<0))||(!v1)) (some []) ((B6x p1 p2 p3).bind fun v2=>some v2)
instance roads_Red_le (p1:Map)(p2:Int)(p3:Int):Le (B6y p1 p2 p3) (B3q p1 p2 p3):=by unfold B6y B3q;infer_instance
def A48 (p1:Int)(p2:Agent)(p3:Int):Option Int:=
  some (mm2 true 0 (mm2 false (w64 (p2.V+p1)) p3))
instance world_move_1_b_b_le (p1:Int)(p2:Agent)(p3:Int):Le (A48 p1 p2 p3) (A0o p1 p2 p3):=by unfold A48 A0o;infer_instance
def A2r (p1:Int)(p2:Int)(p3:Int)(p4:Int)(p5:Int):Option Bool:=
  ((cond (decide (p1>p2)) (A5c p3 p4) (some default))).bind fun v1=>((cond ((decide (p1>p2))&& (decide ((w64 (p2+v1))<p1))) (A5c p5 p4) (some default))).bind fun v2=>some (((decide (p1>p2))&& (decide ((w64 (p2+v1))<p1)))&& (decide ((w64 ((w64 (p2+p5))+v2))≥p1)))
instance world_keeps_1_b_b_b_b_le (p1:Int)(p2:Int)(p3:Int)(p4:Int)(p5:Int):Le (A2r p1 p2 p3 p4 p5) (X2 p1 p2 p3 p4 p5):=by unfold A2r X2;infer_instance
def M5 (p1:(List Int))(p2:Int)(p3:Int)(p4:Int)(p5:Int)(x1:Int):Option (Stp Int (Sum Unit Int)):=
  cond (decide (x1< (p1.length:Int))) ((D0 p1 x1).bind fun v1=>(A2r v1 p2 p3 p4 p5).bind fun v2=>cond v2 (some (.out (.inr x1))) (some (.go (w64 (x1+1))))) (some (.out (.inl ())))
instance slices_IndexFunc_int64_int64_world_keeps_1bbbb_l1_le (p1:(List Int))(p2:Int)(p3:Int)(p4:Int)(p5:Int)(x1:Int):Le (M5 p1 p2 p3 p4 p5 x1) (F0 p1 p2 p3 p4 p5 x1):=by unfold M5 F0;infer_instance
def N5 (p1:(List Int))(p2:Int)(p3:Int)(p4:Int)(p5:Int):Option Int:=
  thenS (N8 (M5 p1 p2 p3 p4 p5) 0) (fun _=>some (-1)) (fun r=>some r)
instance slices_IndexFunc_int64_int64_world_keeps_1bbbb_le (p1:(List Int))(p2:Int)(p3:Int)(p4:Int)(p5:Int):Le (N5 p1 p2 p3 p4 p5) (G4 p1 p2 p3 p4 p5):=by unfold N5 G4;infer_instance
def M6 (p1:(List Int))(p2:Int)(p3:Int)(p4:Int)(p5:Int):Option Bool:=
  (N5 p1 p2 p3 p4 p5).bind fun v1=>some (decide (v1≥0))
instance slices_ContainsFunc_int64_int64_world_keeps_1bbbb_le (p1:(List Int))(p2:Int)(p3:Int)(p4:Int)(p5:Int):Le (M6 p1 p2 p3 p4 p5) (F1 p1 p2 p3 p4 p5):=by unfold M6 F1;infer_instance
def B41 (p1:(List Int))(p2:Int)(p3:Int)(p4:Int)(p5:Int):Option Bool:=
  (M6 p1 p2 p3 p5 p4).bind fun v1=>some (!v1)
instance world_keeps_le (p1:(List Int))(p2:Int)(p3:Int)(p4:Int)(p5:Int):Le (B41 p1 p2 p3 p4 p5) (A9l p1 p2 p3 p4 p5):=by unfold B41 A9l;infer_instance
def B11 (p2:Agent)(v1:(Int×Int))(v3:(Int×Int×Int))(v5:(List Int))(x1:Int):Option (Stp Int Int):=
  ((cond (decide (x1>(w64 (0 - v3.2.2)))) (A48 x1 p2 v3.1) (some default))).bind fun v6=>((cond (decide (x1>(w64 (0 - v3.2.2)))) (B41 v5 v1.2 p2.V v6 v3.2.2) (some default))).bind fun v7=>cond ((decide (x1>(w64 (0 - v3.2.2))))&& (!v7)) (some (.go (w64 (x1 - 1)))) (some (.out x1))
instance world_move_l1_le (p2:Agent)(v1:(Int×Int))(v3:(Int×Int×Int))(v5:(List Int))(x1:Int):Le (B11 p2 v1 v3 v5 x1) (A6d p2 v1 v3 v5 x1):=by unfold B11 A6d;repeat' first|infer_instance|with_reducible refine Le.bind (h:= ?_) (hf:=fun _=> ?_)|with_reducible refine Le.cond (h:= ?_) (h':= ?_)|with_reducible refine Le.thenS (h:= ?_) (hf:=fun _=> ?_) (hg:=fun _=> ?_)
def B5k (p1:Map)(p2:Agent)(p3:Int)(p4:Int):Option Agent:=
  (B2s p1 p2).bind fun v1=>(D0 p1.Lanes v1.1).bind fun v2=>(A45 v2.Kind).bind fun v3=>((cond p2.Obey (A47 p1 v1.1) (some default))).bind fun v4=>(cond (p2.Obey&& (decide (v1.2≤v4))) ((B6y p1 v1.1 p3).bind fun v5=>(N8 (B11 p2 v1 v3 v5) (mm2 true (w64 (0 - v3.2.2)) (mm2 false p4 v3.2.1))).bind fun y2=>some y2) (some (mm2 true (w64 (0 - v3.2.2)) (mm2 false p4 v3.2.1)))).bind fun y1=>(A48 y1 p2 v3.1).bind fun v8=>(B2t p1 (Agent.mk p2.Route (w64 (p2.S+v8)) v8 p2.Len p2.Begin p2.Obey p2.Gone)).bind fun v9=>some (Agent.mk p2.Route (w64 (p2.S+v8)) v8 p2.Len p2.Begin p2.Obey v9)
instance world_move_le (p1:Map)(p2:Agent)(p3:Int)(p4:Int):Le (B5k p1 p2 p3 p4) (B1v p1 p2 p3 p4):=by unfold B5k B1v;repeat' first|infer_instance|with_reducible refine Le.bind (h:= ?_) (hf:=fun _=> ?_)|with_reducible refine Le.cond (h:= ?_) (h':= ?_)|with_reducible refine Le.thenS (h:= ?_) (hf:=fun _=> ?_) (hg:=fun _=> ?_)
def B5l (p1:Map)(p2:State)(p3:Int)(p4:Int):Option Agent:=
  cond ((decide (p3<0))||(decide (p3≥(p2.Agents.length:Int)))) (some (Agent.mk [] 0 0 0 0 false false)) ((D0 p2.Agents p3).bind fun v1=>(A3s v1).bind fun v2=>(A22 p2 p3).bind fun v3=>((cond (!(!v3)) (A5s p1 p2) (some default))).bind fun v4=>cond ((!v3)||(v4 !=0)) (some v2) ((B5k p1 v2 p2.Tick p4).bind fun v5=>some v5))
instance world_Move_le (p1:Map)(p2:State)(p3:Int)(p4:Int):Le (B5l p1 p2 p3 p4) (B1w p1 p2 p3 p4):=by unfold B5l B1w;repeat' first|infer_instance|with_reducible refine Le.bind (h:= ?_) (hf:=fun _=> ?_)|with_reducible refine Le.cond (h:= ?_) (h':= ?_)|with_reducible refine Le.thenS (h:= ?_) (hf:=fun _=> ?_) (hg:=fun _=> ?_)
def A7c (p1:State)(x1:(Int×State)):Option (Stp (Int×State) State):=
  cond (decide (x1.1< (p1.Agents.length:Int))) ((D0 p1.Agents x1.1).bind fun v2=>(A3s v2).bind fun v3=>(A83 x1.2.Agents [v3]).bind fun v4=>some (.go ((w64 (x1.1+1)),(State.mk x1.2.Tick v4 x1.2.In)))) (some (.out x1.2))
instance world_Copy_me_l1_le (p1:State)(x1:(Int×State)):Le (A7c p1 x1) (A2g p1 x1):=by unfold A7c A2g;infer_instance
def B12 (p1:State):Option State:=
  (Z3 p1.In).bind fun v1=>(N8 (A7c p1) (0,(State.mk p1.Tick [] v1))).bind fun y1=>some y1
instance world_Copy_me_le (p1:State):Le (B12 p1) (A6e p1):=by unfold B12 A6e;infer_instance
def A1i (p1:WorldScene)(p2:Int)(p3:Int):Option (Int×Bool):=
  (D0 p1.before.Agents p2).bind fun v1=>(A13 v1.Route p3).bind fun v2=>cond (decide (v2<0)) (some (0,false)) ((A6r p1.m v1.Route).bind fun v3=>(D0 v3 v2).bind fun v4=>some (v4,true))
instance world_scene_start_b_le (p1:WorldScene)(p2:Int)(p3:Int):Le (A1i p1 p2 p3) (W1 p1 p2 p3):=by unfold A1i W1;infer_instance
def A2d (p1:WorldScene)(p2:Int)(p3:Int):Option Stay:=
  (E4 p1.after.In (Stay.mk p2 p3 0 0)).bind fun v1=>(D0 p1.after.In v1.1).bind fun v2=>some v2
instance world_scene_stay_b_le (p1:WorldScene)(p2:Int)(p3:Int):Le (A2d p1 p2 p3) (Y2 p1 p2 p3):=by unfold A2d Y2;infer_instance
def B04 (p1:Map)(p2:State)(p3:(List Int))(v2:State)(y2:(List Agent))(y5:(List Stay))(a1:(Int×Int))(x6:(Int× (List Crash))):Option (Stp (Int× (List Crash)) (List Crash)):=
  cond (decide (x6.1< (p1.Zones.length:Int))) ((A1h (WorldScene.mk p1 p2 (State.mk v2.Tick y2 y5) p3 x6.2) a1.1 a1.2 x6.1).bind fun v28=>cond (!v28) (some (.go ((w64 (x6.1+1)),x6.2))) ((A2d (WorldScene.mk p1 p2 (State.mk v2.Tick y2 y5) p3 x6.2) a1.1 x6.1).bind fun v29=>(A2d (WorldScene.mk p1 p2 (State.mk v2.Tick y2 y5) p3 x6.2) a1.2 x6.1).bind fun v30=>(A0q v29.Rank v30.Rank).bind fun v31=>(A30 v30.Since v29.Since).bind fun v32=>(A9v [v31,v32]).bind fun v33=>(cond (v33==(-1)) (some [a1.1]) (cond (v33==1) (some [a1.2]) (some [a1.1,a1.2]))).bind fun y17=>(A83 x6.2 [(Crash.mk p2.Tick a1.1 a1.2 (-1) x6.1 y17)]).bind fun v34=>some (.go ((w64 (x6.1+1)),v34)))) (some (.out x6.2))
instance world_Step_l12_le (p1:Map)(p2:State)(p3:(List Int))(v2:State)(y2:(List Agent))(y5:(List Stay))(a1:(Int×Int))(x6:(Int× (List Crash))):Le (B04 p1 p2 p3 v2 y2 y5 a1 x6) (A4x p1 p2 p3 v2 y2 y5 a1 x6):=by unfold B04 A4x;repeat' first|infer_instance|with_reducible refine Le.bind (h:= ?_) (hf:=fun _=> ?_)|with_reducible refine Le.cond (h:= ?_) (h':= ?_)|with_reducible refine Le.thenS (h:= ?_) (hf:=fun _=> ?_) (hg:=fun _=> ?_)
def B05 (p1:Map)(p2:State)(p3:(List Int))(v2:State)(y2:(List Agent))(y5:(List Stay))(a1:(Int×Int))(y12:(List Crash)):Option (List Crash):=
  (N8 (B04 p1 p2 p3 v2 y2 y5 a1) (0,y12)).bind fun y16=>some y16
instance world_Step_i11_le (p1:Map)(p2:State)(p3:(List Int))(v2:State)(y2:(List Agent))(y5:(List Stay))(a1:(Int×Int))(y12:(List Crash)):Le (B05 p1 p2 p3 v2 y2 y5 a1 y12) (A7g p1 p2 p3 v2 y2 y5 a1 y12):=by unfold B05 A7g;infer_instance
def B06 (p1:Map)(p2:State)(p3:(List Int))(v2:State)(y2:(List Agent))(y5:(List Stay))(x4:(List Crash))(a1:(Int×Int))(x5:Int):Option (Stp Int (Sum Unit (List Crash))):=
  cond (decide (x5< (p1.Lanes.length:Int))) ((A1i (WorldScene.mk p1 p2 (State.mk v2.Tick y2 y5) p3 x4) a1.1 x5).bind fun v13=>(A1i (WorldScene.mk p1 p2 (State.mk v2.Tick y2 y5) p3 x4) a1.2 x5).bind fun v14=>cond ((!v13.2)||(!v14.2)) (some (.go (w64 (x5+1)))) ((D0 p2.Agents a1.1).bind fun v15=>(D0 p2.Agents a1.2).bind fun v16=>(cond (decide ((w64 (v15.S - v13.1))< (w64 (v16.S - v14.1)))) (some (v14.1,v13.1,a1.2,a1.1)) (some (v13.1,v14.1,a1.1,a1.2))).bind fun y14=>(D0 y2 y14.2.2.1).bind fun v17=>(A3o v17).bind fun v18=>(A0p v18 y14.1).bind fun v19=>(D0 y2 y14.2.2.2).bind fun v20=>(A3o v20).bind fun v21=>(A0p v21 y14.2.1).bind fun v22=>(D0 p2.Agents y14.2.2.2).bind fun v23=>(A3o v23).bind fun v24=>(A0p v24 y14.2.1).bind fun v25=>(A47 p1 x5).bind fun v26=>cond (((((decide (v19.to≥0))&& (decide (v22.to≥0)))&& (decide (v25.from_≤v26)))&& (decide (v19.from_≤v26)))&& (decide (v22.to≥v19.from_))) ((A83 x4 [(Crash.mk p2.Tick a1.1 a1.2 x5 (-1) [y14.2.2.2])]).bind fun v27=>some (.out (.inr v27))) (some (.go (w64 (x5+1)))))) (some (.out (.inl ())))
instance world_Step_l10_le (p1:Map)(p2:State)(p3:(List Int))(v2:State)(y2:(List Agent))(y5:(List Stay))(x4:(List Crash))(a1:(Int×Int))(x5:Int):Le (B06 p1 p2 p3 v2 y2 y5 x4 a1 x5) (A4y p1 p2 p3 v2 y2 y5 x4 a1 x5):=by unfold B06 A4y;repeat' first|infer_instance|with_reducible refine Le.bind (h:= ?_) (hf:=fun _=> ?_)|with_reducible refine Le.cond (h:= ?_) (h':= ?_)|with_reducible refine Le.thenS (h:= ?_) (hf:=fun _=> ?_) (hg:=fun _=> ?_)
def B13 (p1:Map)(p2:State)(p3:(List Int))(v2:State)(y2:(List Agent))(y5:(List Stay))(x4:(List Crash))(a1:(Int×Int)):Option (List Crash):=
  thenS (N8 (B06 p1 p2 p3 v2 y2 y5 x4 a1) 0) (fun _=>some x4) (fun r=>some r)
instance world_Step_i9_le (p1:Map)(p2:State)(p3:(List Int))(v2:State)(y2:(List Agent))(y5:(List Stay))(x4:(List Crash))(a1:(Int×Int)):Le (B13 p1 p2 p3 v2 y2 y5 x4 a1) (A8n p1 p2 p3 v2 y2 y5 x4 a1):=by unfold B13 A8n;infer_instance
def B14 (p1:Map)(p2:State)(p3:(List Int))(v2:State)(y2:(List Agent))(y5:(List Stay))(x4:(List Crash))(a1:(Int×Int)):Option (Stp (List Crash) (List Crash)):=
  (B13 p1 p2 p3 v2 y2 y5 x4 a1).bind fun y12=>(B05 p1 p2 p3 v2 y2 y5 a1 y12).bind fun y15=>some (.go y15)
instance world_Step_l8_le (p1:Map)(p2:State)(p3:(List Int))(v2:State)(y2:(List Agent))(y5:(List Stay))(x4:(List Crash))(a1:(Int×Int)):Le (B14 p1 p2 p3 v2 y2 y5 x4 a1) (A6f p1 p2 p3 v2 y2 y5 x4 a1):=by unfold B14 A6f;infer_instance
def B15:Option Unit:=
  some ()
instance world_Step_i7_le:Le (B15) (A8o):=by unfold B15 A8o;infer_instance
def B16 (p1:Map)(p2:State)(p3:(List Int))(v2:State)(y2:(List Agent))(y5:(List Stay)):Option (List Crash):=
  (B15).bind fun y10=>((C0r p2).bind fun v12=>loopL (B14 p1 p2 p3 v2 y2 y5) (fun (x4:(List Crash))=>x4) v12 []).bind fun y11=>some y11
instance world_Step_i6_le (p1:Map)(p2:State)(p3:(List Int))(v2:State)(y2:(List Agent))(y5:(List Stay)):Le (B16 p1 p2 p3 v2 y2 y5) (A8p p1 p2 p3 v2 y2 y5):=by unfold B16 A8p;infer_instance
def B17 (p1:Map)(p2:State)(p3:(List Int))(v2:State)(y2:(List Agent))(x2:(Int× (List Stay)))(v6:Agent)(x3:(Int× (List Stay))):Option (Stp (Int× (List Stay)) (List Stay)):=
  cond (decide (x3.1< (p1.Zones.length:Int))) ((T0 (WorldScene.mk p1 p2 (State.mk v2.Tick y2 x3.2) p3 []) x2.1 x3.1).bind fun v7=>cond (!v7) (some (.go ((w64 (x3.1+1)),x3.2))) ((E4 p2.In (Stay.mk x2.1 x3.1 p2.Tick 0)).bind fun v8=>(cond v8.2 ((D0 p2.In v8.1).bind fun v9=>some v9) ((B2v p1 v6 x3.1 p2.Tick).bind fun v10=>some (Stay.mk x2.1 x3.1 p2.Tick v10))).bind fun y8=>(A83 x3.2 [y8]).bind fun v11=>some (.go ((w64 (x3.1+1)),v11)))) (some (.out x3.2))
instance world_Step_l5_le (p1:Map)(p2:State)(p3:(List Int))(v2:State)(y2:(List Agent))(x2:(Int× (List Stay)))(v6:Agent)(x3:(Int× (List Stay))):Le (B17 p1 p2 p3 v2 y2 x2 v6 x3) (A6g p1 p2 p3 v2 y2 x2 v6 x3):=by unfold B17 A6g;repeat' first|infer_instance|with_reducible refine Le.bind (h:= ?_) (hf:=fun _=> ?_)|with_reducible refine Le.cond (h:= ?_) (h':= ?_)|with_reducible refine Le.thenS (h:= ?_) (hf:=fun _=> ?_) (hg:=fun _=> ?_)
def B18 (p1:Map)(p2:State)(p3:(List Int))(v2:State)(y2:(List Agent))(x2:(Int× (List Stay))):Option (Stp (Int× (List Stay)) (List Stay)):=
  cond (decide (x2.1< (p2.Agents.length:Int))) ((D0 p2.Agents x2.1).bind fun v6=>(N8 (B17 p1 p2 p3 v2 y2 x2 v6) (0,x2.2)).bind fun y7=>some (.go ((w64 (x2.1+1)),y7))) (some (.out x2.2))
instance world_Step_l4_le (p1:Map)(p2:State)(p3:(List Int))(v2:State)(y2:(List Agent))(x2:(Int× (List Stay))):Le (B18 p1 p2 p3 v2 y2 x2) (A6h p1 p2 p3 v2 y2 x2):=by unfold B18 A6h;infer_instance
def B19 (p1:Map)(p2:State)(p3:(List Int))(v2:State)(y2:(List Agent)):Option (List Stay):=
  (N8 (B18 p1 p2 p3 v2 y2) (0,[])).bind fun y6=>some y6
instance world_Step_i3_le (p1:Map)(p2:State)(p3:(List Int))(v2:State)(y2:(List Agent)):Le (B19 p1 p2 p3 v2 y2) (A8q p1 p2 p3 v2 y2):=by unfold B19 A8q;infer_instance
def B1a (p1:Map)(p2:State)(p3:(List Int))(x1:(Int× (List Agent))):Option (Stp (Int× (List Agent)) (List Agent)):=
  cond (decide (x1.1< (p2.Agents.length:Int))) ((cond (decide (x1.1< (p3.length:Int))) ((D0 p3 x1.1).bind fun v3=>some v3) (some 0)).bind fun y4=>(B5l p1 p2 x1.1 y4).bind fun v4=>(D0 x1.2 x1.1).bind fun v5=>some (.go ((w64 (x1.1+1)),(B92 x1.2 x1.1 v4)))) (some (.out x1.2))
instance world_Step_l2_le (p1:Map)(p2:State)(p3:(List Int))(x1:(Int× (List Agent))):Le (B1a p1 p2 p3 x1) (A6i p1 p2 p3 x1):=by unfold B1a A6i;repeat' first|infer_instance|with_reducible refine Le.bind (h:= ?_) (hf:=fun _=> ?_)|with_reducible refine Le.cond (h:= ?_) (h':= ?_)|with_reducible refine Le.thenS (h:= ?_) (hf:=fun _=> ?_) (hg:=fun _=> ?_)
def B1b (p1:Map)(p2:State)(p3:(List Int))(v2:State):Option (List Agent):=
  (N8 (B1a p1 p2 p3) (0,v2.Agents)).bind fun y3=>some y3
instance world_Step_i1_le (p1:Map)(p2:State)(p3:(List Int))(v2:State):Le (B1b p1 p2 p3 v2) (A8r p1 p2 p3 v2):=by unfold B1b A8r;infer_instance
def B07 (p1:Map)(p2:State)(p3:(List Int)):Option (State× (List Crash)×Int):=
  (A5s p1 p2).bind fun v1=>cond (v1 !=0) (some ((State.mk 0 [] []),[],v1)) (cond (decide (p2.Tick≥1099511627776)) (some ((State.mk 0 [] []),[],2)) ((B12 p2).bind fun v2=>((B1b p1 p2 p3 v2).bind fun y2=>(B19 p1 p2 p3 v2 y2).bind fun y5=>(B16 p1 p2 p3 v2 y2 y5).bind fun y9=>some (y2,y5,y9)).bind fun y1=>some ((State.mk (w64 (v2.Tick+1)) y1.1 y1.2.1),y1.2.2,0)))
instance world_Step_le (p1:Map)(p2:State)(p3:(List Int)):Le (B07 p1 p2 p3) (A76 p1 p2 p3):=by unfold B07 A76;repeat' first|infer_instance|with_reducible refine Le.bind (h:= ?_) (hf:=fun _=> ?_)|with_reducible refine Le.cond (h:= ?_) (h':= ?_)|with_reducible refine Le.thenS (h:= ?_) (hf:=fun _=> ?_) (hg:=fun _=> ?_)
def A8g (p1:(List Int))(p2:(List Int))(x1:Int):Option (Stp Int (Sum Unit Bool)):=
  cond ((decide (x1< (p1.length:Int)))&& (decide (x1< (p2.length:Int)))) ((D0 p1 x1).bind fun v1=>(D0 p2 x1).bind fun v2=>cond (v1 !=v2) (some (.out (.inr false))) (some (.go (w64 (x1+1))))) (some (.out (.inl ())))
instance kit_SameInts_l1_le (p1:(List Int))(p2:(List Int))(x1:Int):Le (A8g p1 p2 x1) (A3i p1 p2 x1):=by unfold A8g A3i;infer_instance
def B31 (p1:(List Int))(p2:(List Int)):Option Bool:=
  thenS (N8 (A8g p1 p2) 0) (fun _=>some ((p1.length:Int)==(p2.length:Int))) (fun r=>some r)
instance kit_SameInts_le (p1:(List Int))(p2:(List Int)):Le (B31 p1 p2) (A7y p1 p2):=by unfold B31 A7y;infer_instance
def A5i (p1:(List Crash))(p2:(List Crash))(x1:Int):Option (Stp Int (Sum Unit Bool)):=
  cond (decide (x1< (p1.length:Int))) ((D0 p1 x1).bind fun v1=>(D0 p2 x1).bind fun v2=>((cond (!(v1.Tick !=v2.Tick)) (D0 p1 x1) (some default))).bind fun v3=>((cond (!(v1.Tick !=v2.Tick)) (D0 p2 x1) (some default))).bind fun v4=>((cond (!((v1.Tick !=v2.Tick)||(v3.A !=v4.A))) (D0 p1 x1) (some default))).bind fun v5=>((cond (!((v1.Tick !=v2.Tick)||(v3.A !=v4.A))) (D0 p2 x1) (some default))).bind fun v6=>((cond (!(((v1.Tick !=v2.Tick)||(v3.A !=v4.A))||(v5.B !=v6.B))) (D0 p1 x1) (some default))).bind fun v7=>((cond (!(((v1.Tick !=v2.Tick)||(v3.A !=v4.A))||(v5.B !=v6.B))) (D0 p2 x1) (some default))).bind fun v8=>((cond (!((((v1.Tick !=v2.Tick)||(v3.A !=v4.A))||(v5.B !=v6.B))||(v7.Lane_ !=v8.Lane_))) (D0 p1 x1) (some default))).bind fun v9=>((cond (!((((v1.Tick !=v2.Tick)||(v3.A !=v4.A))||(v5.B !=v6.B))||(v7.Lane_ !=v8.Lane_))) (D0 p2 x1) (some default))).bind fun v10=>((cond (!(((((v1.Tick !=v2.Tick)||(v3.A !=v4.A))||(v5.B !=v6.B))||(v7.Lane_ !=v8.Lane_))||(v9.Zone_ !=v10.Zone_))) (D0 p1 x1) (some default))).bind fun v11=>((cond (!(((((v1.Tick !=v2.Tick)||(v3.A !=v4.A))||(v5.B !=v6.B))||(v7.Lane_ !=v8.Lane_))||(v9.Zone_ !=v10.Zone_))) (D0 p2 x1) (some default))).bind fun v12=>((cond (!(((((v1.Tick !=v2.Tick)||(v3.A !=v4.A))||(v5.B !=v6.B))||(v7.Lane_ !=v8.Lane_))||(v9.Zone_ !=v10.Zone_))) (B31 v11.Who v12.Who) (some default))).bind fun v13=>cond ((((((v1.Tick !=v2.Tick)||(v3.A !=v4.A))||(v5.B !=v6.B))||(v7.Lane_ !=v8.Lane_))||(v9.Zone_ !=v10.Zone_))||(!v13)) (some (.out (.inr false))) (some (.go (w64 (x1+1))))) (some (.out (.inl ())))
instance kit_SameCrashes_l1_le (p1:(List Crash))(p2:(List Crash))(x1:Int):Le (A5i p1 p2 x1) (A0y p1 p2 x1):=by unfold A5i A0y;repeat' first|infer_instance|with_reducible refine Le.bind (h:= ?_) (hf:=fun _=> ?_)|with_reducible refine Le.cond (h:= ?_) (h':= ?_)|with_reducible refine Le.thenS (h:= ?_) (hf:=fun _=> ?_) (hg:=fun _=> ?_)
def A56 (p1:(List Crash))(p2:(List Crash)):Option Bool:=
  cond ((p1.length:Int) !=(p2.length:Int)) (some false) (thenS (N8 (A5i p1 p2) 0) (fun _=>some true) (fun r=>some r))
instance kit_SameCrashes_le (p1:(List Crash))(p2:(List Crash)):Le (A56 p1 p2) (A1t p1 p2):=by unfold A56 A1t;infer_instance
def B32 (p1:Map)(p2:State)(p3:Int):Option Bool:=
  ((cond ((decide (p3≥0))&& (decide (p3≤16777216))) (A5s p1 p2) (some default))).bind fun v1=>some (((decide (p3≥0))&& (decide (p3≤16777216)))&& (v1==0))
instance world_able_le (p1:Map)(p2:State)(p3:Int):Le (B32 p1 p2 p3) (A91 p1 p2 p3):=by unfold B32 A91;infer_instance
def B08 (p3:Int)(v1:RoadsWay)(x1:Int):Option (Stp Int Int):=
  (D0 v1.starts x1).bind fun v3=>cond (decide (v3>p3)) (some (.go (w64 (x1 - 1)))) (some (.out x1))
instance roads_Place_l1_le (p3:Int)(v1:RoadsWay)(x1:Int):Le (B08 p3 v1 x1) (A4z p3 v1 x1):=by unfold B08 A4z;infer_instance
def B42 (p1:Map)(p2:(List Int))(p3:Int):Option (Int×Int×Bool):=
  (A2a p1 p2).bind fun v1=>((cond (!((v1.lanes.length:Int)==0)) (Z2 p3 0 v1.length) (some default))).bind fun v2=>cond (((v1.lanes.length:Int)==0)||(!v2)) (some (0,0,false)) ((N8 (B08 p3 v1) (w64 ((v1.lanes.length:Int) - 1))).bind fun y1=>(D0 v1.lanes y1).bind fun v4=>(D0 v1.starts y1).bind fun v5=>some (v4,(w64 (p3 - v5)),true))
instance roads_Place_le (p1:Map)(p2:(List Int))(p3:Int):Le (B42 p1 p2 p3) (A9m p1 p2 p3):=by unfold B42 A9m;repeat' first|infer_instance|with_reducible refine Le.bind (h:= ?_) (hf:=fun _=> ?_)|with_reducible refine Le.cond (h:= ?_) (h':= ?_)|with_reducible refine Le.thenS (h:= ?_) (hf:=fun _=> ?_) (hg:=fun _=> ?_)
def B1c (p2:Int)(x1:(Int×CurvePiece))(a1:(Int×CurvePiece)):Option (Stp (Int×CurvePiece) (Int×CurvePiece)):=
  cond ((a1.1==0)||(decide (a1.2.start≤p2))) (some (.go (a1.1,a1.2))) (some (.go (x1.1,x1.2)))
instance curve_find_l1_le (p2:Int)(x1:(Int×CurvePiece))(a1:(Int×CurvePiece)):Le (B1c p2 x1 a1) (A6j p2 x1 a1):=by unfold B1c A6j;infer_instance
def B5m (p1:Curve)(p2:Int):Option (Int×CurvePiece×Int):=
  ((B7s p1.Pts).bind fun v1=>loopL (B1c p2) (fun (x1:(Int×CurvePiece))=>(x1.1,x1.2)) v1 (0,(CurvePiece.mk (Spot.mk 0 0) (CurveVector.mk 0 0) 0 0))).bind fun y1=>some (y1.1,y1.2,(mm2 true 0 (mm2 false (w64 (p2 - y1.2.start)) y1.2.l)))
instance curve_find_le (p1:Curve)(p2:Int):Le (B5m p1 p2) (B1x p1 p2):=by unfold B5m B1x;infer_instance
def B0k (p1:Int)(p2:Int):Option Int:=
  (C9m .i64 p1 p2).bind fun v1=>(C2r p1 p2).bind fun v2=>cond (decide (v2<0)) (some (w64 (v1 - 1))) (some v1)
instance curve_floor_le (p1:Int)(p2:Int):Le (B0k p1 p2) (A77 p1 p2):=by unfold B0k A77;infer_instance
def B21 (p1:Curve)(p2:Int):Option Spot:=
  (A7z p1).bind fun v1=>cond (v1 !=0) (some (Spot.mk 0 0)) ((B5m p1 (mm2 true 0 p2)).bind fun v2=>(B0k (w64 (v2.2.1.v.x*v2.2.2)) v2.2.1.l).bind fun v3=>(B0k (w64 (v2.2.1.v.y*v2.2.2)) v2.2.1.l).bind fun v4=>some (Spot.mk (w64 (v2.2.1.p.X+v3)) (w64 (v2.2.1.p.Y+v4))))
instance curve_At_le (p1:Curve)(p2:Int):Le (B21 p1 p2) (B0i p1 p2):=by unfold B21 B0i;infer_instance
def B43 (p1:Map)(p2:(List Int))(p3:Int):Option Spot:=
  (A14 p1 p2).bind fun v1=>(B42 p1 p2 (mm2 true 0 (mm2 false p3 v1))).bind fun v2=>(D0 p1.Lanes v2.1).bind fun v3=>(B21 v3.Curve_ v2.2.1).bind fun v4=>some v4
instance world_at_le (p1:Map)(p2:(List Int))(p3:Int):Le (B43 p1 p2 p3) (B2l p1 p2 p3):=by unfold B43 B2l;infer_instance
def B44 (p1:Spot)(p2:Spot):Option Int:=
  (A5d [p1,p2]).bind fun v1=>cond (!v1) (some 0) ((A5e p1 p2).bind fun v2=>(Z7 v2 v2).bind fun v3=>some v3)
instance curve_Dist2_le (p1:Spot)(p2:Spot):Le (B44 p1 p2) (A9n p1 p2):=by unfold B44 A9n;infer_instance
def B33 (p1:Spot)(p2:Spot)(p3:Int):Option Bool:=
  (A5d [p1,p2]).bind fun v1=>((cond ((v1&& (decide (p3≥0)))&& (decide (p3≤33554432))) (B44 p1 p2) (some default))).bind fun v2=>some (((v1&& (decide (p3≥0)))&& (decide (p3≤33554432)))&& (decide (v2≤(w64 (p3*p3)))))
instance curve_Sees_le (p1:Spot)(p2:Spot)(p3:Int):Le (B33 p1 p2 p3) (A92 p1 p2 p3):=by unfold B33 A92;infer_instance
def B45 (p1:(List Span))(p2:Span)(x1:Int):Option (Stp Int (Sum Unit (WorldSpan×Bool))):=
  cond (decide (x1< (p1.length:Int))) ((D0 p1 x1).bind fun v1=>cond (v1.Lane_==p2.Lane_) ((A3p (WorldSpan.mk v1.From v1.To) (WorldSpan.mk p2.From p2.To)).bind fun v2=>(A1w v2).bind fun v3=>some (.out (.inr (v2,(!v3))))) (some (.go (w64 (x1+1))))) (some (.out (.inl ())))
instance world_on_l1_le (p1:(List Span))(p2:Span)(x1:Int):Le (B45 p1 p2 x1) (A9o p1 p2 x1):=by unfold B45 A9o;repeat' first|infer_instance|with_reducible refine Le.bind (h:= ?_) (hf:=fun _=> ?_)|with_reducible refine Le.cond (h:= ?_) (h':= ?_)|with_reducible refine Le.thenS (h:= ?_) (hf:=fun _=> ?_) (hg:=fun _=> ?_)
def B46 (p1:(List Span))(p2:Span):Option (WorldSpan×Bool):=
  thenS (N8 (B45 p1 p2) 0) (fun _=>some ((WorldSpan.mk 0 0),false)) (fun r=>some r)
instance world_on_le (p1:(List Span))(p2:Span):Le (B46 p1 p2) (B2m p1 p2):=by unfold B46 B2m;infer_instance
def A5j (p1:CurveVector)(p2:CurveVector):Option Int:=
  some (w64 ((w64 (p1.x*p2.y)) - (w64 (p1.y*p2.x))))
instance curve_vector_cross_le (p1:CurveVector)(p2:CurveVector):Le (A5j p1 p2) (A0z p1 p2):=by unfold A5j A0z;infer_instance
def B5n (p1:Int):Option Int:=
  cond (decide (p1>0)) (some 1) (cond (decide (p1<0)) (some (-1)) (some 0))
instance curve_sign_le (p1:Int):Le (B5n p1) (B1y p1):=by unfold B5n B1y;infer_instance
def A7d (p1:Spot)(p2:Spot)(p3:Spot):Option Int:=
  (A5d [p1,p2,p3]).bind fun v1=>cond (!v1) (some 0) ((A5e p1 p2).bind fun v2=>(A5e p1 p3).bind fun v3=>(A5j v2 v3).bind fun v4=>(B5n v4).bind fun v5=>some v5)
instance curve_Side_le (p1:Spot)(p2:Spot)(p3:Spot):Le (A7d p1 p2 p3) (A5q p1 p2 p3):=by unfold A7d A5q;infer_instance
def A2m (p1:Spot)(p2:Spot)(p3:Spot):Option Bool:=
  some ((((decide ((mm2 false p1.X p2.X)≤p3.X))&& (decide (p3.X≤(mm2 true p1.X p2.X))))&& (decide ((mm2 false p1.Y p2.Y)≤p3.Y)))&& (decide (p3.Y≤(mm2 true p1.Y p2.Y))))
instance curve_between_le (p1:Spot)(p2:Spot)(p3:Spot):Le (A2m p1 p2 p3) (A10 p1 p2 p3):=by unfold A2m A10;infer_instance
def A8v (p1:Spot)(p2:Spot)(p3:Spot)(p4:Spot):Option Bool:=
  (A5d [p1,p2,p3,p4]).bind fun v1=>cond (!v1) (some false) ((A7d p1 p2 p3).bind fun v2=>(A7d p1 p2 p4).bind fun v3=>(A7d p3 p4 p1).bind fun v4=>(A7d p3 p4 p2).bind fun v5=>cond ((decide ((w64 (v2*v3))<0))&& (decide ((w64 (v4*v5))<0))) (some true) (((cond (v2==0) (A2m p1 p2 p3) (some default))).bind fun v6=>((cond ((!((v2==0)&&v6))&& (v3==0)) (A2m p1 p2 p4) (some default))).bind fun v7=>((cond ((!(((v2==0)&&v6)||((v3==0)&&v7)))&& (v4==0)) (A2m p3 p4 p1) (some default))).bind fun v8=>((cond ((!((((v2==0)&&v6)||((v3==0)&&v7))||((v4==0)&&v8)))&& (v5==0)) (A2m p3 p4 p2) (some default))).bind fun v9=>some (((((v2==0)&&v6)||((v3==0)&&v7))||((v4==0)&&v8))||((v5==0)&&v9))))
instance curve_Blocks_le (p1:Spot)(p2:Spot)(p3:Spot)(p4:Spot):Le (A8v p1 p2 p3 p4) (A5r p1 p2 p3 p4):=by unfold A8v A5r;repeat' first|infer_instance|with_reducible refine Le.bind (h:= ?_) (hf:=fun _=> ?_)|with_reducible refine Le.cond (h:= ?_) (h':= ?_)|with_reducible refine Le.thenS (h:= ?_) (hf:=fun _=> ?_) (hg:=fun _=> ?_)
def A2s (p1:WorldLooks)(p2:Span)(v3:Spot)(x2:Int):Option (Stp Int (Sum Unit Bool)):=
  cond (decide (x2< (p1.bars.length:Int))) ((D0 p1.bars x2).bind fun v10=>(D0 p1.bodies x2).bind fun v11=>(B46 v11 p2).bind fun v12=>((cond (!v12.2) (A8v p1.eye v3 v10.front v10.rear) (some default))).bind fun v13=>cond ((!v12.2)&&v13) (some (.out (.inr false))) (some (.go (w64 (x2+1))))) (some (.out (.inl ())))
instance world_looks_sees_b_l2_le (p1:WorldLooks)(p2:Span)(v3:Spot)(x2:Int):Le (A2s p1 p2 v3 x2) (X3 p1 p2 v3 x2):=by unfold A2s X3;repeat' first|infer_instance|with_reducible refine Le.bind (h:= ?_) (hf:=fun _=> ?_)|with_reducible refine Le.cond (h:= ?_) (h':= ?_)|with_reducible refine Le.thenS (h:= ?_) (hf:=fun _=> ?_) (hg:=fun _=> ?_)
def A2t (p1:WorldLooks)(p2:Span)(v2:Spot)(x1:Int):Option (Stp Int (Sum Unit Bool)):=
  cond (decide (x1< (p1.bars.length:Int))) ((D0 p1.bars x1).bind fun v5=>(D0 p1.bodies x1).bind fun v6=>(B46 v6 p2).bind fun v7=>((cond (!v7.2) (A8v p1.eye v2 v5.front v5.rear) (some default))).bind fun v8=>cond ((!v7.2)&&v8) (some (.out (.inr false))) (some (.go (w64 (x1+1))))) (some (.out (.inl ())))
instance world_looks_sees_b_l1_le (p1:WorldLooks)(p2:Span)(v2:Spot)(x1:Int):Le (A2t p1 p2 v2 x1) (X4 p1 p2 v2 x1):=by unfold A2t X4;repeat' first|infer_instance|with_reducible refine Le.bind (h:= ?_) (hf:=fun _=> ?_)|with_reducible refine Le.cond (h:= ?_) (h':= ?_)|with_reducible refine Le.thenS (h:= ?_) (hf:=fun _=> ?_) (hg:=fun _=> ?_)
def A5k (p1:WorldLooks)(p2:Span):Option Bool:=
  (D0 p1.m.Lanes p2.Lane_).bind fun v1=>(B21 v1.Curve_ p2.From).bind fun v2=>(B21 v1.Curve_ p2.To).bind fun v3=>thenS ((B33 p1.eye v2 p1.view).bind fun v4=>cond (!v4) (some (.inr false)) (thenS (N8 (A2t p1 p2 v2) 0) (fun _=>(B33 p1.eye v3 p1.view).bind fun v9=>cond (!v9) (some (.inr false)) (thenS (N8 (A2s p1 p2 v3) 0) (fun _=>some (.inl ())) (fun r=>some (.inr r)))) (fun r=>some (.inr r)))) (fun _=>some true) (fun r=>some r)
instance world_looks_sees_b_le (p1:WorldLooks)(p2:Span):Le (A5k p1 p2) (A11 p1 p2):=by unfold A5k A11;repeat' first|infer_instance|with_reducible refine Le.bind (h:= ?_) (hf:=fun _=> ?_)|with_reducible refine Le.cond (h:= ?_) (h':= ?_)|with_reducible refine Le.thenS (h:= ?_) (hf:=fun _=> ?_) (hg:=fun _=> ?_)
def B1d (y1:WorldLooks)(x2:((List Span)×Int))(v12:Int)(x3:((List Span)×Int)):Option (Stp ((List Span)×Int) (List Span)):=
  cond (decide (x3.2<v12)) ((A5k y1 (Span.mk x2.2 x3.2 (mm2 false (w64 (x3.2+1000)) v12))).bind fun v13=>cond (!v13) (some (.go (x3.1,(w64 (x3.2+1000))))) (((cond (decide ((x3.1.length:Int)>0)) (D0 x3.1 (w64 ((x3.1.length:Int) - 1))) (some default))).bind fun v14=>cond ((decide ((x3.1.length:Int)>0))&& (v14.To==x3.2)) ((D0 x3.1 (w64 ((x3.1.length:Int) - 1))).bind fun v15=>some (.go ((B92 x3.1 (w64 ((x3.1.length:Int) - 1)) (Span.mk v15.Lane_ v15.From (mm2 false (w64 (x3.2+1000)) v12))),(w64 (x3.2+1000))))) ((A83 x3.1 [(Span.mk x2.2 x3.2 (mm2 false (w64 (x3.2+1000)) v12))]).bind fun v16=>some (.go (v16,(w64 (x3.2+1000))))))) (some (.out x3.1))
instance world_Seen_l5_le (y1:WorldLooks)(x2:((List Span)×Int))(v12:Int)(x3:((List Span)×Int)):Le (B1d y1 x2 v12 x3) (A6k y1 x2 v12 x3):=by unfold B1d A6k;repeat' first|infer_instance|with_reducible refine Le.bind (h:= ?_) (hf:=fun _=> ?_)|with_reducible refine Le.cond (h:= ?_) (h':= ?_)|with_reducible refine Le.thenS (h:= ?_) (hf:=fun _=> ?_) (hg:=fun _=> ?_)
def B1e (y1:WorldLooks)(x2:((List Span)×Int)):Option (List Span):=
  (A47 y1.m x2.2).bind fun v12=>(N8 (B1d y1 x2 v12) ([],0)).bind fun y5=>some y5
instance world_Seen_i4_le (y1:WorldLooks)(x2:((List Span)×Int)):Le (B1e y1 x2) (A8t y1 x2):=by unfold B1e A8t;infer_instance
def B1f (p1:Map)(y1:WorldLooks)(x2:((List Span)×Int)):Option (Stp ((List Span)×Int) (List Span)):=
  cond (decide (x2.2< (p1.Lanes.length:Int))) ((B1e y1 x2).bind fun y4=>(A83 x2.1 y4).bind fun v17=>some (.go (v17,(w64 (x2.2+1))))) (some (.out x2.1))
instance world_Seen_l3_le (p1:Map)(y1:WorldLooks)(x2:((List Span)×Int)):Le (B1f p1 y1 x2) (A6l p1 y1 x2):=by unfold B1f A6l;infer_instance
def B1g (p1:Map)(p2:State)(x1:(Int× ((List (List Span))× (List WorldBar)))):Option (Stp (Int× ((List (List Span))× (List WorldBar))) ((List (List Span))× (List WorldBar))):=
  cond (decide (x1.1< (p2.Agents.length:Int))) ((D0 p2.Agents x1.1).bind fun v5=>((cond (decide (x1.1>0)) (A22 p2 x1.1) (some default))).bind fun v6=>cond ((decide (x1.1>0))&&v6) ((A5g p1 v5).bind fun v7=>(A83 x1.2.1 [v7]).bind fun v8=>(B43 p1 v5.Route v5.S).bind fun v9=>(B43 p1 v5.Route (w64 (v5.S - v5.Len))).bind fun v10=>(A83 x1.2.2 [(WorldBar.mk v9 v10)]).bind fun v11=>some (.go ((w64 (x1.1+1)),(v8,v11)))) (some (.go ((w64 (x1.1+1)),x1.2)))) (some (.out x1.2))
instance world_Seen_l2_le (p1:Map)(p2:State)(x1:(Int× ((List (List Span))× (List WorldBar)))):Le (B1g p1 p2 x1) (A6m p1 p2 x1):=by unfold B1g A6m;repeat' first|infer_instance|with_reducible refine Le.bind (h:= ?_) (hf:=fun _=> ?_)|with_reducible refine Le.cond (h:= ?_) (h':= ?_)|with_reducible refine Le.thenS (h:= ?_) (hf:=fun _=> ?_) (hg:=fun _=> ?_)
def B1h (p1:Map)(p2:State)(p3:Int):Option WorldLooks:=
  (D0 p2.Agents 0).bind fun v2=>(D0 p2.Agents 0).bind fun v3=>(B43 p1 v2.Route v3.S).bind fun v4=>(N8 (B1g p1 p2) (0,([],[]))).bind fun y2=>some (WorldLooks.mk p1 v4 p3 y2.1 y2.2)
instance world_Seen_i1_le (p1:Map)(p2:State)(p3:Int):Le (B1h p1 p2 p3) (A8u p1 p2 p3):=by unfold B1h A8u;infer_instance
def B5o (p1:Map)(p2:State)(p3:Int):Option (List Span):=
  (B32 p1 p2 p3).bind fun v1=>cond (!v1) (some []) ((B1h p1 p2 p3).bind fun y1=>(N8 (B1f p1 y1) ([],0)).bind fun y3=>some y3)
instance world_Seen_le (p1:Map)(p2:State)(p3:Int):Le (B5o p1 p2 p3) (B1z p1 p2 p3):=by unfold B5o B1z;infer_instance
def B22 (p1:Int)(p2:Int):Option Int:=
  (C2r p1 p2).bind fun v1=>(C2r (w64 (v1+p2)) p2).bind fun v2=>some v2
instance world_mod_le (p1:Int)(p2:Int):Le (B22 p1 p2) (A9p p1 p2):=by unfold B22 A9p;infer_instance
def A15 (p1:Int)(p2:Int)(p3:(List Int)):Option (Int×Int):=
  cond (decide (p2≥(p3.length:Int))) (some (0,p2)) ((D0 p3 (w64 ((w64 (p2+1)) - 1))).bind fun v1=>(B22 v1 (w64 ((w64 (2*p1))+1))).bind fun v2=>some ((w64 (v2 - p1)),(w64 (p2+1))))
instance world_Sense_1_o_o_le (p1:Int)(p2:Int)(p3:(List Int)):Le (A15 p1 p2 p3) (W2 p1 p2 p3):=by unfold A15 W2;infer_instance
def B09 (p4:(List Int))(v4:Lane)(v5:Agent)(v8:(WorldSpan×Bool))(x3:(Int×Int×Scan)):Option (Stp (Int×Int×Scan) (Int×Scan)):=
  cond v8.2 ((B21 v4.Curve_ x3.1).bind fun v9=>(A15 50 x3.2.1 p4).bind fun v10=>(A15 50 v10.2 p4).bind fun v11=>(A15 5 v11.2 p4).bind fun v12=>(A83 x3.2.2.Points [(Point.mk (w64 (v9.X+v10.1)) (w64 (v9.Y+v11.1)) (w64 (v5.V+v12.1)))]).bind fun v13=>cond (x3.1==v8.1.to) (some (.out (v12.2,(Scan.mk x3.2.2.Stamp x3.2.2.Seen v13)))) (some (.go ((mm2 false (w64 (x3.1+500)) v8.1.to),v12.2,(Scan.mk x3.2.2.Stamp x3.2.2.Seen v13))))) (some (.out (x3.2.1,x3.2.2)))
instance world_Sense_l3_le (p4:(List Int))(v4:Lane)(v5:Agent)(v8:(WorldSpan×Bool))(x3:(Int×Int×Scan)):Le (B09 p4 v4 v5 v8 x3) (A50 p4 v4 v5 v8 x3):=by unfold B09 A50;repeat' first|infer_instance|with_reducible refine Le.bind (h:= ?_) (hf:=fun _=> ?_)|with_reducible refine Le.cond (h:= ?_) (h':= ?_)|with_reducible refine Le.thenS (h:= ?_) (hf:=fun _=> ?_) (hg:=fun _=> ?_)
def B0a (p1:Map)(p2:State)(p4:(List Int))(v3:Span)(v4:Lane)(x2:(Int×Int×Scan)):Option (Stp (Int×Int×Scan) (Int×Scan)):=
  cond (decide (x2.1< (p2.Agents.length:Int))) ((D0 p2.Agents x2.1).bind fun v5=>((cond (!(x2.1==0)) (A22 p2 x2.1) (some default))).bind fun v6=>cond ((x2.1==0)||(!v6)) (some (.go ((w64 (x2.1+1)),x2.2.1,x2.2.2))) ((A5g p1 v5).bind fun v7=>(B46 v7 v3).bind fun v8=>(N8 (B09 p4 v4 v5 v8) (v8.1.from_,x2.2.1,x2.2.2)).bind fun y3=>some (.go ((w64 (x2.1+1)),y3.1,y3.2)))) (some (.out (x2.2.1,x2.2.2)))
instance world_Sense_l2_le (p1:Map)(p2:State)(p4:(List Int))(v3:Span)(v4:Lane)(x2:(Int×Int×Scan)):Le (B0a p1 p2 p4 v3 v4 x2) (A51 p1 p2 p4 v3 v4 x2):=by unfold B0a A51;repeat' first|infer_instance|with_reducible refine Le.bind (h:= ?_) (hf:=fun _=> ?_)|with_reducible refine Le.cond (h:= ?_) (h':= ?_)|with_reducible refine Le.thenS (h:= ?_) (hf:=fun _=> ?_) (hg:=fun _=> ?_)
def B0b (p1:Map)(p2:State)(p4:(List Int))(v2:(List Span))(x1:(Int×Int×Scan)):Option (Stp (Int×Int×Scan) Scan):=
  cond (decide (x1.1< (v2.length:Int))) ((D0 v2 x1.1).bind fun v3=>(D0 p1.Lanes v3.Lane_).bind fun v4=>(N8 (B0a p1 p2 p4 v3 v4) (0,x1.2.1,x1.2.2)).bind fun y2=>some (.go ((w64 (x1.1+1)),y2.1,y2.2))) (some (.out x1.2.2))
instance world_Sense_l1_le (p1:Map)(p2:State)(p4:(List Int))(v2:(List Span))(x1:(Int×Int×Scan)):Le (B0b p1 p2 p4 v2 x1) (A52 p1 p2 p4 v2 x1):=by unfold B0b A52;infer_instance
def B47 (p1:Map)(p2:State)(p3:Int)(p4:(List Int)):Option Scan:=
  (B32 p1 p2 p3).bind fun v1=>cond (!v1) (some (Scan.mk 0 [] [])) ((B5o p1 p2 p3).bind fun v2=>(N8 (B0b p1 p2 p4 v2) (0,0,(Scan.mk p2.Tick v2 []))).bind fun y1=>some y1)
instance world_Sense_le (p1:Map)(p2:State)(p3:Int)(p4:(List Int)):Le (B47 p1 p2 p3 p4) (A9q p1 p2 p3 p4):=by unfold B47 A9q;infer_instance
def A7j (p1:State):Option (Agent×Bool):=
  cond ((p1.Agents.length:Int)==0) (some ((Agent.mk [] 0 0 0 0 false false),false)) ((D0 p1.Agents 0).bind fun v1=>some (v1,((decide ((mm2 false v1.V v1.S)≥0))&& (decide ((mm2 true v1.V v1.S)≤1099511627776)))))
instance world_vehicle_le (p1:State):Le (A7j p1) (A44 p1):=by unfold A7j A44;infer_instance
def B0l (p1:State)(p2:Int):Option Mark:=
  (A7j p1).bind fun v1=>cond (!v1.2) (some (Mark.mk 0 0 0)) ((B22 p2 7).bind fun v2=>some (Mark.mk p1.Tick (mm2 true 0 (w64 ((w64 ((w64 (v1.1.V+v2)) - 3)) - 3))) (w64 ((w64 ((w64 (v1.1.V+v2)) - 3))+3))))
instance world_Speed_le (p1:State)(p2:Int):Le (B0l p1 p2) (A78 p1 p2):=by unfold B0l A78;infer_instance
def B6z (p1:State)(p2:Int):Option Mark:=
  (A7j p1).bind fun v1=>cond (!v1.2) (some (Mark.mk 0 0 0)) ((B22 p2 401).bind fun v2=>some (Mark.mk p1.Tick (w64 ((w64 ((w64 (v1.1.S+v2)) - 200)) - 200)) (w64 ((w64 ((w64 (v1.1.S+v2)) - 200))+200))))
instance world_Fix_le (p1:State)(p2:Int):Le (B6z p1 p2) (B3v p1 p2):=by unfold B6z B3v;infer_instance
def B48:Option Bool:=
  (B4j).bind fun v1=>(A12 0 10000 1000).bind fun v2=>(A12 1 46000 1000).bind fun v3=>(B20 v1 [v2,v3]).bind fun v4=>cond (((v4.2 !=0)||((v4.1.In.length:Int) !=0))||((v4.1.Agents.length:Int) !=2)) (some false) ((B07 v1 v4.1 [50,(-90)]).bind fun v5=>((cond (((v5.2.2==0)&& ((v5.2.1.length:Int)==0))&& ((v5.1.Agents.length:Int)==2)) (D0 v5.1.Agents 0) (some default))).bind fun v6=>((cond ((((v5.2.2==0)&& ((v5.2.1.length:Int)==0))&& ((v5.1.Agents.length:Int)==2))&& (v6.S==11030)) (D0 v5.1.Agents 1) (some default))).bind fun v7=>((cond (((((v5.2.2==0)&& ((v5.2.1.length:Int)==0))&& ((v5.1.Agents.length:Int)==2))&& (v6.S==11030))&& (v7.V==910)) (A5c 100 30) (some default))).bind fun v8=>some ((((((v5.2.2==0)&& ((v5.2.1.length:Int)==0))&& ((v5.1.Agents.length:Int)==2))&& (v6.S==11030))&& (v7.V==910))&& (v8==120)))
instance law04_awake_le:Le (B48) (A9r):=by unfold B48 A9r;repeat' first|infer_instance|with_reducible refine Le.bind (h:= ?_) (hf:=fun _=> ?_)|with_reducible refine Le.cond (h:= ?_) (h':= ?_)|with_reducible refine Le.thenS (h:= ?_) (hf:=fun _=> ?_) (hg:=fun _=> ?_)
def A4i (v18:Scan)(x1:Int):Option (Stp Int (Sum Unit Bool)):=
  cond (decide (x1<9)) ((D0 v18.Points x1).bind fun v19=>cond (!(v19.X==(w64 (11000+ (w64 (500*x1))))&& (v19.Y==0&& (v19.V==0&&true)))) (some (.out (.inr false))) (some (.go (w64 (x1+1))))) (some (.out (.inl ())))
instance law04_WorldKnown_l1_le (v18:Scan)(x1:Int):Le (A4i v18 x1) (A0c v18 x1):=by unfold A4i A0c;infer_instance
def B23:Option Bool:=
  (B4j).bind fun v1=>(A12 0 10000 1000).bind fun v2=>(A12 1 46000 1000).bind fun v3=>(A12 0 15000 0).bind fun v4=>(A5c 90 90).bind fun v5=>((cond (!(v5 !=0)) (A5c 0 9) (some default))).bind fun v6=>((cond (!((v5 !=0)||(v6 !=0))) (A5g v1 v2) (some default))).bind fun v7=>((cond (!((v5 !=0)||(v6 !=0))) (B0w v7 [(Span.mk 0 6000 10000)]) (some default))).bind fun v8=>((cond (!(((v5 !=0)||(v6 !=0))||(!v8))) (A6s v1 v2 v3) (some default))).bind fun v9=>cond ((((v5 !=0)||(v6 !=0))||(!v8))||v9) (some false) ((A12 0 47500 1000).bind fun v10=>(A12 1 47500 1000).bind fun v11=>(B20 v1 [v10,v11]).bind fun v12=>(B07 v1 v12.1 []).bind fun v13=>((cond (!((v12.2 !=0)||(v13.2.2 !=0))) (A56 v13.2.1 [(Crash.mk 0 0 1 (-1) 0 [1])]) (some default))).bind fun v14=>cond (((v12.2 !=0)||(v13.2.2 !=0))||(!v14)) (some false) ((B20 v1 [v2,v4]).bind fun v15=>(B07 v1 v15.1 [0]).bind fun v16=>((cond (!((v15.2 !=0)||(v16.2.2 !=0))) (A56 v16.2.1 [(Crash.mk 0 0 1 0 (-1) [0])]) (some default))).bind fun v17=>cond (((v15.2 !=0)||(v16.2.2 !=0))||(!v17)) (some false) ((B47 v1 v15.1 100000 []).bind fun v18=>cond ((v18.Points.length:Int) !=9) (some false) (thenS (N8 (A4i v18) 0) (fun _=>(B0l v15.1 0).bind fun v20=>((cond (v20.Stamp==0&& (v20.Lo==994&& (v20.Hi==1000&&true))) (B0l v15.1 3) (some default))).bind fun v21=>((cond ((v20.Stamp==0&& (v20.Lo==994&& (v20.Hi==1000&&true)))&& (v21.Stamp==0&& (v21.Lo==997&& (v21.Hi==1003&&true)))) (B6z v15.1 200) (some default))).bind fun v22=>((cond (((v20.Stamp==0&& (v20.Lo==994&& (v20.Hi==1000&&true)))&& (v21.Stamp==0&& (v21.Lo==997&& (v21.Hi==1003&&true))))&& (v22.Stamp==0&& (v22.Lo==9800&& (v22.Hi==10200&&true)))) (B48) (some default))).bind fun v23=>some ((((v20.Stamp==0&& (v20.Lo==994&& (v20.Hi==1000&&true)))&& (v21.Stamp==0&& (v21.Lo==997&& (v21.Hi==1003&&true))))&& (v22.Stamp==0&& (v22.Lo==9800&& (v22.Hi==10200&&true))))&&v23)) (fun r=>some r)))))
instance law04_WorldKnown_le:Le (B23) (A2h):=by unfold B23 A2h;repeat' first|infer_instance|with_reducible refine Le.bind (h:= ?_) (hf:=fun _=> ?_)|with_reducible refine Le.cond (h:= ?_) (h':= ?_)|with_reducible refine Le.thenS (h:= ?_) (hf:=fun _=> ?_) (hg:=fun _=> ?_)
end Go.Abs.World
namespace Go.Abs.World
open Go Go.Abs
theorem B3e:A2h=some true:=law04_WorldKnown_le _ (by decide+kernel)
end Go.Abs.World
