/-
  Plain facts on the functions: what they compute, and that the law holds of it.
-/
import Derived.Test.YtgjdiioennhoeaaGreatFns4
set_option maxRecDepth 100000
set_option linter.unusedVariables false
namespace Go.Abs.World
open Go Go.Abs
def B47 (p4:(List Int))(x1:(Int× (List Spot))):Option (Stp (Int× (List Spot)) (List Spot)):=
  cond (decide ((w64 (x1.1+1))< (p4.length:Int))) ((D6 p4 x1.1).bind fun v1=>(D6 p4 (w64 (x1.1+1))).bind fun v2=>(A8h x1.2 [(Spot.mk v1 v2)]).bind fun v3=>some (.go ((w64 (x1.1+2)),v3))) (some (.out x1.2))
instance kit_road_l1_le (p4:(List Int))(x1:(Int× (List Spot))):Le (B47 p4 x1) (B04 p4 x1):=by unfold B47 B04;infer_instance
def B74 (p1:Int)(p2:Int)(p3:(List Int))(p4:(List Int)):Option Lane:=
  (T9 (B47 p4) (0,[])).bind fun y1=>cond (p1==3) (some (Lane.mk p1 (Curve.mk y1) 500 p2 p3)) (some (Lane.mk p1 (Curve.mk y1) 1500 p2 p3))
instance kit_road_le (p1:Int)(p2:Int)(p3:(List Int))(p4:(List Int)):Le (B74 p1 p2 p3 p4) (X9 p1 p2 p3 p4):=by unfold B74 X9;infer_instance
def B7y:Option Map:=
  (B74 1 1500 [] [0,0,100000,0]).bind fun v1=>(B74 1 1500 [] [50000,(-50000),50000,50000]).bind fun v2=>some (Map.mk 0 [v1,v2] [(Zone.mk [(Part.mk 0 48000 52000 1),(Part.mk 1 48000 52000 0)] 0)] [] [])
instance kit_Cross_le:Le (B7y) (B3z):=by unfold B7y B3z;infer_instance
def B1b (p1:Int)(p2:Int)(p3:Int):Option Agent:=
  some (Agent.mk [p1] p2 p3 4000 0 false false)
instance law04_agent_le (p1:Int)(p2:Int)(p3:Int):Le (B1b p1 p2 p3) (A7w p1 p2 p3):=by unfold B1b A7w;infer_instance
def A0x (p1:List Stay):Option (List Stay):=A8h [] p1
instance slices_Clone_Stay_Stay_le (p1:List Stay):Le (A0x p1) (V6 p1):=by unfold A0x V6;infer_instance
def A4z (p1:List Int):Option (List Int):=A8h [] p1
instance slices_Clone_int_int_le (p1:List Int):Le (A4z p1) (A2k p1):=by unfold A4z A2k;infer_instance
def A50 (p1:Agent):Option Agent:=
  (A4z p1.Route).bind fun v1=>some (Agent.mk v1 p1.S p1.V p1.Len p1.Begin p1.Obey p1.Gone)
instance world_ownAgent_le (p1:Agent):Le (A50 p1) (A2b p1):=by unfold A50 A2b;infer_instance
def B1j (p1:State)(x1:(Int×State)):Option (Stp (Int×State) State):=
  cond (decide (x1.1< (p1.Agents.length:Int))) ((D6 p1.Agents x1.1).bind fun v2=>(A50 v2).bind fun v3=>(A8h x1.2.Agents [v3]).bind fun v4=>some (.go ((w64 (x1.1+1)),(State.mk x1.2.Tick v4 x1.2.In)))) (some (.out x1.2))
instance world_Copy_l1_le (p1:State)(x1:(Int×State)):Le (B1j p1 x1) (A72 p1 x1):=by unfold B1j A72;infer_instance
def B35 (p1:State):Option State:=
  (A0x p1.In).bind fun v1=>(T9 (B1j p1) (0,(State.mk p1.Tick [] v1))).bind fun y1=>some y1
instance world_Copy_le (p1:State):Le (B35 p1) (A9s p1):=by unfold B35 A9s;infer_instance
def A27 (p1:Int)(p2:Int)(p3:Int):Option Bool:=
  some ((decide (p2≤p1))&& (decide (p1≤p3)))
instance roads_within_le (p1:Int)(p2:Int)(p3:Int):Le (A27 p1 p2 p3) (A05 p1 p2 p3):=by unfold A27 A05;infer_instance
def A5s (p1:RoadsCheck):Option Int:=
  (A27 p1.Map_.Version 0 1099511627776).bind fun v1=>cond (!v1) (some 2) (cond ((p1.Map_.Lanes.length:Int)==0) (some 6) (cond ((((decide ((p1.Map_.Lanes.length:Int)>12))||(decide ((p1.Map_.Zones.length:Int)>12)))||(decide ((p1.Map_.Signals.length:Int)>4)))||(decide ((p1.Map_.Works.length:Int)>8))) (some 8) (some 0)))
instance roads_check_numbers_le (p1:RoadsCheck):Le (A5s p1) (U0 p1):=by unfold A5s U0;infer_instance
def A5l (p1:Int):Option (Int×Int×Int):=
  cond ((decide (p1<0))||(decide (p1≥4))) (some (0,0,0)) ((D6 ([(0,0,0),(2000,30,90),(1000,20,60),(300,100,300)]:List (Int×Int×Int)) p1).bind fun v1=>some (v1.1,v1.2.1,v1.2.2))
instance roads_Bounds_le (p1:Int):Le (A5l p1) (A0y p1):=by unfold A5l A0y;infer_instance
def B1k (p1:(List Spot))(x1:Int):Option (Stp Int (Sum Unit Bool)):=
  cond (decide (x1< (p1.length:Int))) ((D6 p1 x1).bind fun v1=>cond ((decide ((mm2 false v1.X v1.Y)< (-16777216)))||(decide ((mm2 true v1.X v1.Y)>16777216))) (some (.out (.inr false))) (some (.go (w64 (x1+1))))) (some (.out (.inl ())))
instance curve_fair_l1_le (p1:(List Spot))(x1:Int):Le (B1k p1 x1) (A0v p1 x1):=by unfold B1k A0v;infer_instance
def B5w (p1:(List Spot)):Option Bool:=
  thenS (T9 (B1k p1) 0) (fun _=>some true) (fun r=>some r)
instance curve_fair_le (p1:(List Spot)):Le (B5w p1) (A7y p1):=by unfold B5w A7y;infer_instance
def B36 (p1:Spot)(p2:Spot):Option CurveVector:=
  some (CurveVector.mk (w64 (p2.X - p1.X)) (w64 (p2.Y - p1.Y)))
instance curve_from_le (p1:Spot)(p2:Spot):Le (B36 p1 p2) (A6o p1 p2):=by unfold B36 A6o;infer_instance
def A33 (p1:CurveVector)(p2:CurveVector):Option Int:=
  some (w64 ((w64 (p1.x*p2.x))+ (w64 (p1.y*p2.y))))
instance curve_vector_dot_le (p1:CurveVector)(p2:CurveVector):Le (A33 p1 p2) (W7 p1 p2):=by unfold A33 W7;infer_instance
def B1l (p1:Int)(x1:(Int×Int)):Option (Stp (Int×Int) Int):=
  cond (decide (x1.1<x1.2)) (cond (decide ((w64 ((w64 ((w64 (x1.1+x1.2)).tdiv 2))* (w64 ((w64 (x1.1+x1.2)).tdiv 2))))<p1)) (some (.go ((w64 ((w64 ((w64 (x1.1+x1.2)).tdiv 2))+1)),x1.2))) (some (.go (x1.1,(w64 ((w64 (x1.1+x1.2)).tdiv 2)))))) (some (.out x1.1))
instance curve_root_l1_le (p1:Int)(x1:(Int×Int)):Le (B1l p1 x1) (A3b p1 x1):=by unfold B1l A3b;infer_instance
def B37 (p1:Int):Option (Int×Bool):=
  (T9 (B1l p1) (0,67108864)).bind fun y1=>some (y1,((w64 (y1*y1))==p1))
instance curve_root_le (p1:Int):Le (B37 p1) (A5b p1):=by unfold B37 A5b;infer_instance
def B0j (p1:Curve)(x1:(Int×CurveVector)):Option (Stp (Int×CurveVector) (Sum Unit Int)):=
  cond (decide (x1.1< (w64 ((p1.Pts.length:Int) - 1)))) ((D6 p1.Pts x1.1).bind fun v2=>(D6 p1.Pts (w64 (x1.1+1))).bind fun v3=>(B36 v2 v3).bind fun v4=>(A33 v4 v4).bind fun v5=>(B37 v5).bind fun v6=>cond (!v6.2) (some (.out (.inr 3))) (cond ((decide (v6.1<1000))||(decide (v6.1>1048576))) (some (.out (.inr 2))) (((cond (decide (x1.1>0)) (A33 x1.2 v4) (some default))).bind fun v7=>cond ((decide (x1.1>0))&& (decide (v7≤0))) (some (.out (.inr 12))) (some (.go ((w64 (x1.1+1)),v4)))))) (some (.out (.inl ())))
instance curve_Check_l1_le (p1:Curve)(x1:(Int×CurveVector)):Le (B0j p1 x1) (A02 p1 x1):=by unfold B0j A02;repeat' first|infer_instance|with_reducible refine Le.bind (h:= ?_) (hf:=fun _=> ?_)|with_reducible refine Le.cond (h:= ?_) (h':= ?_)|with_reducible refine Le.thenS (h:= ?_) (hf:=fun _=> ?_) (hg:=fun _=> ?_)
def B1c (p1:Curve):Option Int:=
  cond (decide ((p1.Pts.length:Int)<2)) (some 6) (cond (decide ((p1.Pts.length:Int)>16)) (some 5) ((B5w p1.Pts).bind fun v1=>cond (!v1) (some 2) (thenS (T9 (B0j p1) (0,(CurveVector.mk 0 0))) (fun _=>some 0) (fun r=>some r))))
instance curve_Check_le (p1:Curve):Le (B1c p1) (A4j p1):=by unfold B1c A4j;infer_instance
def A92 (p1:(List Int))(p3:Int)(x1:(Int×Int)):Option (Stp (Int×Int) (Sum Unit Bool)):=
  cond (decide (x1.2< (p1.length:Int))) ((D6 p1 x1.2).bind fun v1=>cond ((decide (v1<x1.1))||(decide (v1≥p3))) (some (.out (.inr false))) (some (.go ((w64 (v1+1)),(w64 (x1.2+1)))))) (some (.out (.inl ())))
instance roads_rising_l1_le (p1:(List Int))(p3:Int)(x1:(Int×Int)):Le (A92 p1 p3 x1) (Y5 p1 p3 x1):=by unfold A92 Y5;infer_instance
def A7g (p1:(List Int))(p2:Int)(p3:Int):Option Bool:=
  thenS (T9 (A92 p1 p3) (p2,0)) (fun _=>some true) (fun r=>some r)
instance roads_rising_le (p1:(List Int))(p2:Int)(p3:Int):Le (A7g p1 p2 p3) (A21 p1 p2 p3):=by unfold A7g A21;infer_instance
def A51 (p1:RoadsCheck)(x1:Int):Option (Stp Int (Sum Unit Int)):=
  cond (decide (x1< (p1.Map_.Lanes.length:Int))) ((D6 p1.Map_.Lanes x1).bind fun v1=>(A5l v1.Kind).bind fun v2=>cond (v2.1==0) (some (.out (.inr 4))) ((B1c v1.Curve_).bind fun v3=>cond (v3 !=0) (some (.out (.inr v3))) ((A27 v1.Half 200 4000).bind fun v4=>((cond (!(!v4)) (A27 v1.Limit 1 v2.1) (some default))).bind fun v5=>cond ((!v4)||(!v5)) (some (.out (.inr 2))) (cond (decide ((v1.Next.length:Int)>3)) (some (.out (.inr 8))) ((A7g v1.Next (w64 (x1+1)) (p1.Map_.Lanes.length:Int)).bind fun v6=>cond (!v6) (some (.out (.inr 11))) (some (.go (w64 (x1+1))))))))) (some (.out (.inl ())))
instance roads_check_lanes_l1_le (p1:RoadsCheck)(x1:Int):Le (A51 p1 x1) (R9 p1 x1):=by unfold A51 R9;repeat' first|infer_instance|with_reducible refine Le.bind (h:= ?_) (hf:=fun _=> ?_)|with_reducible refine Le.cond (h:= ?_) (h':= ?_)|with_reducible refine Le.thenS (h:= ?_) (hf:=fun _=> ?_) (hg:=fun _=> ?_)
def A7h (p1:RoadsCheck):Option Int:=
  thenS (T9 (A51 p1) 0) (fun _=>some 0) (fun r=>some r)
instance roads_check_lanes_le (p1:RoadsCheck):Le (A7h p1) (X2 p1):=by unfold A7h X2;infer_instance
def A43 (p1:RoadsCheck)(v1:Lane)(v2:Spot)(x2:Int):Option (Stp Int (Sum Unit Int)):=
  cond (decide (x2< (v1.Next.length:Int))) ((D6 v1.Next x2).bind fun v3=>(D6 p1.Map_.Lanes v3).bind fun v4=>cond (v4.Kind !=v1.Kind) (some (.out (.inr 4))) ((D6 p1.Map_.Lanes v3).bind fun v5=>(D6 v5.Curve_.Pts 0).bind fun v6=>cond (!(v6.X==v2.X&& (v6.Y==v2.Y&&true))) (some (.out (.inr 3))) (some (.go (w64 (x2+1)))))) (some (.out (.inl ())))
instance roads_check_joints_l2_le (p1:RoadsCheck)(v1:Lane)(v2:Spot)(x2:Int):Le (A43 p1 v1 v2 x2) (Q4 p1 v1 v2 x2):=by unfold A43 Q4;repeat' first|infer_instance|with_reducible refine Le.bind (h:= ?_) (hf:=fun _=> ?_)|with_reducible refine Le.cond (h:= ?_) (h':= ?_)|with_reducible refine Le.thenS (h:= ?_) (hf:=fun _=> ?_) (hg:=fun _=> ?_)
def A44 (p1:RoadsCheck)(x1:Int):Option (Stp Int (Sum Unit Int)):=
  cond (decide (x1< (p1.Map_.Lanes.length:Int))) ((D6 p1.Map_.Lanes x1).bind fun v1=>(D6 v1.Curve_.Pts (w64 ((v1.Curve_.Pts.length:Int) - 1))).bind fun v2=>thenS (T9 (A43 p1 v1 v2) 0) (fun _=>some (.go (w64 (x1+1)))) (fun r=>some (.out (.inr r)))) (some (.out (.inl ())))
instance roads_check_joints_l1_le (p1:RoadsCheck)(x1:Int):Le (A44 p1 x1) (Q5 p1 x1):=by unfold A44 Q5;infer_instance
def A6h (p1:RoadsCheck):Option Int:=
  thenS (T9 (A44 p1) 0) (fun _=>some 0) (fun r=>some r)
instance roads_check_joints_le (p1:RoadsCheck):Le (A6h p1) (V5 p1):=by unfold A6h V5;infer_instance
def A45 (p1:Phase):Option Bool:=
  (A27 p1.Ticks 1 10000).bind fun v1=>some (!v1)
instance roads_check_signals_1_le (p1:Phase):Le (A45 p1) (X3 p1):=by unfold A45 X3;infer_instance
def L0 (p1:(List Phase))(x1:Int):Option (Stp Int (Sum Unit Int)):=
  cond (decide (x1< (p1.length:Int))) ((D6 p1 x1).bind fun v1=>(A45 v1).bind fun v2=>cond v2 (some (.out (.inr x1))) (some (.go (w64 (x1+1))))) (some (.out (.inl ())))
instance slices_IndexFunc_Phase_Phase_roads_check_signals_1_l1_le (p1:(List Phase))(x1:Int):Le (L0 p1 x1) (C5 p1 x1):=by unfold L0 C5;infer_instance
def M7 (p1:(List Phase)):Option Int:=
  thenS (T9 (L0 p1) 0) (fun _=>some (-1)) (fun r=>some r)
instance slices_IndexFunc_Phase_Phase_roads_check_signals_1_le (p1:(List Phase)):Le (M7 p1) (D4 p1):=by unfold M7 D4;infer_instance
def L3 (p1:(List Phase)):Option Bool:=
  (M7 p1).bind fun v1=>some (decide (v1≥0))
instance slices_ContainsFunc_Phase_Phase_roads_check_signals_1_le (p1:(List Phase)):Le (L3 p1) (C6 p1):=by unfold L3 C6;infer_instance
def A34 (p1:Phase)(p2:RoadsCheck):Option Bool:=
  (A7g p1.Green 0 (p2.Map_.Lanes.length:Int)).bind fun v1=>some (!v1)
instance roads_check_signals_2_b_le (p1:Phase)(p2:RoadsCheck):Le (A34 p1 p2) (U7 p1 p2):=by unfold A34 U7;infer_instance
def K7 (p1:(List Phase))(p2:RoadsCheck)(x1:Int):Option (Stp Int (Sum Unit Int)):=
  cond (decide (x1< (p1.length:Int))) ((D6 p1 x1).bind fun v1=>(A34 v1 p2).bind fun v2=>cond v2 (some (.out (.inr x1))) (some (.go (w64 (x1+1))))) (some (.out (.inl ())))
instance slices_IndexFunc_Phase_Phase_roads_check_signals_2b_l1_le (p1:(List Phase))(p2:RoadsCheck)(x1:Int):Le (K7 p1 p2 x1) (C1 p1 p2 x1):=by unfold K7 C1;infer_instance
def M4 (p1:(List Phase))(p2:RoadsCheck):Option Int:=
  thenS (T9 (K7 p1 p2) 0) (fun _=>some (-1)) (fun r=>some r)
instance slices_IndexFunc_Phase_Phase_roads_check_signals_2b_le (p1:(List Phase))(p2:RoadsCheck):Le (M4 p1 p2) (D3 p1 p2):=by unfold M4 D3;infer_instance
def K8 (p1:(List Phase))(p2:RoadsCheck):Option Bool:=
  (M4 p1 p2).bind fun v1=>some (decide (v1≥0))
instance slices_ContainsFunc_Phase_Phase_roads_check_signals_2b_le (p1:(List Phase))(p2:RoadsCheck):Le (K8 p1 p2) (C2 p1 p2):=by unfold K8 C2;infer_instance
def A3m (p1:RoadsCheck)(x1:Int):Option (Stp Int (Sum Unit Int)):=
  cond (decide (x1< (p1.Map_.Signals.length:Int))) ((D6 p1.Map_.Signals x1).bind fun v1=>cond ((v1.Phases.length:Int)==0) (some (.out (.inr 6))) (cond (decide ((v1.Phases.length:Int)>6)) (some (.out (.inr 8))) ((A27 v1.Offset 0 1099511627776).bind fun v2=>cond (!v2) (some (.out (.inr 2))) ((L3 v1.Phases).bind fun v3=>cond v3 (some (.out (.inr 2))) ((K8 v1.Phases p1).bind fun v4=>cond v4 (some (.out (.inr 11))) (some (.go (w64 (x1+1))))))))) (some (.out (.inl ())))
instance roads_check_signals_l1_le (p1:RoadsCheck)(x1:Int):Le (A3m p1 x1) (P1 p1 x1):=by unfold A3m P1;repeat' first|infer_instance|with_reducible refine Le.bind (h:= ?_) (hf:=fun _=> ?_)|with_reducible refine Le.cond (h:= ?_) (h':= ?_)|with_reducible refine Le.thenS (h:= ?_) (hf:=fun _=> ?_) (hg:=fun _=> ?_)
def A5t (p1:RoadsCheck):Option Int:=
  thenS (T9 (A3m p1) 0) (fun _=>some 0) (fun r=>some r)
instance roads_check_signals_le (p1:RoadsCheck):Le (A5t p1) (U1 p1):=by unfold A5t U1;infer_instance
def B75 (pts:List Spot):Nat→Nat→Int→Option (List (Int×CurvePiece))
  |0,_,_=>some []
  |n+1,i,start=>(pts[i]?).bind fun p=>(pts[i+1]?).bind fun q=>(B36 p q).bind fun v=>(A33 v v).bind fun d=>(B37 d).bind fun r=>
   (B75 pts n (i+1) (w64 (start+r.1))).bind fun l=>some (((i:Int),CurvePiece.mk p v r.1 start)::l)
instance piecesGo_le (pts:List Spot): ∀(n i:Nat) (s:Int),Le (B75 pts n i s) (A74 pts n i s)
  |0,i,s=>Le.refl _
  |n+1,i,s=>by
   rw [A74,B75]
   have:=fun i s=>piecesGo_le pts n i s
   infer_instance
def C3b (pts:List Spot):Option (List (Int×CurvePiece)):=if pts.length≤1000000 then B75 pts (pts.length - 1) 0 0 else none
instance piecesC_le (pts:List Spot):Le (C3b pts) (B5r pts):=by unfold C3b B5r;infer_instance
def A93 (x1:(List Int))(a1:(Int×CurvePiece)):Option (Stp (List Int) (List Int)):=
  (A8h x1 [a1.2.l]).bind fun v3=>some (.go v3)
instance curve_Pieces_l1_le (x1:(List Int))(a1:(Int×CurvePiece)):Le (A93 x1 a1) (A07 x1 a1):=by unfold A93 A07;infer_instance
def B38 (p1:Curve):Option (List Int):=
  (B1c p1).bind fun v1=>cond (v1 !=0) (some []) (((C3b p1.Pts).bind fun v2=>loopL (A93) (fun (x1:(List Int))=>x1) v2 []).bind fun y1=>some y1)
instance curve_Pieces_le (p1:Curve):Le (B38 p1) (A4k p1):=by unfold B38 A4k;infer_instance
def A94 (v1:(List Int))(x1:(Int×Int)):Option (Stp (Int×Int) Int):=
  cond (decide (x1.2< (v1.length:Int))) ((D6 v1 x1.2).bind fun v2=>some (.go ((w64 (x1.1+v2)),(w64 (x1.2+1))))) (some (.out x1.1))
instance curve_Length_l1_le (v1:(List Int))(x1:(Int×Int)):Le (A94 v1 x1) (V9 v1 x1):=by unfold A94 V9;infer_instance
def A9q (p1:Curve):Option Int:=
  (B38 p1).bind fun v1=>(T9 (A94 v1) (0,0)).bind fun y1=>some y1
instance curve_Length_le (p1:Curve):Le (A9q p1) (A4l p1):=by unfold A9q A4l;infer_instance
def A84 (p1:Map)(p2:Int):Option Int:=
  (D6 p1.Lanes p2).bind fun v1=>(A9q v1.Curve_).bind fun v2=>some v2
instance roads_long_le (p1:Map)(p2:Int):Le (A84 p1 p2) (A2v p1 p2):=by unfold A84 A2v;infer_instance
def A52 (p1:RoadsCheck)(v1:Zone)(x3:Int):Option (Stp Int (Sum Unit Int)):=
  cond (decide (x3< (v1.Parts.length:Int))) ((D6 v1.Parts x3).bind fun v5=>((cond (!((decide (v5.From<0))||(decide (v5.From≥v5.To)))) (A84 p1.Map_ v5.Lane_) (some default))).bind fun v6=>cond (((((decide (v5.From<0))||(decide (v5.From≥v5.To)))||(decide (v5.To>v6)))||(decide (v5.Rank<0)))||(decide (v5.Rank>100))) (some (.out (.inr 2))) (some (.go (w64 (x3+1))))) (some (.out (.inl ())))
instance roads_check_zones_l3_le (p1:RoadsCheck)(v1:Zone)(x3:Int):Le (A52 p1 v1 x3) (S3 p1 v1 x3):=by unfold A52 S3;repeat' first|infer_instance|with_reducible refine Le.bind (h:= ?_) (hf:=fun _=> ?_)|with_reducible refine Le.cond (h:= ?_) (h':= ?_)|with_reducible refine Le.thenS (h:= ?_) (hf:=fun _=> ?_) (hg:=fun _=> ?_)
def A53 (v1:Zone)(x2:((List Int)×Int)):Option (Stp ((List Int)×Int) (List Int)):=
  cond (decide (x2.2< (v1.Parts.length:Int))) ((D6 v1.Parts x2.2).bind fun v2=>(A8h x2.1 [v2.Lane_]).bind fun v3=>some (.go (v3,(w64 (x2.2+1))))) (some (.out x2.1))
instance roads_check_zones_l2_le (v1:Zone)(x2:((List Int)×Int)):Le (A53 v1 x2) (Z0 v1 x2):=by unfold A53 Z0;infer_instance
def A54 (p1:RoadsCheck)(x1:Int):Option (Stp Int (Sum Unit Int)):=
  cond (decide (x1< (p1.Map_.Zones.length:Int))) ((D6 p1.Map_.Zones x1).bind fun v1=>cond (decide ((v1.Parts.length:Int)<2)) (some (.out (.inr 6))) (cond (decide ((v1.Parts.length:Int)>6)) (some (.out (.inr 8))) (cond ((decide (v1.Signal_<0))||(decide (v1.Signal_>(p1.Map_.Signals.length:Int)))) (some (.out (.inr 2))) ((T9 (A53 v1) ([],0)).bind fun y2=>(A7g y2 0 (p1.Map_.Lanes.length:Int)).bind fun v4=>cond (!v4) (some (.out (.inr 11))) (thenS (T9 (A52 p1 v1) 0) (fun _=>some (.go (w64 (x1+1)))) (fun r=>some (.out (.inr r)))))))) (some (.out (.inl ())))
instance roads_check_zones_l1_le (p1:RoadsCheck)(x1:Int):Le (A54 p1 x1) (S4 p1 x1):=by unfold A54 S4;repeat' first|infer_instance|with_reducible refine Le.bind (h:= ?_) (hf:=fun _=> ?_)|with_reducible refine Le.cond (h:= ?_) (h':= ?_)|with_reducible refine Le.thenS (h:= ?_) (hf:=fun _=> ?_) (hg:=fun _=> ?_)
def A7i (p1:RoadsCheck):Option Int:=
  thenS (T9 (A54 p1) 0) (fun _=>some 0) (fun r=>some r)
instance roads_check_zones_le (p1:RoadsCheck):Le (A7i p1) (X4 p1):=by unfold A7i X4;infer_instance
def A55 (p1:RoadsCheck)(x1:Int):Option (Stp Int (Sum Unit Int)):=
  cond (decide (x1< (p1.Map_.Works.length:Int))) ((D6 p1.Map_.Works x1).bind fun v1=>cond ((decide (v1.Lane_<0))||(decide (v1.Lane_≥(p1.Map_.Lanes.length:Int)))) (some (.out (.inr 7))) ((D6 p1.Map_.Lanes v1.Lane_).bind fun v2=>(A5l v2.Kind).bind fun v3=>((cond (!((decide (v1.From<0))||(decide (v1.From>v1.To)))) (A84 p1.Map_ v1.Lane_) (some default))).bind fun v4=>((cond (!((((((decide (v1.From<0))||(decide (v1.From>v1.To)))||(decide (v1.To>v4)))||(decide (v1.Begin<0)))||(decide (v1.Begin≥v1.End)))||(decide (v1.End>1099511627776)))) (A27 v1.Limit 0 v3.1) (some default))).bind fun v5=>cond (((((((decide (v1.From<0))||(decide (v1.From>v1.To)))||(decide (v1.To>v4)))||(decide (v1.Begin<0)))||(decide (v1.Begin≥v1.End)))||(decide (v1.End>1099511627776)))||(!v5)) (some (.out (.inr 2))) (some (.go (w64 (x1+1)))))) (some (.out (.inl ())))
instance roads_check_works_l1_le (p1:RoadsCheck)(x1:Int):Le (A55 p1 x1) (S5 p1 x1):=by unfold A55 S5;repeat' first|infer_instance|with_reducible refine Le.bind (h:= ?_) (hf:=fun _=> ?_)|with_reducible refine Le.cond (h:= ?_) (h':= ?_)|with_reducible refine Le.thenS (h:= ?_) (hf:=fun _=> ?_) (hg:=fun _=> ?_)
def A7j (p1:RoadsCheck):Option Int:=
  thenS (T9 (A55 p1) 0) (fun _=>some 0) (fun r=>some r)
instance roads_check_works_le (p1:RoadsCheck):Le (A7j p1) (X5 p1):=by unfold A7j X5;infer_instance
def A1i (v:Nat)(p1:RoadsCheck):Option Int:=
  cond (Nat.beq v 148) (A5s p1) (cond (Nat.beq v 149) (A7h p1) (cond (Nat.beq v 150) (A6h p1) (cond (Nat.beq v 151) (A5t p1) (cond (Nat.beq v 152) (A7i p1) (cond (Nat.beq v 153) (A7j p1) (none))))))
instance choose_roads_check_numbers_le (v:Nat)(p1:RoadsCheck):Le (A1i v p1) (U9 v p1):=by unfold A1i U9;infer_instance
def B0k (p1:Map)(x1:Int):Option (Stp Int (Sum Unit Int)):=
  cond (decide (x1< ([148,149,150,151,152,153].length:Int))) ((D6 [148,149,150,151,152,153] x1).bind fun v1=>(A1i v1 (RoadsCheck.mk p1)).bind fun v2=>cond (v2 !=0) (some (.out (.inr v2))) (some (.go (w64 (x1+1))))) (some (.out (.inl ())))
instance roads_Check_l1_le (p1:Map)(x1:Int):Le (B0k p1 x1) (N9 p1 x1):=by unfold B0k N9;infer_instance
def A6t (p1:Map):Option Int:=
  thenS (T9 (B0k p1) 0) (fun _=>some 0) (fun r=>some r)
instance roads_Check_le (p1:Map):Le (A6t p1) (A3c p1):=by unfold A6t A3c;infer_instance
def A35 (p1:(List Int))(p2:Int)(x1:Int):Option (Stp Int (Sum Unit Int)):=
  cond (decide (x1< (p1.length:Int))) ((D6 p1 x1).bind fun v1=>cond (p2==v1) (some (.out (.inr x1))) (some (.go (w64 (x1+1))))) (some (.out (.inl ())))
instance slices_Index_int_int_l1_le (p1:(List Int))(p2:Int)(x1:Int):Le (A35 p1 p2 x1) (Q7 p1 p2 x1):=by unfold A35 Q7;infer_instance
def A28 (p1:(List Int))(p2:Int):Option Int:=
  thenS (T9 (A35 p1 p2) 0) (fun _=>some (-1)) (fun r=>some r)
instance slices_Index_int_int_le (p1:(List Int))(p2:Int):Le (A28 p1 p2) (V1 p1 p2):=by unfold A28 V1;infer_instance
def X7 (p1:(List Int))(p2:Int):Option Bool:=
  (A28 p1 p2).bind fun v1=>some (decide (v1≥0))
instance slices_Contains_int_int_le (p1:(List Int))(p2:Int):Le (X7 p1 p2) (L8 p1 p2):=by unfold X7 L8;infer_instance
def A95 (p1:Map)(p2:Int)(x1:((List Int)×Int)):Option (Stp ((List Int)×Int) (List Int)):=
  cond (decide (x1.2< (p1.Lanes.length:Int))) ((D6 p1.Lanes x1.2).bind fun v1=>(X7 v1.Next p2).bind fun v2=>cond v2 ((A8h x1.1 [x1.2]).bind fun v3=>some (.go (v3,(w64 (x1.2+1))))) (some (.go (x1.1,(w64 (x1.2+1)))))) (some (.out x1.1))
instance roads_before_l1_le (p1:Map)(p2:Int)(x1:((List Int)×Int)):Le (A95 p1 p2 x1) (A1b p1 p2 x1):=by unfold A95 A1b;infer_instance
def B39 (p1:Map)(p2:Int):Option (List Int):=
  (T9 (A95 p1 p2) ([],0)).bind fun y1=>some y1
instance roads_before_le (p1:Map)(p2:Int):Le (B39 p1 p2) (A4m p1 p2):=by unfold B39 A4m;infer_instance
def A5u (p1:Map)(v7:List Int)(x1:(Int×Int)):Option (Stp (Int×Int) (Sum Unit Int)):=
  cond (decide (x1.2< (v7.length:Int))) ((D6 v7 x1.2).bind fun v8=>(D6 p1.Lanes x1.1).bind fun v9=>(X7 v9.Next v8).bind fun v10=>cond (!v10) (some (.out (.inr 13))) (some (.go (v8,(w64 (x1.2+1)))))) (some (.out (.inl ())))
instance roads_CheckRoute_l1_le (p1:Map)(v7:List Int)(x1:(Int×Int)):Le (A5u p1 v7 x1) (Q8 p1 v7 x1):=by unfold A5u Q8;infer_instance
def A5m (p1:Map)(p2:(List Int)):Option Int:=
  (A6t p1).bind fun v1=>cond (v1 !=0) (some v1) (((cond (!(((p2.length:Int)==0)||(decide ((p2.length:Int)>8)))) (D6 p2 0) (some default))).bind fun v2=>((cond (!((((p2.length:Int)==0)||(decide ((p2.length:Int)>8)))||(decide (v2<0)))) (D6 p2 0) (some default))).bind fun v3=>((cond (!(((((p2.length:Int)==0)||(decide ((p2.length:Int)>8)))||(decide (v2<0)))||(decide (v3≥(p1.Lanes.length:Int))))) (D6 p2 0) (some default))).bind fun v4=>((cond (!(((((p2.length:Int)==0)||(decide ((p2.length:Int)>8)))||(decide (v2<0)))||(decide (v3≥(p1.Lanes.length:Int))))) (B39 p1 v4) (some default))).bind fun v5=>cond ((((((p2.length:Int)==0)||(decide ((p2.length:Int)>8)))||(decide (v2<0)))||(decide (v3≥(p1.Lanes.length:Int))))||(decide ((v5.length:Int)>0))) (some 13) ((D6 p2 0).bind fun v6=>(D5x p2 1 (p2.length:Int)).bind fun v7=>thenS (T9 (A5u p1 v7) (v6,0)) (fun _=>some 0) (fun r=>some r)))
instance roads_CheckRoute_le (p1:Map)(p2:(List Int)):Le (A5m p1 p2) (Z2 p1 p2):=by unfold A5m Z2;repeat' first|infer_instance|with_reducible refine Le.bind (h:= ?_) (hf:=fun _=> ?_)|with_reducible refine Le.cond (h:= ?_) (h':= ?_)|with_reducible refine Le.thenS (h:= ?_) (hf:=fun _=> ?_) (hg:=fun _=> ?_)
def A96 (p1:Map)(p2:(List Int))(x1:(Int× ((List Int)×Int))):Option (Stp (Int× ((List Int)×Int)) ((List Int)×Int)):=
  cond (decide (x1.1< (p2.length:Int))) ((D6 p2 x1.1).bind fun v2=>(A8h x1.2.1 [x1.2.2]).bind fun v3=>(A84 p1 v2).bind fun v4=>some (.go ((w64 (x1.1+1)),(v3,(w64 (x1.2.2+v4)))))) (some (.out x1.2))
instance roads_follow_l1_le (p1:Map)(p2:(List Int))(x1:(Int× ((List Int)×Int))):Le (A96 p1 p2 x1) (Y6 p1 p2 x1):=by unfold A96 Y6;infer_instance
def A5n (p1:Map)(p2:(List Int)):Option RoadsWay:=
  (A5m p1 p2).bind fun v1=>cond (v1 !=0) (some (RoadsWay.mk (Map.mk 0 [] [] [] []) [] [] 0)) ((T9 (A96 p1 p2) (0,([],0))).bind fun y1=>some (RoadsWay.mk p1 p2 y1.1 y1.2))
instance roads_follow_le (p1:Map)(p2:(List Int)):Le (A5n p1 p2) (A0z p1 p2):=by unfold A5n A0z;infer_instance
def A4f (p1:Map)(p2:(List Int)):Option Int:=
  (A5n p1 p2).bind fun v1=>some v1.length
instance roads_RouteLength_le (p1:Map)(p2:(List Int)):Le (A4f p1 p2) (X6 p1 p2):=by unfold A4f X6;infer_instance
def A7k (p1:Map)(p2:(List Int)):Option (List Int):=
  (A5n p1 p2).bind fun v1=>some v1.starts
instance roads_Starts_le (p1:Map)(p2:(List Int)):Le (A7k p1 p2) (A22 p1 p2):=by unfold A7k A22;infer_instance
def B1m (p2:Agent)(v1:(List Int))(x1:Int):Option (Stp Int Int):=
  (D6 v1 x1).bind fun v2=>cond (decide (v2>p2.S)) (some (.go (w64 (x1 - 1)))) (some (.out x1))
instance world_lane_l1_le (p2:Agent)(v1:(List Int))(x1:Int):Le (B1m p2 v1 x1) (A23 p2 v1 x1):=by unfold B1m A23;infer_instance
def B3a (p1:Map)(p2:Agent):Option (Int×Int):=
  (A7k p1 p2.Route).bind fun v1=>(T9 (B1m p2 v1) (w64 ((v1.length:Int) - 1))).bind fun y1=>(D6 p2.Route y1).bind fun v3=>(D6 v1 y1).bind fun v4=>some (v3,(w64 (p2.S - v4)))
instance world_lane_le (p1:Map)(p2:Agent):Le (B3a p1 p2) (A6p p1 p2):=by unfold B3a A6p;infer_instance
def A56 (p1:Agent):Option WorldSpan:=
  some (WorldSpan.mk (w64 (p1.S - p1.Len)) p1.S)
instance world_body_le (p1:Agent):Le (A56 p1) (A2w p1):=by unfold A56 A2w;infer_instance
def B3b (p1:Map)(p2:Agent):Option Bool:=
  (A56 p2).bind fun v1=>(A4f p1 p2.Route).bind fun v2=>some (decide (v1.from_>v2))
instance world_left_le (p1:Map)(p2:Agent):Le (B3b p1 p2) (A6q p1 p2):=by unfold B3b A6q;infer_instance
def A85 (p1:Map)(p2:State)(p3:Int):Option Int:=
  (D6 p2.Agents p3).bind fun v1=>(A5m p1 v1.Route).bind fun v2=>cond (v2 !=0) (some 13) (((cond (!(((((decide (v1.Len<300))||(decide (v1.Len>20000)))||(decide (v1.Begin<0)))||(decide (v1.Begin>1099511627776)))||(decide (v1.S<0)))) (A4f p1 v1.Route) (some default))).bind fun v3=>cond ((((((decide (v1.Len<300))||(decide (v1.Len>20000)))||(decide (v1.Begin<0)))||(decide (v1.Begin>1099511627776)))||(decide (v1.S<0)))||(decide (v1.S>(w64 ((w64 (v3+v1.Len))+2000))))) (some 2) ((B3a p1 v1).bind fun v4=>(D6 p1.Lanes v4.1).bind fun v5=>(A5l v5.Kind).bind fun v6=>cond ((decide (v1.V<0))||(decide (v1.V>v6.1))) (some 2) ((B3b p1 v1).bind fun v7=>cond ((!(v1.Gone==v7))||(((decide (v1.Begin>p2.Tick))&& (v1.S !=0))||((p3==0)&& (v1.Begin !=0)))) (some 10) (some 0))))
instance world_checkAgent_le (p1:Map)(p2:State)(p3:Int):Le (A85 p1 p2 p3) (A0p p1 p2 p3):=by unfold A85 A0p;repeat' first|infer_instance|with_reducible refine Le.bind (h:= ?_) (hf:=fun _=> ?_)|with_reducible refine Le.cond (h:= ?_) (h':= ?_)|with_reducible refine Le.thenS (h:= ?_) (hf:=fun _=> ?_) (hg:=fun _=> ?_)
def A8c (p1:Int):Option Bool:=
  some (p1 !=p1)
instance cmp_isNaN_int_le (p1:Int):Le (A8c p1) (A24 p1):=by unfold A8c A24;infer_instance
def A1t (p1:Int)(p2:Int):Option Int:=
  (A8c p1).bind fun v1=>(A8c p2).bind fun v2=>cond v1 (cond v2 (some 0) (some (-1))) (cond v2 (some 1) (cond (decide (p1<p2)) (some (-1)) (cond (decide (p1>p2)) (some 1) (some 0))))
instance cmp_Compare_int_le (p1:Int)(p2:Int):Le (A1t p1 p2) (W0 p1 p2):=by unfold A1t W0;infer_instance
def B1n (p1:(List Int))(x1:Int):Option (Stp Int (Sum Unit Int)):=
  cond (decide (x1< (p1.length:Int))) ((D6 p1 x1).bind fun v1=>cond (v1 !=0) (some (.out (.inr v1))) (some (.go (w64 (x1+1))))) (some (.out (.inl ())))
instance cmp_Or_int_l1_le (p1:(List Int))(x1:Int):Le (B1n p1 x1) (A3d p1 x1):=by unfold B1n A3d;infer_instance
def B0l (p1:(List Int)):Option Int:=
  thenS (T9 (B1n p1) 0) (fun _=>some 0) (fun r=>some r)
instance cmp_Or_int_le (p1:(List Int)):Le (B0l p1) (A5d p1):=by unfold B0l A5d;infer_instance
def A8w (p1:Stay)(p2:Stay):Option Int:=
  (A1t p1.Agent_ p2.Agent_).bind fun v1=>(A1t p1.Zone_ p2.Zone_).bind fun v2=>(B0l [v1,v2]).bind fun v3=>some v3
instance world_order_le (p1:Stay)(p2:Stay):Le (A8w p1 p2) (A3e p1 p2):=by unfold A8w A3e;infer_instance
def A97 (p1:Stay)(p2:State):Option Bool:=
  some ((((decide (p1.Since<0))||(decide (p1.Since>p2.Tick)))||(decide (p1.Rank<0)))||(decide (p1.Rank>100)))
instance world_Check_1_b_le (p1:Stay)(p2:State):Le (A97 p1 p2) (A2x p1 p2):=by unfold A97 A2x;infer_instance
def P2 (p1:(List Stay))(p2:State)(x1:Int):Option (Stp Int (Sum Unit Int)):=
  cond (decide (x1< (p1.length:Int))) ((D6 p1 x1).bind fun v1=>(A97 v1 p2).bind fun v2=>cond v2 (some (.out (.inr x1))) (some (.go (w64 (x1+1))))) (some (.out (.inl ())))
instance slices_IndexFunc_Stay_Stay_world_Check_1b_l1_le (p1:(List Stay))(p2:State)(x1:Int):Le (P2 p1 p2 x1) (D5 p1 p2 x1):=by unfold P2 D5;infer_instance
def R5 (p1:(List Stay))(p2:State):Option Int:=
  thenS (T9 (P2 p1 p2) 0) (fun _=>some (-1)) (fun r=>some r)
instance slices_IndexFunc_Stay_Stay_world_Check_1b_le (p1:(List Stay))(p2:State):Le (R5 p1 p2) (G2 p1 p2):=by unfold R5 G2;infer_instance
def P3 (p1:(List Stay))(p2:State):Option Bool:=
  (R5 p1 p2).bind fun v1=>some (decide (v1≥0))
instance slices_ContainsFunc_Stay_Stay_world_Check_1b_le (p1:(List Stay))(p2:State):Le (P3 p1 p2) (D1 p1 p2):=by unfold P3 D1;infer_instance
def B0m (p1:Map)(p2:State)(x2:Int):Option (Stp Int (Sum Unit Int)):=
  cond (decide (x2< (p2.In.length:Int))) ((D6 p2.In x2).bind fun v3=>((cond ((!((((decide (v3.Agent_<0))||(decide (v3.Agent_≥(p2.Agents.length:Int))))||(decide (v3.Zone_<0)))||(decide (v3.Zone_≥(p1.Zones.length:Int)))))&& (decide (x2>0))) (D6 p2.In (w64 (x2 - 1))) (some default))).bind fun v4=>((cond ((!((((decide (v3.Agent_<0))||(decide (v3.Agent_≥(p2.Agents.length:Int))))||(decide (v3.Zone_<0)))||(decide (v3.Zone_≥(p1.Zones.length:Int)))))&& (decide (x2>0))) (A8w v4 v3) (some default))).bind fun v5=>cond (((((decide (v3.Agent_<0))||(decide (v3.Agent_≥(p2.Agents.length:Int))))||(decide (v3.Zone_<0)))||(decide (v3.Zone_≥(p1.Zones.length:Int))))||((decide (x2>0))&& (decide (v5≥0)))) (some (.out (.inr 11))) (some (.go (w64 (x2+1))))) (some (.out (.inl ())))
instance world_Check_l2_le (p1:Map)(p2:State)(x2:Int):Le (B0m p1 p2 x2) (A10 p1 p2 x2):=by unfold B0m A10;repeat' first|infer_instance|with_reducible refine Le.bind (h:= ?_) (hf:=fun _=> ?_)|with_reducible refine Le.cond (h:= ?_) (h':= ?_)|with_reducible refine Le.thenS (h:= ?_) (hf:=fun _=> ?_) (hg:=fun _=> ?_)
def B0n (p1:Map)(p2:State)(x1:Int):Option (Stp Int (Sum Unit Int)):=
  cond (decide (x1< (p2.Agents.length:Int))) ((A85 p1 p2 x1).bind fun v2=>cond (v2 !=0) (some (.out (.inr v2))) (some (.go (w64 (x1+1))))) (some (.out (.inl ())))
instance world_Check_l1_le (p1:Map)(p2:State)(x1:Int):Le (B0n p1 p2 x1) (A11 p1 p2 x1):=by unfold B0n A11;infer_instance
def A8x (p1:Map)(p2:State):Option Int:=
  (A6t p1).bind fun v1=>cond (v1 !=0) (some v1) (cond ((decide (p2.Tick<0))||(decide (p2.Tick>1099511627776))) (some 2) (cond ((p2.Agents.length:Int)==0) (some 6) (cond (decide ((p2.Agents.length:Int)>8)) (some 8) (thenS (T9 (B0n p1 p2) 0) (fun _=>thenS (T9 (B0m p1 p2) 0) (fun _=>(P3 p2.In p2).bind fun v6=>cond v6 (some 2) (some 0)) (fun r=>some r)) (fun r=>some r)))))
instance world_Check_le (p1:Map)(p2:State):Le (A8x p1 p2) (A2d p1 p2):=by unfold A8x A2d;repeat' first|infer_instance|with_reducible refine Le.bind (h:= ?_) (hf:=fun _=> ?_)|with_reducible refine Le.cond (h:= ?_) (h':= ?_)|with_reducible refine Le.thenS (h:= ?_) (hf:=fun _=> ?_) (hg:=fun _=> ?_)
def B48 (p1:Agent):Option Bool:=
  some p1.Gone
instance world_New_1_le (p1:Agent):Le (B48 p1) (B08 p1):=by unfold B48 B08;infer_instance
def P6 (p1:(List Agent))(x1:Int):Option (Stp Int (Sum Unit Int)):=
  cond (decide (x1< (p1.length:Int))) ((D6 p1 x1).bind fun v1=>(B48 v1).bind fun v2=>cond v2 (some (.out (.inr x1))) (some (.go (w64 (x1+1))))) (some (.out (.inl ())))
instance slices_IndexFunc_Agent_Agent_world_New_1_l1_le (p1:(List Agent))(x1:Int):Le (P6 p1 x1) (I7 p1 x1):=by unfold P6 I7;infer_instance
def S7 (p1:(List Agent)):Option Int:=
  thenS (T9 (P6 p1) 0) (fun _=>some (-1)) (fun r=>some r)
instance slices_IndexFunc_Agent_Agent_world_New_1_le (p1:(List Agent)):Le (S7 p1) (J8 p1):=by unfold S7 J8;infer_instance
def P7 (p1:(List Agent)):Option Bool:=
  (S7 p1).bind fun v1=>some (decide (v1≥0))
instance slices_ContainsFunc_Agent_Agent_world_New_1_le (p1:(List Agent)):Le (P7 p1) (I8 p1):=by unfold P7 I8;infer_instance
def A6u (p1:State)(p2:Int):Option Bool:=
  ((cond ((decide (p2≥0))&& (decide (p2< (p1.Agents.length:Int)))) (D6 p1.Agents p2) (some default))).bind fun v1=>((cond (((decide (p2≥0))&& (decide (p2< (p1.Agents.length:Int))))&& (!v1.Gone)) (D6 p1.Agents p2) (some default))).bind fun v2=>some ((((decide (p2≥0))&& (decide (p2< (p1.Agents.length:Int))))&& (!v1.Gone))&& (decide (v2.Begin≤p1.Tick)))
instance world_There_le (p1:State)(p2:Int):Le (A6u p1 p2) (A4n p1 p2):=by unfold A6u A4n;repeat' first|infer_instance|with_reducible refine Le.bind (h:= ?_) (hf:=fun _=> ?_)|with_reducible refine Le.cond (h:= ?_) (h':= ?_)|with_reducible refine Le.thenS (h:= ?_) (hf:=fun _=> ?_) (hg:=fun _=> ?_)
def B0o (p1:Agent):Option Bool:=
  some ((((decide (p1.S≥0))&& (decide (p1.S≤1099511627776)))&& (decide (p1.Len≥0)))&& (decide (p1.Len≤1099511627776)))
instance world_sane_le (p1:Agent):Le (B0o p1) (A7z p1):=by unfold B0o A7z;infer_instance
def A1u (p1:Int):Option Bool:=
  some (p1 !=p1)
instance cmp_isNaN_int64_le (p1:Int):Le (A1u p1) (A08 p1):=by unfold A1u A08;infer_instance
def A4g (p1:Int)(p2:Int):Option Int:=
  (A1u p1).bind fun v1=>(A1u p2).bind fun v2=>cond v1 (cond v2 (some 0) (some (-1))) (cond v2 (some 1) (cond (decide (p1<p2)) (some (-1)) (cond (decide (p1>p2)) (some 1) (some 0))))
instance cmp_Compare_int64_le (p1:Int)(p2:Int):Le (A4g p1 p2) (A12 p1 p2):=by unfold A4g A12;infer_instance
def B0p (p1:Pass)(p2:Pass):Option Int:=
  (A4g p1.From p2.From).bind fun v1=>(A1t p1.Zone_ p2.Zone_).bind fun v2=>(B0l [v1,v2]).bind fun v3=>some v3
instance roads_Passes_1_le (p1:Pass)(p2:Pass):Le (B0p p1 p2) (A5z p1 p2):=by unfold B0p A5z;infer_instance
def M0 (p2:Int)(x2:(Int× (List Pass))):Option (Stp (Int× (List Pass)) (List Pass)):=
  ((cond (decide (x2.1>p2)) (D6 x2.2 x2.1) (some default))).bind fun v1=>((cond (decide (x2.1>p2)) (D6 x2.2 (w64 (x2.1 - 1))) (some default))).bind fun v2=>((cond (decide (x2.1>p2)) (B0p v1 v2) (some default))).bind fun v3=>cond ((decide (x2.1>p2))&& (decide (v3<0))) ((D6 x2.2 (w64 (x2.1 - 1))).bind fun v4=>(D6 x2.2 x2.1).bind fun v5=>(D6 x2.2 x2.1).bind fun v6=>(D6 (B8d x2.2 x2.1 v4) (w64 (x2.1 - 1))).bind fun v7=>some (.go ((w64 (x2.1 - 1)),(B8d (B8d x2.2 x2.1 v4) (w64 (x2.1 - 1)) v5)))) (some (.out x2.2))
instance slices_insertionSortCmpFunc_Pass_a_roads_Passes_1_l2_le (p2:Int)(x2:(Int× (List Pass))):Le (M0 p2 x2) (E9 p2 x2):=by unfold M0 E9;repeat' first|infer_instance|with_reducible refine Le.bind (h:= ?_) (hf:=fun _=> ?_)|with_reducible refine Le.cond (h:= ?_) (h':= ?_)|with_reducible refine Le.thenS (h:= ?_) (hf:=fun _=> ?_) (hg:=fun _=> ?_)
def M1 (p2:Int)(p3:Int)(x1:(Int× (List Pass))):Option (Stp (Int× (List Pass)) (List Pass)):=
  cond (decide (x1.1<p3)) ((T9 (M0 p2) (x1.1,x1.2)).bind fun y1=>some (.go ((w64 (x1.1+1)),y1))) (some (.out (x1.2)))
instance slices_insertionSortCmpFunc_Pass_a_roads_Passes_1_l1_le (p2:Int)(p3:Int)(x1:(Int× (List Pass))):Le (M1 p2 p3 x1) (F0 p2 p3 x1):=by unfold M1 F0;infer_instance
def J3 (p1:(List Pass))(p2:Int)(p3:Int):Option (List Pass):=
  T9 (M1 p2 p3) ((w64 (p2+1)),p1)
instance slices_insertionSortCmpFunc_Pass_a_roads_Passes_1_le (p1:(List Pass))(p2:Int)(p3:Int):Le (J3 p1 p2 p3) (D8 p1 p2 p3):=by unfold J3 D8;infer_instance
def O5 (p2:Int)(x3:(Int×Int)):Option (Stp (Int×Int) Int):=
  cond (decide (x3.2≤p2)) (none) (some (.out x3.1))
instance slices_stableCmpFunc_Pass_a_roads_Passes_1_l3_le (p2:Int)(x3:(Int×Int)):Le (O5 p2 x3) (H6 p2 x3):=by unfold O5 H6;infer_instance
def O6 (p2:Int)(v2:(List Pass))(x2:Int):Option (Stp Int (List Pass)):=
  cond (decide (x2<p2)) ((T9 (O5 p2) (0,(w64 (2*x2)))).bind fun y2=>cond (decide ((w64 (y2+x2))<p2)) (none) (some (.go (w64 (x2*2))))) (some (.out (v2)))
instance slices_stableCmpFunc_Pass_a_roads_Passes_1_l2_le (p2:Int)(v2:(List Pass))(x2:Int):Le (O6 p2 v2 x2) (H7 p2 v2 x2):=by unfold O6 H7;infer_instance
def O7 (p2:Int)(x1:(Int×Int× (List Pass))):Option (Stp (Int×Int× (List Pass)) (Int× (List Pass))):=
  cond (decide (x1.2.1≤p2)) ((J3 x1.2.2 x1.1 x1.2.1).bind fun v1=>some (.go (x1.2.1,(w64 (x1.2.1+20)),v1))) (some (.out (x1.1,x1.2.2)))
instance slices_stableCmpFunc_Pass_a_roads_Passes_1_l1_le (p2:Int)(x1:(Int×Int× (List Pass))):Le (O7 p2 x1) (H8 p2 x1):=by unfold O7 H8;infer_instance
def Q9 (p1:(List Pass))(p2:Int):Option (List Pass):=
  (T9 (O7 p2) (0,20,p1)).bind fun y1=>(J3 y1.2 y1.1 p2).bind fun v2=>T9 (O6 p2 v2) 20
instance slices_stableCmpFunc_Pass_a_roads_Passes_1_le (p1:(List Pass))(p2:Int):Le (Q9 p1 p2) (J5 p1 p2):=by unfold Q9 J5;infer_instance
def N3 (p1:(List Pass)):Option (List Pass):=
  (Q9 p1 (p1.length:Int)).bind fun v1=>some v1
instance slices_SortStableFunc_Pass_Pass_a_roads_Passes_1_le (p1:(List Pass)):Le (N3 p1) (G0 p1):=by unfold N3 G0;infer_instance
def M2 (p1:Int)(x2:Int):Option (Stp Int Unit):=
  ((cond (decide (x2>p1)) ((none:Option Unit)) (some default))).bind fun v1=>cond ((decide (x2>p1))&&false) (none) (some (.out ()))
instance slices_insertionSortCmpFunc_Pass_n_roads_Passes_1_l2_le (p1:Int)(x2:Int):Le (M2 p1 x2) (F1 p1 x2):=by unfold M2 F1;infer_instance
def M3 (p1:Int)(p2:Int)(x1:Int):Option (Stp Int Unit):=
  cond (decide (x1<p2)) ((T9 (M2 p1) x1).bind fun _=>some (.go (w64 (x1+1)))) (some (.out (())))
instance slices_insertionSortCmpFunc_Pass_n_roads_Passes_1_l1_le (p1:Int)(p2:Int)(x1:Int):Le (M3 p1 p2 x1) (F2 p1 p2 x1):=by unfold M3 F2;infer_instance
def J4 (p1:Int)(p2:Int):Option Unit:=
  T9 (M3 p1 p2) (w64 (p1+1))
instance slices_insertionSortCmpFunc_Pass_n_roads_Passes_1_le (p1:Int)(p2:Int):Le (J4 p1 p2) (D9 p1 p2):=by unfold J4 D9;infer_instance
def O8 (p1:Int)(x3:(Int×Int)):Option (Stp (Int×Int) Int):=
  cond (decide (x3.2≤p1)) (none) (some (.out x3.1))
instance slices_stableCmpFunc_Pass_n_roads_Passes_1_l3_le (p1:Int)(x3:(Int×Int)):Le (O8 p1 x3) (H9 p1 x3):=by unfold O8 H9;infer_instance
def O9 (p1:Int)(x2:Int):Option (Stp Int Unit):=
  cond (decide (x2<p1)) ((T9 (O8 p1) (0,(w64 (2*x2)))).bind fun y2=>cond (decide ((w64 (y2+x2))<p1)) (none) (some (.go (w64 (x2*2))))) (some (.out (())))
instance slices_stableCmpFunc_Pass_n_roads_Passes_1_l2_le (p1:Int)(x2:Int):Le (O9 p1 x2) (I0 p1 x2):=by unfold O9 I0;infer_instance
def P0 (p1:Int)(x1:(Int×Int)):Option (Stp (Int×Int) Int):=
  cond (decide (x1.2≤p1)) ((J4 x1.1 x1.2).bind fun v1=>some (.go (x1.2,(w64 (x1.2+20))))) (some (.out x1.1))
instance slices_stableCmpFunc_Pass_n_roads_Passes_1_l1_le (p1:Int)(x1:(Int×Int)):Le (P0 p1 x1) (I3 p1 x1):=by unfold P0 I3;infer_instance
def R0 (p1:Int):Option Unit:=
  (T9 (P0 p1) (0,20)).bind fun y1=>(J4 y1 p1).bind fun v2=>T9 (O9 p1) 20
instance slices_stableCmpFunc_Pass_n_roads_Passes_1_le (p1:Int):Le (R0 p1) (J6 p1):=by unfold R0 J6;infer_instance
def N4:Option Unit:=
  (R0 0).bind fun v1=>some ()
instance slices_SortStableFunc_Pass_Pass_n_roads_Passes_1_le:Le (N4) (G1):=by unfold N4 G1;infer_instance
def A98 (v1:RoadsWay)(x1:((List Pass)×Int))(v2:Int)(x2:((List Pass)×Int))(v3:Zone)(x3:((List Pass)×Int)):Option (Stp ((List Pass)×Int) (List Pass)):=
  cond (decide (x3.2< (v3.Parts.length:Int))) ((D6 v3.Parts x3.2).bind fun v4=>cond (v4.Lane_==v2) ((D6 v1.starts x1.2).bind fun v5=>(D6 v1.starts x1.2).bind fun v6=>(A8h x3.1 [(Pass.mk x2.2 x3.2 (w64 (v5+v4.From)) (w64 (v6+v4.To)))]).bind fun v7=>some (.go (v7,(w64 (x3.2+1))))) (some (.go (x3.1,(w64 (x3.2+1)))))) (some (.out x3.1))
instance roads_Passes_l3_le (v1:RoadsWay)(x1:((List Pass)×Int))(v2:Int)(x2:((List Pass)×Int))(v3:Zone)(x3:((List Pass)×Int)):Le (A98 v1 x1 v2 x2 v3 x3) (A4o v1 x1 v2 x2 v3 x3):=by unfold A98 A4o;repeat' first|infer_instance|with_reducible refine Le.bind (h:= ?_) (hf:=fun _=> ?_)|with_reducible refine Le.cond (h:= ?_) (h':= ?_)|with_reducible refine Le.thenS (h:= ?_) (hf:=fun _=> ?_) (hg:=fun _=> ?_)
def A99 (p1:Map)(v1:RoadsWay)(x1:((List Pass)×Int))(v2:Int)(x2:((List Pass)×Int)):Option (Stp ((List Pass)×Int) (List Pass)):=
  cond (decide (x2.2< (p1.Zones.length:Int))) ((D6 p1.Zones x2.2).bind fun v3=>(T9 (A98 v1 x1 v2 x2 v3) (x2.1,0)).bind fun y3=>some (.go (y3,(w64 (x2.2+1))))) (some (.out x2.1))
instance roads_Passes_l2_le (p1:Map)(v1:RoadsWay)(x1:((List Pass)×Int))(v2:Int)(x2:((List Pass)×Int)):Le (A99 p1 v1 x1 v2 x2) (A4p p1 v1 x1 v2 x2):=by unfold A99 A4p;infer_instance
def A9a (p1:Map)(v1:RoadsWay)(x1:((List Pass)×Int)):Option (Stp ((List Pass)×Int) (List Pass)):=
  cond (decide (x1.2< (v1.lanes.length:Int))) ((D6 v1.lanes x1.2).bind fun v2=>(T9 (A99 p1 v1 x1 v2) (x1.1,0)).bind fun y2=>some (.go (y2,(w64 (x1.2+1))))) (some (.out x1.1))
instance roads_Passes_l1_le (p1:Map)(v1:RoadsWay)(x1:((List Pass)×Int)):Le (A9a p1 v1 x1) (A4q p1 v1 x1):=by unfold A9a A4q;infer_instance
def B3c (p1:Map)(p2:(List Int)):Option (List Pass):=
  (A5n p1 p2).bind fun v1=>(T9 (A9a p1 v1) ([],0)).bind fun y1=>cond (List.isEmpty y1) ((N4).bind fun v9=>some []) ((N3 y1).bind fun v8=>some v8)
instance roads_Passes_le (p1:Map)(p2:(List Int)):Le (B3c p1 p2) (A8k p1 p2):=by unfold B3c A8k;infer_instance
def A5v (p1:Pass)(p2:Int)(p3:WorldSpan):Option Bool:=
  some (((p1.Zone_==p2)&& (decide (p1.From≤p3.to)))&& (decide (p3.from_≤p1.To)))
instance world_Present_1_b_b_le (p1:Pass)(p2:Int)(p3:WorldSpan):Le (A5v p1 p2 p3) (A1e p1 p2 p3):=by unfold A5v A1e;infer_instance
def N5 (p1:(List Pass))(p2:Int)(p3:WorldSpan)(x1:Int):Option (Stp Int (Sum Unit Int)):=
  cond (decide (x1< (p1.length:Int))) ((D6 p1 x1).bind fun v1=>(A5v v1 p2 p3).bind fun v2=>cond v2 (some (.out (.inr x1))) (some (.go (w64 (x1+1))))) (some (.out (.inl ())))
instance slices_IndexFunc_Pass_Pass_world_Present_1bb_l1_le (p1:(List Pass))(p2:Int)(p3:WorldSpan)(x1:Int):Le (N5 p1 p2 p3 x1) (G4 p1 p2 p3 x1):=by unfold N5 G4;infer_instance
def P4 (p1:(List Pass))(p2:Int)(p3:WorldSpan):Option Int:=
  thenS (T9 (N5 p1 p2 p3) 0) (fun _=>some (-1)) (fun r=>some r)
instance slices_IndexFunc_Pass_Pass_world_Present_1bb_le (p1:(List Pass))(p2:Int)(p3:WorldSpan):Le (P4 p1 p2 p3) (I4 p1 p2 p3):=by unfold P4 I4;infer_instance
def N6 (p1:(List Pass))(p2:Int)(p3:WorldSpan):Option Bool:=
  (P4 p1 p2 p3).bind fun v1=>some (decide (v1≥0))
instance slices_ContainsFunc_Pass_Pass_world_Present_1bb_le (p1:(List Pass))(p2:Int)(p3:WorldSpan):Le (N6 p1 p2 p3) (G5 p1 p2 p3):=by unfold N6 G5;infer_instance
def B1o (p1:Map)(p2:Agent)(p3:Agent)(p4:Int):Option Bool:=
  (B0o p2).bind fun v1=>((cond (!(!v1)) (B0o p3) (some default))).bind fun v2=>cond ((!v1)||(!v2)) (some false) ((A56 p2).bind fun v3=>(B3c p1 p2.Route).bind fun v4=>(N6 v4 p4 (WorldSpan.mk v3.from_ p3.S)).bind fun v5=>some v5)
instance world_Present_le (p1:Map)(p2:Agent)(p3:Agent)(p4:Int):Le (B1o p1 p2 p3 p4) (A77 p1 p2 p3 p4):=by unfold B1o A77;infer_instance
def V7 (p1:WorldScene)(p2:Int)(p3:Int):Option Bool:=
  (A6u p1.before p2).bind fun v1=>((cond v1 (D6 p1.before.Agents p2) (some default))).bind fun v2=>((cond v1 (D6 p1.after.Agents p2) (some default))).bind fun v3=>((cond v1 (B1o p1.m v2 v3 p3) (some default))).bind fun v4=>some (v1&&v4)
instance world_scene_present_b_le (p1:WorldScene)(p2:Int)(p3:Int):Le (V7 p1 p2 p3) (Q6 p1 p2 p3):=by unfold V7 Q6;infer_instance
def L4 (p1:(List Stay))(p2:Stay)(x1:(Int×Int)):Option (Stp (Int×Int) Int):=
  cond (decide (x1.1<x1.2)) ((D6 p1 (w64 ((IntKind.wrap .u64 (w64 (x1.1+x1.2))).fdiv (2^ (min (1:Int).toNat (IntKind.bits .u64)))))).bind fun v1=>(A8w v1 p2).bind fun v2=>cond (decide (v2<0)) (some (.go ((w64 ((w64 ((IntKind.wrap .u64 (w64 (x1.1+x1.2))).fdiv (2^ (min (1:Int).toNat (IntKind.bits .u64)))))+1)),x1.2))) (some (.go (x1.1,(w64 ((IntKind.wrap .u64 (w64 (x1.1+x1.2))).fdiv (2^ (min (1:Int).toNat (IntKind.bits .u64))))))))) (some (.out x1.1))
instance slices_BinarySearchFunc_Stay_Stay_Stay_world_order_l1_le (p1:(List Stay))(p2:Stay)(x1:(Int×Int)):Le (L4 p1 p2 x1) (E8 p1 p2 x1):=by unfold L4 E8;repeat' first|infer_instance|with_reducible refine Le.bind (h:= ?_) (hf:=fun _=> ?_)|with_reducible refine Le.cond (h:= ?_) (h':= ?_)|with_reducible refine Le.thenS (h:= ?_) (hf:=fun _=> ?_) (hg:=fun _=> ?_)
def F4 (p1:(List Stay))(p2:Stay):Option (Int×Bool):=
  (T9 (L4 p1 p2) (0,(p1.length:Int))).bind fun y1=>((cond (decide (y1< (p1.length:Int))) (D6 p1 y1) (some default))).bind fun v3=>((cond (decide (y1< (p1.length:Int))) (A8w v3 p2) (some default))).bind fun v4=>some (y1,((decide (y1< (p1.length:Int)))&& (v4==0)))
instance slices_BinarySearchFunc_Stay_Stay_Stay_world_order_le (p1:(List Stay))(p2:Stay):Le (F4 p1 p2) (C8 p1 p2):=by unfold F4 C8;repeat' first|infer_instance|with_reducible refine Le.bind (h:= ?_) (hf:=fun _=> ?_)|with_reducible refine Le.cond (h:= ?_) (h':= ?_)|with_reducible refine Le.thenS (h:= ?_) (hf:=fun _=> ?_) (hg:=fun _=> ?_)
def B0q (p1:Part)(p2:Int):Option Bool:=
  some (p1.Lane_==p2)
instance roads_part_1_b_le (p1:Part)(p2:Int):Le (B0q p1 p2) (A60 p1 p2):=by unfold B0q A60;infer_instance
def P8 (p1:(List Part))(p2:Int)(x1:Int):Option (Stp Int (Sum Unit Int)):=
  cond (decide (x1< (p1.length:Int))) ((D6 p1 x1).bind fun v1=>(B0q v1 p2).bind fun v2=>cond v2 (some (.out (.inr x1))) (some (.go (w64 (x1+1))))) (some (.out (.inl ())))
instance slices_IndexFunc_Part_Part_roads_part_1b_l1_le (p1:(List Part))(p2:Int)(x1:Int):Le (P8 p1 p2 x1) (I9 p1 p2 x1):=by unfold P8 I9;infer_instance
def S8 (p1:(List Part))(p2:Int):Option Int:=
  thenS (T9 (P8 p1 p2) 0) (fun _=>some (-1)) (fun r=>some r)
instance slices_IndexFunc_Part_Part_roads_part_1b_le (p1:(List Part))(p2:Int):Le (S8 p1 p2) (J9 p1 p2):=by unfold S8 J9;infer_instance
def B5x (p1:Zone)(p2:Int):Option (Part×Bool):=
  (S8 p1.Parts p2).bind fun v1=>cond (decide (v1<0)) (some ((Part.mk 0 0 0 0),false)) ((D6 p1.Parts v1).bind fun v2=>some (v2,true))
instance roads_part_le (p1:Zone)(p2:Int):Le (B5x p1 p2) (B2e p1 p2):=by unfold B5x B2e;infer_instance
def A7l (p1:Int)(p2:Map)(p3:Int):Option Bool:=
  (D6 p2.Zones p3).bind fun v1=>(B5x v1 p1).bind fun v2=>some v2.2
instance roads_Entry_1_b_b_le (p1:Int)(p2:Map)(p3:Int):Le (A7l p1 p2 p3) (A30 p1 p2 p3):=by unfold A7l A30;infer_instance
def P9 (p1:(List Int))(p2:Map)(p3:Int)(x1:Int):Option (Stp Int (Sum Unit Int)):=
  cond (decide (x1< (p1.length:Int))) ((D6 p1 x1).bind fun v1=>(A7l v1 p2 p3).bind fun v2=>cond v2 (some (.out (.inr x1))) (some (.go (w64 (x1+1))))) (some (.out (.inl ())))
instance slices_IndexFunc_int_int_roads_Entry_1bb_l1_le (p1:(List Int))(p2:Map)(p3:Int)(x1:Int):Le (P9 p1 p2 p3 x1) (J0 p1 p2 p3 x1):=by unfold P9 J0;infer_instance
def S9 (p1:(List Int))(p2:Map)(p3:Int):Option Int:=
  thenS (T9 (P9 p1 p2 p3) 0) (fun _=>some (-1)) (fun r=>some r)
instance slices_IndexFunc_int_int_roads_Entry_1bb_le (p1:(List Int))(p2:Map)(p3:Int):Le (S9 p1 p2 p3) (K0 p1 p2 p3):=by unfold S9 K0;infer_instance
def B49 (p1:Map)(p2:(List Int))(p3:Int):Option Int:=
  (A5n p1 p2).bind fun v1=>cond ((decide (p3<0))||(decide (p3≥(p1.Zones.length:Int)))) (some (-1)) ((S9 v1.lanes p1 p3).bind fun v2=>some v2)
instance roads_Entry_le (p1:Map)(p2:(List Int))(p3:Int):Le (B49 p1 p2 p3) (B09 p1 p2 p3):=by unfold B49 B09;infer_instance
def A8y (p1:Map)(p2:(List Int))(p3:Int):Option Int:=
  (B49 p1 p2 p3).bind fun v1=>cond (decide (v1≥0)) ((D6 p2 v1).bind fun v2=>some v2) (some (-1))
instance world_entry_le (p1:Map)(p2:(List Int))(p3:Int):Le (A8y p1 p2 p3) (A6d p1 p2 p3):=by unfold A8y A6d;infer_instance
def B4a (p1:Map)(p2:Int):Option Bool:=
  ((cond ((decide (p2≥0))&& (decide (p2< (p1.Lanes.length:Int)))) (A6t p1) (some default))).bind fun v1=>some (((decide (p2≥0))&& (decide (p2< (p1.Lanes.length:Int))))&& (v1==0))
instance roads_is_le (p1:Map)(p2:Int):Le (B4a p1 p2) (B31 p1 p2):=by unfold B4a B31;infer_instance
def B0r (p1:Signal)(p2:Int)(x2:(Int×Int)):Option (Stp (Int×Int) (Sum Unit Bool)):=
  cond (decide (x2.2< (p1.Phases.length:Int))) ((D6 p1.Phases x2.2).bind fun v5=>cond (decide (x2.1≥v5.Ticks)) (some (.go ((w64 (x2.1 - v5.Ticks)),(w64 (x2.2+1))))) ((X7 v5.Green p2).bind fun v6=>some (.out (.inr v6)))) (some (.out (.inl ())))
instance signs_Green_l2_le (p1:Signal)(p2:Int)(x2:(Int×Int)):Le (B0r p1 p2 x2) (A61 p1 p2 x2):=by unfold B0r A61;infer_instance
def B0s (p1:Signal)(x1:(Int×Int)):Option (Stp (Int×Int) Int):=
  cond (decide (x1.2< (p1.Phases.length:Int))) ((D6 p1.Phases x1.2).bind fun v1=>some (.go ((w64 (x1.1+v1.Ticks)),(w64 (x1.2+1))))) (some (.out x1.1))
instance signs_Green_l1_le (p1:Signal)(x1:(Int×Int)):Le (B0s p1 x1) (A62 p1 x1):=by unfold B0s A62;infer_instance
def B1d (p1:Signal)(p2:Int)(p3:Int):Option Bool:=
  (T9 (B0s p1) (0,0)).bind fun y1=>(D0d p1.Offset y1).bind fun v2=>(D0d p3 y1).bind fun v3=>(D0d (w64 (v2+v3)) y1).bind fun v4=>thenS (T9 (B0r p1 p2) (v4,0)) (fun _=>some false) (fun r=>some r)
instance signs_Green_le (p1:Signal)(p2:Int)(p3:Int):Le (B1d p1 p2 p3) (A80 p1 p2 p3):=by unfold B1d A80;infer_instance
def B4b (p1:Map)(p2:Int)(p3:Int)(p4:Int):Option Bool:=
  ((cond (((decide (p4≥0))&& (decide (p2≥0)))&& (decide (p2< (p1.Signals.length:Int)))) (B4a p1 p3) (some default))).bind fun v1=>((cond ((((decide (p4≥0))&& (decide (p2≥0)))&& (decide (p2< (p1.Signals.length:Int))))&&v1) (D6 p1.Signals p2) (some default))).bind fun v2=>((cond ((((decide (p4≥0))&& (decide (p2≥0)))&& (decide (p2< (p1.Signals.length:Int))))&&v1) (B1d v2 p3 p4) (some default))).bind fun v3=>some (((((decide (p4≥0))&& (decide (p2≥0)))&& (decide (p2< (p1.Signals.length:Int))))&&v1)&&v3)
instance roads_Green_le (p1:Map)(p2:Int)(p3:Int)(p4:Int):Le (B4b p1 p2 p3 p4) (B0a p1 p2 p3 p4):=by unfold B4b B0a;repeat' first|infer_instance|with_reducible refine Le.bind (h:= ?_) (hf:=fun _=> ?_)|with_reducible refine Le.cond (h:= ?_) (h':= ?_)|with_reducible refine Le.thenS (h:= ?_) (hf:=fun _=> ?_) (hg:=fun _=> ?_)
def B0t (p1:Part)(p2:Int):Option Bool:=
  some (p1.Lane_==p2)
instance world_Rank_1_b_le (p1:Part)(p2:Int):Le (B0t p1 p2) (A63 p1 p2):=by unfold B0t A63;infer_instance
def Q0 (p1:(List Part))(p2:Int)(x1:Int):Option (Stp Int (Sum Unit Int)):=
  cond (decide (x1< (p1.length:Int))) ((D6 p1 x1).bind fun v1=>(B0t v1 p2).bind fun v2=>cond v2 (some (.out (.inr x1))) (some (.go (w64 (x1+1))))) (some (.out (.inl ())))
instance slices_IndexFunc_Part_Part_world_Rank_1b_l1_le (p1:(List Part))(p2:Int)(x1:Int):Le (Q0 p1 p2 x1) (J1 p1 p2 x1):=by unfold Q0 J1;infer_instance
def T0 (p1:(List Part))(p2:Int):Option Int:=
  thenS (T9 (Q0 p1 p2) 0) (fun _=>some (-1)) (fun r=>some r)
instance slices_IndexFunc_Part_Part_world_Rank_1b_le (p1:(List Part))(p2:Int):Le (T0 p1 p2) (K1 p1 p2):=by unfold T0 K1;infer_instance
def B3d (p1:Map)(p2:Agent)(p3:Int)(p4:Int):Option Int:=
  (A8y p1 p2.Route p3).bind fun v1=>cond (decide (v1<0)) (some 0) ((D6 p1.Zones p3).bind fun v2=>((cond (decide (v2.Signal_>0)) (B4b p1 (w64 (v2.Signal_ - 1)) v1 p4) (some default))).bind fun v3=>cond ((decide (v2.Signal_>0))&&v3) (some 2) (cond (decide (v2.Signal_>0)) (some 0) ((T0 v2.Parts v1).bind fun v4=>(D6 v2.Parts v4).bind fun v5=>some v5.Rank)))
instance world_Rank_le (p1:Map)(p2:Agent)(p3:Int)(p4:Int):Le (B3d p1 p2 p3 p4) (A9t p1 p2 p3 p4):=by unfold B3d A9t;repeat' first|infer_instance|with_reducible refine Le.bind (h:= ?_) (hf:=fun _=> ?_)|with_reducible refine Le.cond (h:= ?_) (h':= ?_)|with_reducible refine Le.thenS (h:= ?_) (hf:=fun _=> ?_) (hg:=fun _=> ?_)
def A3n (p1:WorldScene)(x1:(Int× (List Stay)))(v1:Agent)(x2:(Int× (List Stay))):Option (Stp (Int× (List Stay)) (List Stay)):=
  cond (decide (x2.1< (p1.m.Zones.length:Int))) ((V7 (WorldScene.mk p1.m p1.before (State.mk p1.after.Tick p1.after.Agents x2.2) p1.acts p1.crashes) x1.1 x2.1).bind fun v2=>cond (!v2) (some (.go ((w64 (x2.1+1)),x2.2))) ((F4 p1.before.In (Stay.mk x1.1 x2.1 p1.before.Tick 0)).bind fun v3=>(cond v3.2 ((D6 p1.before.In v3.1).bind fun v4=>some v4) ((B3d p1.m v1 x2.1 p1.before.Tick).bind fun v5=>some (Stay.mk x1.1 x2.1 p1.before.Tick v5))).bind fun y2=>(A8h x2.2 [y2]).bind fun v6=>some (.go ((w64 (x2.1+1)),v6)))) (some (.out x2.2))
instance world_scene_stays_o_l2_le (p1:WorldScene)(x1:(Int× (List Stay)))(v1:Agent)(x2:(Int× (List Stay))):Le (A3n p1 x1 v1 x2) (Z5 p1 x1 v1 x2):=by unfold A3n Z5;repeat' first|infer_instance|with_reducible refine Le.bind (h:= ?_) (hf:=fun _=> ?_)|with_reducible refine Le.cond (h:= ?_) (h':= ?_)|with_reducible refine Le.thenS (h:= ?_) (hf:=fun _=> ?_) (hg:=fun _=> ?_)
def A3o (p1:WorldScene)(x1:(Int× (List Stay))):Option (Stp (Int× (List Stay)) WorldScene):=
  cond (decide (x1.1< (p1.before.Agents.length:Int))) ((D6 p1.before.Agents x1.1).bind fun v1=>(T9 (A3n p1 x1 v1) (0,x1.2)).bind fun y1=>some (.go ((w64 (x1.1+1)),y1))) (some (.out ((WorldScene.mk p1.m p1.before (State.mk p1.after.Tick p1.after.Agents x1.2) p1.acts p1.crashes))))
instance world_scene_stays_o_l1_le (p1:WorldScene)(x1:(Int× (List Stay))):Le (A3o p1 x1) (Z6 p1 x1):=by unfold A3o Z6;repeat' first|infer_instance|with_reducible refine Le.bind (h:= ?_) (hf:=fun _=> ?_)|with_reducible refine Le.cond (h:= ?_) (h':= ?_)|with_reducible refine Le.thenS (h:= ?_) (hf:=fun _=> ?_) (hg:=fun _=> ?_)
def A5w (p1:WorldScene):Option WorldScene:=
  T9 (A3o p1) (0,[])
instance world_scene_stays_o_le (p1:WorldScene):Le (A5w p1) (A1f p1):=by unfold A5w A1f;infer_instance
def C3c (s:State)(i:Nat):Nat→Nat→Option (List (Int×Int))
  |0,_=>some []
  |k+1,j=>(A6u s i).bind fun a=>(A6u s j).bind fun b=>(C3c s i k (j+1)).bind fun l=>some (cond (a&&b) (((i:Int),(j:Int))::l) l)
instance pairsJ_le (s:State)(i:Nat): ∀(k j:Nat),Le (C3c s i k j) (B8f s i k j)
  |0,j=>Le.refl _
  |k+1,j=>by
   rw [B8f,C3c]
   have:=fun j=>pairsJ_le s i k j
   infer_instance
def C3d (s:State)(n:Nat):Nat→Nat→Option (List (Int×Int))
  |0,_=>some []
  |k+1,i=>(C3c s i (n - (i+1)) (i+1)).bind fun a=>(C3d s n k (i+1)).bind fun b=>some (a++b)
instance pairsI_le (s:State)(n:Nat): ∀(k i:Nat),Le (C3d s n k i) (C0g s n k i)
  |0,i=>Le.refl _
  |k+1,i=>by
   rw [C0g,C3d]
   have:=fun i=>pairsI_le s n k i
   infer_instance
def C3e (s:State):Option (List (Int×Int)):=if s.Agents.length≤1000000 then C3d s s.Agents.length s.Agents.length 0 else none
instance pairsC_le (s:State):Le (C3e s) (C20 s):=by unfold C3e C20;infer_instance
def A1v (p1:WorldSpan)(p2:Int):Option WorldSpan:=
  some (WorldSpan.mk (w64 (p1.from_ - p2)) (w64 (p1.to - p2)))
instance world_span_less_le (p1:WorldSpan)(p2:Int):Le (A1v p1 p2) (A09 p1 p2):=by unfold A1v A09;infer_instance
def A7m (p1:Map)(p2:Int):Option Int:=
  (B4a p1 p2).bind fun v1=>cond (!v1) (some 0) ((A84 p1 p2).bind fun v2=>some v2)
instance roads_Length_le (p1:Map)(p2:Int):Le (A7m p1 p2) (A4r p1 p2):=by unfold A7m A4r;infer_instance
def A7n (p1:WorldSpan)(p2:WorldSpan):Option WorldSpan:=
  some (WorldSpan.mk (mm2 true p1.from_ p2.from_) (mm2 false p1.to p2.to))
instance world_span_and_le (p1:WorldSpan)(p2:WorldSpan):Le (A7n p1 p2) (A3w p1 p2):=by unfold A7n A3w;infer_instance
def A5o (p1:WorldSpan):Option Bool:=
  some (decide (p1.from_>p1.to))
instance world_span_empty_le (p1:WorldSpan):Le (A5o p1) (A1r p1):=by unfold A5o A1r;infer_instance
def B1p (p1:Map)(p2:Agent)(v2:(List Int))(x1:((List Span)×Int)):Option (Stp ((List Span)×Int) (List Span)):=
  cond (decide (x1.2< (v2.length:Int))) ((D6 v2 x1.2).bind fun v3=>(D6 p2.Route x1.2).bind fun v4=>(A56 p2).bind fun v5=>(A1v v5 v3).bind fun v6=>(A7m p1 v4).bind fun v7=>(A7n v6 (WorldSpan.mk 0 v7)).bind fun v8=>(A5o v8).bind fun v9=>cond (!v9) ((A8h x1.1 [(Span.mk v4 v8.from_ v8.to)]).bind fun v10=>some (.go (v10,(w64 (x1.2+1))))) (some (.go (x1.1,(w64 (x1.2+1)))))) (some (.out x1.1))
instance world_Body_l1_le (p1:Map)(p2:Agent)(v2:(List Int))(x1:((List Span)×Int)):Le (B1p p1 p2 v2 x1) (A78 p1 p2 v2 x1):=by unfold B1p A78;repeat' first|infer_instance|with_reducible refine Le.bind (h:= ?_) (hf:=fun _=> ?_)|with_reducible refine Le.cond (h:= ?_) (h':= ?_)|with_reducible refine Le.thenS (h:= ?_) (hf:=fun _=> ?_) (hg:=fun _=> ?_)
def B3e (p1:Map)(p2:Agent):Option (List Span):=
  (B0o p2).bind fun v1=>cond (!v1) (some []) ((A7k p1 p2.Route).bind fun v2=>(T9 (B1p p1 p2 v2) ([],0)).bind fun y1=>some y1)
instance world_Body_le (p1:Map)(p2:Agent):Le (B3e p1 p2) (A9u p1 p2):=by unfold B3e A9u;infer_instance
def A57 (p1:Span)(p2:Span):Option Bool:=
  ((cond (p2.Lane_==p1.Lane_) (A7n (WorldSpan.mk p2.From p2.To) (WorldSpan.mk p1.From p1.To)) (some default))).bind fun v1=>((cond (p2.Lane_==p1.Lane_) (A5o v1) (some default))).bind fun v2=>some ((p2.Lane_==p1.Lane_)&& (!v2))
instance world_Touching_1_1_b_le (p1:Span)(p2:Span):Le (A57 p1 p2) (A0t p1 p2):=by unfold A57 A0t;infer_instance
def M9 (p1:(List Span))(p2:Span)(x1:Int):Option (Stp Int (Sum Unit Int)):=
  cond (decide (x1< (p1.length:Int))) ((D6 p1 x1).bind fun v1=>(A57 v1 p2).bind fun v2=>cond v2 (some (.out (.inr x1))) (some (.go (w64 (x1+1))))) (some (.out (.inl ())))
instance slices_IndexFunc_Span_Span_world_Touching_1_1b_l1_le (p1:(List Span))(p2:Span)(x1:Int):Le (M9 p1 p2 x1) (F5 p1 p2 x1):=by unfold M9 F5;infer_instance
def O0 (p1:(List Span))(p2:Span):Option Int:=
  thenS (T9 (M9 p1 p2) 0) (fun _=>some (-1)) (fun r=>some r)
instance slices_IndexFunc_Span_Span_world_Touching_1_1b_le (p1:(List Span))(p2:Span):Le (O0 p1 p2) (G9 p1 p2):=by unfold O0 G9;infer_instance
def N0 (p1:(List Span))(p2:Span):Option Bool:=
  (O0 p1 p2).bind fun v1=>some (decide (v1≥0))
instance slices_ContainsFunc_Span_Span_world_Touching_1_1b_le (p1:(List Span))(p2:Span):Le (N0 p1 p2) (F6 p1 p2):=by unfold N0 F6;infer_instance
def A6i (p1:Span)(p2:(List Span)):Option Bool:=
  (N0 p2 p1).bind fun v1=>some v1
instance world_Touching_1_b_le (p1:Span)(p2:(List Span)):Le (A6i p1 p2) (A25 p1 p2):=by unfold A6i A25;infer_instance
def N7 (p1:(List Span))(p2:(List Span))(x1:Int):Option (Stp Int (Sum Unit Int)):=
  cond (decide (x1< (p1.length:Int))) ((D6 p1 x1).bind fun v1=>(A6i v1 p2).bind fun v2=>cond v2 (some (.out (.inr x1))) (some (.go (w64 (x1+1))))) (some (.out (.inl ())))
instance slices_IndexFunc_Span_Span_world_Touching_1b_l1_le (p1:(List Span))(p2:(List Span))(x1:Int):Le (N7 p1 p2 x1) (G6 p1 p2 x1):=by unfold N7 G6;infer_instance
def P5 (p1:(List Span))(p2:(List Span)):Option Int:=
  thenS (T9 (N7 p1 p2) 0) (fun _=>some (-1)) (fun r=>some r)
instance slices_IndexFunc_Span_Span_world_Touching_1b_le (p1:(List Span))(p2:(List Span)):Le (P5 p1 p2) (I5 p1 p2):=by unfold P5 I5;infer_instance
def N8 (p1:(List Span))(p2:(List Span)):Option Bool:=
  (P5 p1 p2).bind fun v1=>some (decide (v1≥0))
instance slices_ContainsFunc_Span_Span_world_Touching_1b_le (p1:(List Span))(p2:(List Span)):Le (N8 p1 p2) (G7 p1 p2):=by unfold N8 G7;infer_instance
def B0u (p1:Map)(p2:Agent)(p3:Agent):Option Bool:=
  (B3e p1 p3).bind fun v1=>(B3e p1 p2).bind fun v2=>(N8 v2 v1).bind fun v3=>some v3
instance world_Touching_le (p1:Map)(p2:Agent)(p3:Agent):Le (B0u p1 p2 p3) (A64 p1 p2 p3):=by unfold B0u A64;infer_instance
def A2l (p1:WorldScene)(p2:Int)(p3:Int)(p4:Int):Option Bool:=
  (V7 p1 p2 p4).bind fun v1=>((cond v1 (V7 p1 p3 p4) (some default))).bind fun v2=>((cond (v1&&v2) (D6 p1.before.Agents p2) (some default))).bind fun v3=>((cond (v1&&v2) (A8y p1.m v3.Route p4) (some default))).bind fun v4=>((cond (v1&&v2) (D6 p1.before.Agents p3) (some default))).bind fun v5=>((cond (v1&&v2) (A8y p1.m v5.Route p4) (some default))).bind fun v6=>some ((v1&&v2)&& (v4 !=v6))
instance world_scene_clash_b_le (p1:WorldScene)(p2:Int)(p3:Int)(p4:Int):Le (A2l p1 p2 p3 p4) (Z8 p1 p2 p3 p4):=by unfold A2l Z8;repeat' first|infer_instance|with_reducible refine Le.bind (h:= ?_) (hf:=fun _=> ?_)|with_reducible refine Le.cond (h:= ?_) (h':= ?_)|with_reducible refine Le.thenS (h:= ?_) (hf:=fun _=> ?_) (hg:=fun _=> ?_)
def B3f (p1:Map)(v5:WorldScene)(a1:(Int×Int))(x2:Int):Option (Stp Int (Sum Unit (State×Int))):=
  cond (decide (x2< (p1.Zones.length:Int))) ((A2l v5 a1.1 a1.2 x2).bind fun v10=>cond v10 (some (.out (.inr ((State.mk 0 [] []),12)))) (some (.go (w64 (x2+1))))) (some (.out (.inl ())))
instance world_New_l3_le (p1:Map)(v5:WorldScene)(a1:(Int×Int))(x2:Int):Le (B3f p1 v5 a1 x2) (A8l p1 v5 a1 x2):=by unfold B3f A8l;infer_instance
def B3g (p1:Map)(p2:(List Agent))(v5:WorldScene)(x1:Unit)(a1:(Int×Int)):Option (Stp Unit (Sum Unit (State×Int))):=
  (D6 p2 a1.1).bind fun v7=>(D6 p2 a1.2).bind fun v8=>(B0u p1 v7 v8).bind fun v9=>cond v9 (some (.out (.inr ((State.mk 0 [] []),12)))) (thenS (T9 (B3f p1 v5 a1) 0) (fun _=>some (.go ())) (fun r=>some (.out (.inr r))))
instance world_New_l2_le (p1:Map)(p2:(List Agent))(v5:WorldScene)(x1:Unit)(a1:(Int×Int)):Le (B3g p1 p2 v5 x1 a1) (A8m p1 p2 v5 x1 a1):=by unfold B3g A8m;infer_instance
def B3h:Option Unit:=
  some ()
instance world_New_i1_le:Le (B3h) (B19):=by unfold B3h B19;infer_instance
def B7z (p1:Map)(p2:(List Agent)):Option (State×Int):=
  (B35 (State.mk 0 p2 [])).bind fun v1=>(A8x p1 v1).bind fun v2=>cond (v2 !=0) (some ((State.mk 0 [] []),v2)) ((P7 p2).bind fun v3=>cond v3 (some ((State.mk 0 [] []),10)) ((B35 v1).bind fun v4=>(A5w (WorldScene.mk p1 v1 v4 [] [])).bind fun v5=>(B3h).bind fun y1=>thenS ((C3e v5.before).bind fun v6=>loopL (B3g p1 p2 v5) (fun (x1:Unit)=> .inl ()) v6 ()) (fun _=>some (v5.after,0)) (fun r=>some r)))
instance world_New_le (p1:Map)(p2:(List Agent)):Le (B7z p1 p2) (B43 p1 p2):=by unfold B7z B43;repeat' first|infer_instance|with_reducible refine Le.bind (h:= ?_) (hf:=fun _=> ?_)|with_reducible refine Le.cond (h:= ?_) (h':= ?_)|with_reducible refine Le.thenS (h:= ?_) (hf:=fun _=> ?_) (hg:=fun _=> ?_)
def A9b (p1:Int):Option Int:=
  (cond (decide (p1≥4294967296)) (some ((p1.fdiv (2^ (min (32:Int).toNat (IntKind.bits .u64)))),32)) (some (p1,0))).bind fun y1=>(cond (decide (y1.1≥65536)) (some ((y1.1.fdiv (2^ (min (16:Int).toNat (IntKind.bits .u64)))),(w64 (y1.2+16)))) (some (y1.1,y1.2))).bind fun y2=>cond (decide (y2.1≥256)) ((D71 (ByteArray.mk #[0,1,2,2,3,3,3,3,4,4,4,4,4,4,4,4,5,5,5,5,5,5,5,5,5,5,5,5,5,5,5,5,6,6,6,6,6,6,6,6,6,6,6,6,6,6,6,6,6,6,6,6,6,6,6,6,6,6,6,6,6,6,6,6,7,7,7,7,7,7,7,7,7,7,7,7,7,7,7,7,7,7,7,7,7,7,7,7,7,7,7,7,7,7,7,7,7,7,7,7,7,7,7,7,7,7,7,7,7,7,7,7,7,7,7,7,7,7,7,7,7,7,7,7,7,7,7,7,8,8,8,8,8,8,8,8,8,8,8,8,8,8,8,8,8,8,8,8,8,8,8,8,8,8,8,8,8,8,8,8,8,8,8,8,8,8,8,8,8,8,8,8,8,8,8,8,8,8,8,8,8,8,8,8,8,8,8,8,8,8,8,8,8,8,8,8,8,8,8,8,8,8,8,8,8,8,8,8,8,8,8,8,8,8,8,8,8,8,8,8,8,8,8,8,8,8,8,8,8,8,8,8,8,8,8,8,8,8,8,8,8,8,8,8,8,8,8,8,8,8,8,8,8,8,8,8]) (IntKind.wrap .u8 (y2.1.fdiv (2^ (min (8:Int).toNat (IntKind.bits .u64)))))).bind fun v1=>some (w64 ((w64 (y2.2+8))+ (w64 v1)))) ((D71 (ByteArray.mk #[0,1,2,2,3,3,3,3,4,4,4,4,4,4,4,4,5,5,5,5,5,5,5,5,5,5,5,5,5,5,5,5,6,6,6,6,6,6,6,6,6,6,6,6,6,6,6,6,6,6,6,6,6,6,6,6,6,6,6,6,6,6,6,6,7,7,7,7,7,7,7,7,7,7,7,7,7,7,7,7,7,7,7,7,7,7,7,7,7,7,7,7,7,7,7,7,7,7,7,7,7,7,7,7,7,7,7,7,7,7,7,7,7,7,7,7,7,7,7,7,7,7,7,7,7,7,7,7,8,8,8,8,8,8,8,8,8,8,8,8,8,8,8,8,8,8,8,8,8,8,8,8,8,8,8,8,8,8,8,8,8,8,8,8,8,8,8,8,8,8,8,8,8,8,8,8,8,8,8,8,8,8,8,8,8,8,8,8,8,8,8,8,8,8,8,8,8,8,8,8,8,8,8,8,8,8,8,8,8,8,8,8,8,8,8,8,8,8,8,8,8,8,8,8,8,8,8,8,8,8,8,8,8,8,8,8,8,8,8,8,8,8,8,8,8,8,8,8,8,8,8,8,8,8,8,8]) (IntKind.wrap .u8 y2.1)).bind fun v2=>some (w64 (y2.2+ (w64 v2))))
instance math_bits_Len64_le (p1:Int):Le (A9b p1) (A4s p1):=by unfold A9b A4s;repeat' first|infer_instance|with_reducible refine Le.bind (h:= ?_) (hf:=fun _=> ?_)|with_reducible refine Le.cond (h:= ?_) (h':= ?_)|with_reducible refine Le.thenS (h:= ?_) (hf:=fun _=> ?_) (hg:=fun _=> ?_)
def A8d (p1:Int):Option Int:=
  (A9b p1).bind fun v1=>some v1
instance math_bits_Len_le (p1:Int):Le (A8d p1) (A5e p1):=by unfold A8d A5e;infer_instance
def B0v (p1:Int)(p2:Int):Option Bool:=
  (A1u p1).bind fun v1=>((cond v1 (A1u p2) (some default))).bind fun v2=>some ((v1&& (!v2))||(decide (p1<p2)))
instance cmp_Less_int64_le (p1:Int)(p2:Int):Le (B0v p1 p2) (A65 p1 p2):=by unfold B0v A65;infer_instance
def U2 (p2:Int)(x2:(Int× (List Int))):Option (Stp (Int× (List Int)) (List Int)):=
  ((cond (decide (x2.1>p2)) (D6 x2.2 x2.1) (some default))).bind fun v1=>((cond (decide (x2.1>p2)) (D6 x2.2 (w64 (x2.1 - 1))) (some default))).bind fun v2=>((cond (decide (x2.1>p2)) (B0v v1 v2) (some default))).bind fun v3=>cond ((decide (x2.1>p2))&&v3) ((D6 x2.2 (w64 (x2.1 - 1))).bind fun v4=>(D6 x2.2 x2.1).bind fun v5=>(D6 x2.2 x2.1).bind fun v6=>(D6 (B8d x2.2 x2.1 v4) (w64 (x2.1 - 1))).bind fun v7=>some (.go ((w64 (x2.1 - 1)),(B8d (B8d x2.2 x2.1 v4) (w64 (x2.1 - 1)) v5)))) (some (.out x2.2))
instance slices_insertionSortOrdered_int64_a_l2_le (p2:Int)(x2:(Int× (List Int))):Le (U2 p2 x2) (K3 p2 x2):=by unfold U2 K3;repeat' first|infer_instance|with_reducible refine Le.bind (h:= ?_) (hf:=fun _=> ?_)|with_reducible refine Le.cond (h:= ?_) (h':= ?_)|with_reducible refine Le.thenS (h:= ?_) (hf:=fun _=> ?_) (hg:=fun _=> ?_)
def U3 (p2:Int)(p3:Int)(x1:(Int× (List Int))):Option (Stp (Int× (List Int)) (List Int)):=
  cond (decide (x1.1<p3)) ((T9 (U2 p2) (x1.1,x1.2)).bind fun y1=>some (.go ((w64 (x1.1+1)),y1))) (some (.out (x1.2)))
instance slices_insertionSortOrdered_int64_a_l1_le (p2:Int)(p3:Int)(x1:(Int× (List Int))):Le (U3 p2 p3 x1) (K4 p2 p3 x1):=by unfold U3 K4;infer_instance
def W3 (p1:(List Int))(p2:Int)(p3:Int):Option (List Int):=
  T9 (U3 p2 p3) ((w64 (p2+1)),p1)
instance slices_insertionSortOrdered_int64_a_le (p1:(List Int))(p2:Int)(p3:Int):Le (W3 p1 p2 p3) (M5 p1 p2 p3):=by unfold W3 M5;infer_instance
def Y7 (p1:(List Int))(x1:(Int×Int×Int×Bool×Bool)):Option (Stp (Int×Int×Int×Bool×Bool) (List Int)):=
  cond (decide ((w64 (x1.2.1 - x1.1))≤12)) ((W3 p1 x1.1 x1.2.1).bind fun v1=>some (.out (v1))) (cond (x1.2.2.1==0) (none) ((cond (!x1.2.2.2.1) (none) (some ())).bind fun _=>none))
instance slices_pdqsortOrdered_int64_a_l1_le (p1:(List Int))(x1:(Int×Int×Int×Bool×Bool)):Le (Y7 p1 x1) (O3 p1 x1):=by unfold Y7 O3;infer_instance
def A0c (p1:(List Int))(p2:Int)(p3:Int)(p4:Int):Option (List Int):=
  T9 (Y7 p1) (p2,p3,p4,true,true)
instance slices_pdqsortOrdered_int64_a_le (p1:(List Int))(p2:Int)(p3:Int)(p4:Int):Le (A0c p1 p2 p3 p4) (R3 p1 p2 p3 p4):=by unfold A0c R3;infer_instance
def A1p (p1:(List Int)):Option (List Int):=
  (A8d (IntKind.wrap .u64 (p1.length:Int))).bind fun v1=>(A0c p1 0 (p1.length:Int) v1).bind fun v2=>some v2
instance slices_Sort_int64_int64_a_le (p1:(List Int)):Le (A1p p1) (W1 p1):=by unfold A1p W1;infer_instance
def U4 (p1:Int)(x2:Int):Option (Stp Int Unit):=
  ((cond (decide (x2>p1)) ((none:Option Unit)) (some default))).bind fun v1=>cond ((decide (x2>p1))&&false) (none) (some (.out ()))
instance slices_insertionSortOrdered_int64_n_l2_le (p1:Int)(x2:Int):Le (U4 p1 x2) (K5 p1 x2):=by unfold U4 K5;infer_instance
def U5 (p1:Int)(p2:Int)(x1:Int):Option (Stp Int Unit):=
  cond (decide (x1<p2)) ((T9 (U4 p1) x1).bind fun _=>some (.go (w64 (x1+1)))) (some (.out (())))
instance slices_insertionSortOrdered_int64_n_l1_le (p1:Int)(p2:Int)(x1:Int):Le (U5 p1 p2 x1) (K6 p1 p2 x1):=by unfold U5 K6;infer_instance
def W4 (p1:Int)(p2:Int):Option Unit:=
  T9 (U5 p1 p2) (w64 (p1+1))
instance slices_insertionSortOrdered_int64_n_le (p1:Int)(p2:Int):Le (W4 p1 p2) (M6 p1 p2):=by unfold W4 M6;infer_instance
def Y8 (x1:(Int×Int×Int×Bool×Bool)):Option (Stp (Int×Int×Int×Bool×Bool) Unit):=
  cond (decide ((w64 (x1.2.1 - x1.1))≤12)) ((W4 x1.1 x1.2.1).bind fun v1=>some (.out (()))) (cond (x1.2.2.1==0) (none) ((cond (!x1.2.2.2.1) (none) (some ())).bind fun _=>none))
instance slices_pdqsortOrdered_int64_n_l1_le (x1:(Int×Int×Int×Bool×Bool)):Le (Y8 x1) (O4 x1):=by unfold Y8 O4;infer_instance
def A0d (p1:Int)(p2:Int)(p3:Int):Option Unit:=
  T9 (Y8) (p1,p2,p3,true,true)
instance slices_pdqsortOrdered_int64_n_le (p1:Int)(p2:Int)(p3:Int):Le (A0d p1 p2 p3) (R4 p1 p2 p3):=by unfold A0d R4;infer_instance
def A1q:Option Unit:=
  (A8d (IntKind.wrap .u64 0)).bind fun v1=>(A0d 0 0 v1).bind fun v2=>some ()
instance slices_Sort_int64_int64_n_le:Le (A1q) (W2):=by unfold A1q W2;infer_instance
def B3i (p1:Map)(p2:Int)(p3:Int)(v1:Zone)(x2:((List Int)×Int)):Option (Stp ((List Int)×Int) (List Int)):=
  cond (decide (x2.2< (v1.Parts.length:Int))) ((D6 v1.Parts x2.2).bind fun v2=>((cond (v2.Lane_==p2) (D6 p1.Signals (w64 (v1.Signal_ - 1))) (some default))).bind fun v3=>((cond (v2.Lane_==p2) (B1d v3 p2 p3) (some default))).bind fun v4=>cond ((v2.Lane_==p2)&& (!v4)) ((A8h x2.1 [v2.From]).bind fun v5=>some (.go (v5,(w64 (x2.2+1))))) (some (.go (x2.1,(w64 (x2.2+1)))))) (some (.out x2.1))
instance signs_Red_l2_le (p1:Map)(p2:Int)(p3:Int)(v1:Zone)(x2:((List Int)×Int)):Le (B3i p1 p2 p3 v1 x2) (A8n p1 p2 p3 v1 x2):=by unfold B3i A8n;repeat' first|infer_instance|with_reducible refine Le.bind (h:= ?_) (hf:=fun _=> ?_)|with_reducible refine Le.cond (h:= ?_) (h':= ?_)|with_reducible refine Le.thenS (h:= ?_) (hf:=fun _=> ?_) (hg:=fun _=> ?_)
def B3j (p1:Map)(p2:Int)(p3:Int)(x1:((List Int)×Int)):Option (Stp ((List Int)×Int) (List Int)):=
  cond (decide (x1.2< (p1.Zones.length:Int))) ((D6 p1.Zones x1.2).bind fun v1=>cond (v1.Signal_==0) (some (.go (x1.1,(w64 (x1.2+1))))) ((T9 (B3i p1 p2 p3 v1) (x1.1,0)).bind fun y2=>some (.go (y2,(w64 (x1.2+1)))))) (some (.out x1.1))
instance signs_Red_l1_le (p1:Map)(p2:Int)(p3:Int)(x1:((List Int)×Int)):Le (B3j p1 p2 p3 x1) (A8o p1 p2 p3 x1):=by unfold B3j A8o;infer_instance
def B80 (p1:Map)(p2:Int)(p3:Int):Option (List Int):=
  (T9 (B3j p1 p2 p3) ([],0)).bind fun y1=>cond (List.isEmpty y1) ((A1q).bind fun v8=>some []) ((A1p y1).bind fun v6=>(B95 v6).bind fun v7=>some v7)
instance signs_Red_le (p1:Map)(p2:Int)(p3:Int):Le (B80 p1 p2 p3) (B44 p1 p2 p3):=by unfold B80 B44;infer_instance
def B81 (p1:Map)(p2:Int)(p3:Int):Option (List Int):=
  ((cond (!(decide (p3<0))) (B4a p1 p2) (some default))).bind fun v1=>cond ((decide (p3<0))||(!v1)) (some []) ((B80 p1 p2 p3).bind fun v2=>some v2)
instance roads_Red_le (p1:Map)(p2:Int)(p3:Int):Le (B81 p1 p2 p3) (B45 p1 p2 p3):=by unfold B81 B45;infer_instance
def A5p (p1:Int)(p2:Agent)(p3:Int):Option Int:=
  some (mm2 true 0 (mm2 false (w64 (p2.V+p1)) p3))
instance world_move_1_b_b_le (p1:Int)(p2:Agent)(p3:Int):Le (A5p p1 p2 p3) (A1s p1 p2 p3):=by unfold A5p A1s;infer_instance
def B0w (p1:Int)(p2:Int):Option Int:=
  cond ((decide (p1<1))||(decide (p2<1))) (some 0) ((D7q .i64 (w64 ((mm2 false p1 1000000) - 1)) (mm2 false p2 1000000)).bind fun v1=>some (w64 ((w64 (v1* (mm2 false p1 1000000))) - (w64 ((mm2 false p2 1000000)* (w64 ((w64 (v1* (w64 (v1+1)))).tdiv 2)))))))
instance world_Stop_le (p1:Int)(p2:Int):Le (B0w p1 p2) (A81 p1 p2):=by unfold B0w A81;infer_instance
def A46 (p1:Int)(p2:Int)(p3:Int)(p4:Int)(p5:Int):Option Bool:=
  ((cond (decide (p1>p2)) (B0w p3 p4) (some default))).bind fun v1=>((cond ((decide (p1>p2))&& (decide ((w64 (p2+v1))<p1))) (B0w p5 p4) (some default))).bind fun v2=>some (((decide (p1>p2))&& (decide ((w64 (p2+v1))<p1)))&& (decide ((w64 ((w64 (p2+p5))+v2))≥p1)))
instance world_keeps_1_b_b_b_b_le (p1:Int)(p2:Int)(p3:Int)(p4:Int)(p5:Int):Le (A46 p1 p2 p3 p4 p5) (A0a p1 p2 p3 p4 p5):=by unfold A46 A0a;infer_instance
def N1 (p1:(List Int))(p2:Int)(p3:Int)(p4:Int)(p5:Int)(x1:Int):Option (Stp Int (Sum Unit Int)):=
  cond (decide (x1< (p1.length:Int))) ((D6 p1 x1).bind fun v1=>(A46 v1 p2 p3 p4 p5).bind fun v2=>cond v2 (some (.out (.inr x1))) (some (.go (w64 (x1+1))))) (some (.out (.inl ())))
instance slices_IndexFunc_int64_int64_world_keeps_1bbbb_l1_le (p1:(List Int))(p2:Int)(p3:Int)(p4:Int)(p5:Int)(x1:Int):Le (N1 p1 p2 p3 p4 p5 x1) (F7 p1 p2 p3 p4 p5 x1):=by unfold N1 F7;infer_instance
def O1 (p1:(List Int))(p2:Int)(p3:Int)(p4:Int)(p5:Int):Option Int:=
  thenS (T9 (N1 p1 p2 p3 p4 p5) 0) (fun _=>some (-1)) (fun r=>some r)
instance slices_IndexFunc_int64_int64_world_keeps_1bbbb_le (p1:(List Int))(p2:Int)(p3:Int)(p4:Int)(p5:Int):Le (O1 p1 p2 p3 p4 p5) (H4 p1 p2 p3 p4 p5):=by unfold O1 H4;infer_instance
def N2 (p1:(List Int))(p2:Int)(p3:Int)(p4:Int)(p5:Int):Option Bool:=
  (O1 p1 p2 p3 p4 p5).bind fun v1=>some (decide (v1≥0))
instance slices_ContainsFunc_int64_int64_world_keeps_1bbbb_le (p1:(List Int))(p2:Int)(p3:Int)(p4:Int)(p5:Int):Le (N2 p1 p2 p3 p4 p5) (F8 p1 p2 p3 p4 p5):=by unfold N2 F8;infer_instance
def B4c (p1:(List Int))(p2:Int)(p3:Int)(p4:Int)(p5:Int):Option Bool:=
  (N2 p1 p2 p3 p5 p4).bind fun v1=>some (!v1)
instance world_keeps_le (p1:(List Int))(p2:Int)(p3:Int)(p4:Int)(p5:Int):Le (B4c p1 p2 p3 p4 p5) (B0e p1 p2 p3 p4 p5):=by unfold B4c B0e;infer_instance
def B1q (p2:Agent)(v1:(Int×Int))(v3:(Int×Int×Int))(v5:(List Int))(x1:Int):Option (Stp Int Int):=
  ((cond (decide (x1>(w64 (0 - v3.2.2)))) (A5p x1 p2 v3.1) (some default))).bind fun v6=>((cond (decide (x1>(w64 (0 - v3.2.2)))) (B4c v5 v1.2 p2.V v6 v3.2.2) (some default))).bind fun v7=>cond ((decide (x1>(w64 (0 - v3.2.2))))&& (!v7)) (some (.go (w64 (x1 - 1)))) (some (.out x1))
instance world_move_l1_le (p2:Agent)(v1:(Int×Int))(v3:(Int×Int×Int))(v5:(List Int))(x1:Int):Le (B1q p2 v1 v3 v5 x1) (A79 p2 v1 v3 v5 x1):=by unfold B1q A79;repeat' first|infer_instance|with_reducible refine Le.bind (h:= ?_) (hf:=fun _=> ?_)|with_reducible refine Le.cond (h:= ?_) (h':= ?_)|with_reducible refine Le.thenS (h:= ?_) (hf:=fun _=> ?_) (hg:=fun _=> ?_)
def B5y (p1:Map)(p2:Agent)(p3:Int)(p4:Int):Option Agent:=
  (B3a p1 p2).bind fun v1=>(D6 p1.Lanes v1.1).bind fun v2=>(A5l v2.Kind).bind fun v3=>((cond p2.Obey (A7m p1 v1.1) (some default))).bind fun v4=>(cond (p2.Obey&& (decide (v1.2≤v4))) ((B81 p1 v1.1 p3).bind fun v5=>(T9 (B1q p2 v1 v3 v5) (mm2 true (w64 (0 - v3.2.2)) (mm2 false p4 v3.2.1))).bind fun y2=>some y2) (some (mm2 true (w64 (0 - v3.2.2)) (mm2 false p4 v3.2.1)))).bind fun y1=>(A5p y1 p2 v3.1).bind fun v8=>(B3b p1 (Agent.mk p2.Route (w64 (p2.S+v8)) v8 p2.Len p2.Begin p2.Obey p2.Gone)).bind fun v9=>some (Agent.mk p2.Route (w64 (p2.S+v8)) v8 p2.Len p2.Begin p2.Obey v9)
instance world_move_le (p1:Map)(p2:Agent)(p3:Int)(p4:Int):Le (B5y p1 p2 p3 p4) (B2h p1 p2 p3 p4):=by unfold B5y B2h;repeat' first|infer_instance|with_reducible refine Le.bind (h:= ?_) (hf:=fun _=> ?_)|with_reducible refine Le.cond (h:= ?_) (h':= ?_)|with_reducible refine Le.thenS (h:= ?_) (hf:=fun _=> ?_) (hg:=fun _=> ?_)
def B5z (p1:Map)(p2:State)(p3:Int)(p4:Int):Option Agent:=
  cond ((decide (p3<0))||(decide (p3≥(p2.Agents.length:Int)))) (some (Agent.mk [] 0 0 0 0 false false)) ((D6 p2.Agents p3).bind fun v1=>(A50 v1).bind fun v2=>(A6u p2 p3).bind fun v3=>((cond (!(!v3)) (A8x p1 p2) (some default))).bind fun v4=>cond ((!v3)||(v4 !=0)) (some v2) ((B5y p1 v2 p2.Tick p4).bind fun v5=>some v5))
instance world_Move_le (p1:Map)(p2:State)(p3:Int)(p4:Int):Le (B5z p1 p2 p3 p4) (B2i p1 p2 p3 p4):=by unfold B5z B2i;repeat' first|infer_instance|with_reducible refine Le.bind (h:= ?_) (hf:=fun _=> ?_)|with_reducible refine Le.cond (h:= ?_) (h':= ?_)|with_reducible refine Le.thenS (h:= ?_) (hf:=fun _=> ?_) (hg:=fun _=> ?_)
def A86 (p1:State)(x1:(Int×State)):Option (Stp (Int×State) State):=
  cond (decide (x1.1< (p1.Agents.length:Int))) ((D6 p1.Agents x1.1).bind fun v2=>(A50 v2).bind fun v3=>(A8h x1.2.Agents [v3]).bind fun v4=>some (.go ((w64 (x1.1+1)),(State.mk x1.2.Tick v4 x1.2.In)))) (some (.out x1.2))
instance world_Copy_me_l1_le (p1:State)(x1:(Int×State)):Le (A86 p1 x1) (A3r p1 x1):=by unfold A86 A3r;infer_instance
def B1r (p1:State):Option State:=
  (A0x p1.In).bind fun v1=>(T9 (A86 p1) (0,(State.mk p1.Tick [] v1))).bind fun y1=>some y1
instance world_Copy_me_le (p1:State):Le (B1r p1) (A7a p1):=by unfold B1r A7a;infer_instance
def A2m (p1:WorldScene)(p2:Int)(p3:Int):Option (Int×Bool):=
  (D6 p1.before.Agents p2).bind fun v1=>(A28 v1.Route p3).bind fun v2=>cond (decide (v2<0)) (some (0,false)) ((A7k p1.m v1.Route).bind fun v3=>(D6 v3 v2).bind fun v4=>some (v4,true))
instance world_scene_start_b_le (p1:WorldScene)(p2:Int)(p3:Int):Le (A2m p1 p2 p3) (Z9 p1 p2 p3):=by unfold A2m Z9;infer_instance
def A3p (p1:WorldScene)(p2:Int)(p3:Int):Option Stay:=
  (F4 p1.after.In (Stay.mk p2 p3 0 0)).bind fun v1=>(D6 p1.after.In v1.1).bind fun v2=>some v2
instance world_scene_stay_b_le (p1:WorldScene)(p2:Int)(p3:Int):Le (A3p p1 p2 p3) (A0k p1 p2 p3):=by unfold A3p A0k;infer_instance
def B0x (p1:Map)(p2:State)(p3:(List Int))(v2:State)(y2:(List Agent))(y5:(List Stay))(a1:(Int×Int))(x6:(Int× (List Crash))):Option (Stp (Int× (List Crash)) (List Crash)):=
  cond (decide (x6.1< (p1.Zones.length:Int))) ((A2l (WorldScene.mk p1 p2 (State.mk v2.Tick y2 y5) p3 x6.2) a1.1 a1.2 x6.1).bind fun v28=>cond (!v28) (some (.go ((w64 (x6.1+1)),x6.2))) ((A3p (WorldScene.mk p1 p2 (State.mk v2.Tick y2 y5) p3 x6.2) a1.1 x6.1).bind fun v29=>(A3p (WorldScene.mk p1 p2 (State.mk v2.Tick y2 y5) p3 x6.2) a1.2 x6.1).bind fun v30=>(A1t v29.Rank v30.Rank).bind fun v31=>(A4g v30.Since v29.Since).bind fun v32=>(B0l [v31,v32]).bind fun v33=>(cond (v33==(-1)) (some [a1.1]) (cond (v33==1) (some [a1.2]) (some [a1.1,a1.2]))).bind fun y17=>(A8h x6.2 [(Crash.mk p2.Tick a1.1 a1.2 (-1) x6.1 y17)]).bind fun v34=>some (.go ((w64 (x6.1+1)),v34)))) (some (.out x6.2))
instance world_Step_l12_le (p1:Map)(p2:State)(p3:(List Int))(v2:State)(y2:(List Agent))(y5:(List Stay))(a1:(Int×Int))(x6:(Int× (List Crash))):Le (B0x p1 p2 p3 v2 y2 y5 a1 x6) (A66 p1 p2 p3 v2 y2 y5 a1 x6):=by unfold B0x A66;repeat' first|infer_instance|with_reducible refine Le.bind (h:= ?_) (hf:=fun _=> ?_)|with_reducible refine Le.cond (h:= ?_) (h':= ?_)|with_reducible refine Le.thenS (h:= ?_) (hf:=fun _=> ?_) (hg:=fun _=> ?_)
def B0y (p1:Map)(p2:State)(p3:(List Int))(v2:State)(y2:(List Agent))(y5:(List Stay))(a1:(Int×Int))(y12:(List Crash)):Option (List Crash):=
  (T9 (B0x p1 p2 p3 v2 y2 y5 a1) (0,y12)).bind fun y16=>some y16
instance world_Step_i11_le (p1:Map)(p2:State)(p3:(List Int))(v2:State)(y2:(List Agent))(y5:(List Stay))(a1:(Int×Int))(y12:(List Crash)):Le (B0y p1 p2 p3 v2 y2 y5 a1 y12) (A8b p1 p2 p3 v2 y2 y5 a1 y12):=by unfold B0y A8b;infer_instance
def B0z (p1:Map)(p2:State)(p3:(List Int))(v2:State)(y2:(List Agent))(y5:(List Stay))(x4:(List Crash))(a1:(Int×Int))(x5:Int):Option (Stp Int (Sum Unit (List Crash))):=
  cond (decide (x5< (p1.Lanes.length:Int))) ((A2m (WorldScene.mk p1 p2 (State.mk v2.Tick y2 y5) p3 x4) a1.1 x5).bind fun v13=>(A2m (WorldScene.mk p1 p2 (State.mk v2.Tick y2 y5) p3 x4) a1.2 x5).bind fun v14=>cond ((!v13.2)||(!v14.2)) (some (.go (w64 (x5+1)))) ((D6 p2.Agents a1.1).bind fun v15=>(D6 p2.Agents a1.2).bind fun v16=>(cond (decide ((w64 (v15.S - v13.1))< (w64 (v16.S - v14.1)))) (some (v14.1,v13.1,a1.2,a1.1)) (some (v13.1,v14.1,a1.1,a1.2))).bind fun y14=>(D6 y2 y14.2.2.1).bind fun v17=>(A56 v17).bind fun v18=>(A1v v18 y14.1).bind fun v19=>(D6 y2 y14.2.2.2).bind fun v20=>(A56 v20).bind fun v21=>(A1v v21 y14.2.1).bind fun v22=>(D6 p2.Agents y14.2.2.2).bind fun v23=>(A56 v23).bind fun v24=>(A1v v24 y14.2.1).bind fun v25=>(A7m p1 x5).bind fun v26=>cond (((((decide (v19.to≥0))&& (decide (v22.to≥0)))&& (decide (v25.from_≤v26)))&& (decide (v19.from_≤v26)))&& (decide (v22.to≥v19.from_))) ((A8h x4 [(Crash.mk p2.Tick a1.1 a1.2 x5 (-1) [y14.2.2.2])]).bind fun v27=>some (.out (.inr v27))) (some (.go (w64 (x5+1)))))) (some (.out (.inl ())))
instance world_Step_l10_le (p1:Map)(p2:State)(p3:(List Int))(v2:State)(y2:(List Agent))(y5:(List Stay))(x4:(List Crash))(a1:(Int×Int))(x5:Int):Le (B0z p1 p2 p3 v2 y2 y5 x4 a1 x5) (A67 p1 p2 p3 v2 y2 y5 x4 a1 x5):=by unfold B0z A67;repeat' first|infer_instance|with_reducible refine Le.bind (h:= ?_) (hf:=fun _=> ?_)|with_reducible refine Le.cond (h:= ?_) (h':= ?_)|with_reducible refine Le.thenS (h:= ?_) (hf:=fun _=> ?_) (hg:=fun _=> ?_)
def B1s (p1:Map)(p2:State)(p3:(List Int))(v2:State)(y2:(List Agent))(y5:(List Stay))(x4:(List Crash))(a1:(Int×Int)):Option (List Crash):=
  thenS (T9 (B0z p1 p2 p3 v2 y2 y5 x4 a1) 0) (fun _=>some x4) (fun r=>some r)
instance world_Step_i9_le (p1:Map)(p2:State)(p3:(List Int))(v2:State)(y2:(List Agent))(y5:(List Stay))(x4:(List Crash))(a1:(Int×Int)):Le (B1s p1 p2 p3 v2 y2 y5 x4 a1) (A9l p1 p2 p3 v2 y2 y5 x4 a1):=by unfold B1s A9l;infer_instance
def B1t (p1:Map)(p2:State)(p3:(List Int))(v2:State)(y2:(List Agent))(y5:(List Stay))(x4:(List Crash))(a1:(Int×Int)):Option (Stp (List Crash) (List Crash)):=
  (B1s p1 p2 p3 v2 y2 y5 x4 a1).bind fun y12=>(B0y p1 p2 p3 v2 y2 y5 a1 y12).bind fun y15=>some (.go y15)
instance world_Step_l8_le (p1:Map)(p2:State)(p3:(List Int))(v2:State)(y2:(List Agent))(y5:(List Stay))(x4:(List Crash))(a1:(Int×Int)):Le (B1t p1 p2 p3 v2 y2 y5 x4 a1) (A7b p1 p2 p3 v2 y2 y5 x4 a1):=by unfold B1t A7b;infer_instance
def B1u:Option Unit:=
  some ()
instance world_Step_i7_le:Le (B1u) (A9m):=by unfold B1u A9m;infer_instance
def B1v (p1:Map)(p2:State)(p3:(List Int))(v2:State)(y2:(List Agent))(y5:(List Stay)):Option (List Crash):=
  (B1u).bind fun y10=>((C3e p2).bind fun v12=>loopL (B1t p1 p2 p3 v2 y2 y5) (fun (x4:(List Crash))=>x4) v12 []).bind fun y11=>some y11
instance world_Step_i6_le (p1:Map)(p2:State)(p3:(List Int))(v2:State)(y2:(List Agent))(y5:(List Stay)):Le (B1v p1 p2 p3 v2 y2 y5) (A9n p1 p2 p3 v2 y2 y5):=by unfold B1v A9n;infer_instance
def B1w (p1:Map)(p2:State)(p3:(List Int))(v2:State)(y2:(List Agent))(x2:(Int× (List Stay)))(v6:Agent)(x3:(Int× (List Stay))):Option (Stp (Int× (List Stay)) (List Stay)):=
  cond (decide (x3.1< (p1.Zones.length:Int))) ((V7 (WorldScene.mk p1 p2 (State.mk v2.Tick y2 x3.2) p3 []) x2.1 x3.1).bind fun v7=>cond (!v7) (some (.go ((w64 (x3.1+1)),x3.2))) ((F4 p2.In (Stay.mk x2.1 x3.1 p2.Tick 0)).bind fun v8=>(cond v8.2 ((D6 p2.In v8.1).bind fun v9=>some v9) ((B3d p1 v6 x3.1 p2.Tick).bind fun v10=>some (Stay.mk x2.1 x3.1 p2.Tick v10))).bind fun y8=>(A8h x3.2 [y8]).bind fun v11=>some (.go ((w64 (x3.1+1)),v11)))) (some (.out x3.2))
instance world_Step_l5_le (p1:Map)(p2:State)(p3:(List Int))(v2:State)(y2:(List Agent))(x2:(Int× (List Stay)))(v6:Agent)(x3:(Int× (List Stay))):Le (B1w p1 p2 p3 v2 y2 x2 v6 x3) (A7c p1 p2 p3 v2 y2 x2 v6 x3):=by unfold B1w A7c;repeat' first|infer_instance|with_reducible refine Le.bind (h:= ?_) (hf:=fun _=> ?_)|with_reducible refine Le.cond (h:= ?_) (h':= ?_)|with_reducible refine Le.thenS (h:= ?_) (hf:=fun _=> ?_) (hg:=fun _=> ?_)
def B1x (p1:Map)(p2:State)(p3:(List Int))(v2:State)(y2:(List Agent))(x2:(Int× (List Stay))):Option (Stp (Int× (List Stay)) (List Stay)):=
  cond (decide (x2.1< (p2.Agents.length:Int))) ((D6 p2.Agents x2.1).bind fun v6=>(T9 (B1w p1 p2 p3 v2 y2 x2 v6) (0,x2.2)).bind fun y7=>some (.go ((w64 (x2.1+1)),y7))) (some (.out x2.2))
instance world_Step_l4_le (p1:Map)(p2:State)(p3:(List Int))(v2:State)(y2:(List Agent))(x2:(Int× (List Stay))):Le (B1x p1 p2 p3 v2 y2 x2) (A7d p1 p2 p3 v2 y2 x2):=by unfold B1x A7d;infer_instance
def B1y (p1:Map)(p2:State)(p3:(List Int))(v2:State)(y2:(List Agent)):Option (List Stay):=
  (T9 (B1x p1 p2 p3 v2 y2) (0,[])).bind fun y6=>some y6
instance world_Step_i3_le (p1:Map)(p2:State)(p3:(List Int))(v2:State)(y2:(List Agent)):Le (B1y p1 p2 p3 v2 y2) (A9o p1 p2 p3 v2 y2):=by unfold B1y A9o;infer_instance
def B1z (p1:Map)(p2:State)(p3:(List Int))(x1:(Int× (List Agent))):Option (Stp (Int× (List Agent)) (List Agent)):=
  cond (decide (x1.1< (p2.Agents.length:Int))) ((cond (decide (x1.1< (p3.length:Int))) ((D6 p3 x1.1).bind fun v3=>some v3) (some 0)).bind fun y4=>(B5z p1 p2 x1.1 y4).bind fun v4=>(D6 x1.2 x1.1).bind fun v5=>some (.go ((w64 (x1.1+1)),(B8d x1.2 x1.1 v4)))) (some (.out x1.2))
instance world_Step_l2_le (p1:Map)(p2:State)(p3:(List Int))(x1:(Int× (List Agent))):Le (B1z p1 p2 p3 x1) (A7e p1 p2 p3 x1):=by unfold B1z A7e;repeat' first|infer_instance|with_reducible refine Le.bind (h:= ?_) (hf:=fun _=> ?_)|with_reducible refine Le.cond (h:= ?_) (h':= ?_)|with_reducible refine Le.thenS (h:= ?_) (hf:=fun _=> ?_) (hg:=fun _=> ?_)
def B20 (p1:Map)(p2:State)(p3:(List Int))(v2:State):Option (List Agent):=
  (T9 (B1z p1 p2 p3) (0,v2.Agents)).bind fun y3=>some y3
instance world_Step_i1_le (p1:Map)(p2:State)(p3:(List Int))(v2:State):Le (B20 p1 p2 p3 v2) (A9p p1 p2 p3 v2):=by unfold B20 A9p;infer_instance
def B60 (p1:Map)(p2:State)(p3:(List Int)):Option (State× (List Crash)×Int):=
  (A8x p1 p2).bind fun v1=>cond (v1 !=0) (some ((State.mk 0 [] []),[],v1)) (cond (decide (p2.Tick≥1099511627776)) (some ((State.mk 0 [] []),[],2)) ((B1r p2).bind fun v2=>((B20 p1 p2 p3 v2).bind fun y2=>(B1y p1 p2 p3 v2 y2).bind fun y5=>(B1v p1 p2 p3 v2 y2 y5).bind fun y9=>some (y2,y5,y9)).bind fun y1=>some ((State.mk (w64 (v2.Tick+1)) y1.1 y1.2.1),y1.2.2,0)))
instance world_Step_le (p1:Map)(p2:State)(p3:(List Int)):Le (B60 p1 p2 p3) (B2j p1 p2 p3):=by unfold B60 B2j;repeat' first|infer_instance|with_reducible refine Le.bind (h:= ?_) (hf:=fun _=> ?_)|with_reducible refine Le.cond (h:= ?_) (h':= ?_)|with_reducible refine Le.thenS (h:= ?_) (hf:=fun _=> ?_) (hg:=fun _=> ?_)
def B8h:Option Bool:=
  (B7y).bind fun v1=>(B1b 0 10000 1000).bind fun v2=>(B1b 1 46000 1000).bind fun v3=>(B7z v1 [v2,v3]).bind fun v4=>cond (((v4.2 !=0)||((v4.1.In.length:Int) !=0))||((v4.1.Agents.length:Int) !=2)) (some false) ((B60 v1 v4.1 [50,(-90)]).bind fun v5=>((cond (((v5.2.2==0)&& ((v5.2.1.length:Int)==0))&& ((v5.1.Agents.length:Int)==2)) (D6 v5.1.Agents 0) (some default))).bind fun v6=>((cond ((((v5.2.2==0)&& ((v5.2.1.length:Int)==0))&& ((v5.1.Agents.length:Int)==2))&& (v6.S==11030)) (D6 v5.1.Agents 1) (some default))).bind fun v7=>((cond (((((v5.2.2==0)&& ((v5.2.1.length:Int)==0))&& ((v5.1.Agents.length:Int)==2))&& (v6.S==11030))&& (v7.V==910)) (B0w 100 30) (some default))).bind fun v8=>some ((((((v5.2.2==0)&& ((v5.2.1.length:Int)==0))&& ((v5.1.Agents.length:Int)==2))&& (v6.S==11030))&& (v7.V==910))&& (v8==120)))
instance law04_awake_le:Le (B8h) (A6e):=by unfold B8h A6e;repeat' first|infer_instance|with_reducible refine Le.bind (h:= ?_) (hf:=fun _=> ?_)|with_reducible refine Le.cond (h:= ?_) (h':= ?_)|with_reducible refine Le.thenS (h:= ?_) (hf:=fun _=> ?_) (hg:=fun _=> ?_)
end Go.Abs.World
namespace Go.Abs.World
open Go Go.Abs
theorem A58 (n:Int): ∃y,A5b n=some (y,y*y==n)∧0≤y∧y≤67108864∧(∀m,0≤m→m<y→m*m<n)∧(y=67108864∨n≤y*y):=by
  have key:=C7a (f:=A3b n) (fun x=>0≤x.1∧x.1≤x.2∧x.2≤67108864∧(∀m,0≤m→m<x.1→m*m<n)∧(x.2=67108864∨n≤x.2*x.2)) (fun x=>(x.2 - x.1).toNat)
    (fun y=>0≤y∧y≤67108864∧(∀m,0≤m→m<y→m*m<n)∧(y=67108864∨n≤y*y)) (by
      rintro ⟨lo,hi⟩ ⟨h1,h2,h3,h4,h5⟩
      dsimp only at h1 h2 h3 h4 h5
      unfold A3b
      dsimp only
      by_cases hlt:lo<hi
      ·have e1:w64 (lo+hi)=lo+hi:=R8 (by omega)
       have e2:w64 ((lo+hi).tdiv 2)=(lo+hi) / 2:=by rw [Int.tdiv_eq_ediv_of_nonneg (by omega)];exact R8 (by omega)
       have hm:lo≤(lo+hi) / 2∧(lo+hi) / 2<hi:=by omega
       generalize hmid:(lo+hi) / 2=mid at*
       have hmm:mid*mid≤67108864*67108864:=D3c (by omega) (by omega)
       have hmm0:=B2b mid
       have e3:w64 (mid*mid)=mid*mid:=R8 (by omega)
       have e4:w64 (mid+1)=mid+1:=R8 (by omega)
       simp only [e1,e2,e3,e4,hlt,decide_true,cond_true]
       by_cases hc:mid*mid<n
       ·simp only [hc,decide_true,cond_true]
        refine ⟨_,rfl,⟨by omega,by omega,h3,fun m hm0 hm1=> ?_,h5⟩,by dsimp only;omega⟩
        rcases Int.lt_or_le m mid with q|q
        ·have:=Int.mul_le_mul (show m≤mid by omega) (show m≤mid by omega) hm0 (by omega);omega
        ·have:m=mid:=by dsimp only at hm1;omega
         subst this;exact hc
       ·simp only [hc,decide_false,cond_false]
        exact ⟨_,rfl,⟨h1,by dsimp only;omega,by dsimp only;omega,h4, .inr (by dsimp only;omega)⟩,by dsimp only;omega⟩
      ·simp only [hlt,decide_false,cond_false]
       obtain rfl:lo=hi:=by omega
       exact ⟨_,rfl,h1,h3,h4,h5⟩) (0,67108864) ⟨by decide,by decide,by decide,fun m h1 h2=>by dsimp only at h2;omega, .inl rfl⟩
  obtain ⟨y,hy,h1,h2,h3,h4⟩:=key
  refine ⟨y,?_,h1,h2,h3,h4⟩
  have hmm:y*y≤67108864*67108864:=D3c (by omega) (by omega)
  have hmm0:=B2b y
  unfold A5b
  rw [hy,Option.bind_some,R8 (by omega)]
/-- The least number whose square is not less. -/
noncomputable def rt (n:Int):Int:=(A58 n).choose
theorem B76 (n:Int):A5b n=some (rt n,rt n*rt n==n):=(A58 n).choose_spec.1
theorem C0m (n:Int):0≤rt n:=(A58 n).choose_spec.2.1
theorem D88 (n m:Int)(h1:0≤m)(h2:m<rt n):m*m<n:=(A58 n).choose_spec.2.2.2.1 m h1 h2
theorem D89 (n:Int):rt n=67108864∨n≤rt n*rt n:=(A58 n).choose_spec.2.2.2.2
theorem D6i {l:Int}(h0:0≤l)(h1:l≤67108864):rt (l*l)=l:=by
  rcases Int.lt_trichotomy (rt (l*l)) l with q|q|q
  ·rcases D89 (l*l)with h|h
   ·omega
   ·have h2:=C0m (l*l)
    have:=Int.mul_lt_mul' (show rt (l*l)≤l by omega) q h2 (by omega);omega
  ·exact q
  ·have:=D88 (l*l) l h0 q;omega
theorem C0n (n:Int)(h0:0≤n)(h1:n<18014398509481984): ∃r,A6r n=some r∧0≤r∧r<134217728∧r*r≤n∧n< (r+1)* (r+1):=by
  have key:=C7a (f:=A7f n) (fun x=>0≤x.1∧x.1*x.1≤n∧((∃k:Nat,k≤26∧x.2=2^k∧x.1+2*2^k≤134217728∧n< (x.1+2*2^k)* (x.1+2*2^k))∨(x.2=0∧x.1<134217728∧n< (x.1+1)* (x.1+1)))) (fun x=>x.2.toNat)
    (fun r=>0≤r∧r<134217728∧r*r≤n∧n< (r+1)* (r+1)) (by
      rintro ⟨r,bit⟩ ⟨q1,q2,q3⟩
      dsimp only at q1 q2 q3
      unfold A7f
      dsimp only
      rcases q3 with ⟨k,hk,rfl,q4,q5⟩|⟨rfl,q4,q5⟩
      ·have hp:(0:Int)<2^k:=Int.pow_pos (by decide)
       generalize hb:(2:Int)^k=b at*
       have e1:w64 (r+b)=r+b:=R8 (by omega)
       have hmm:(r+b)* (r+b)≤134217728*134217728:=D3c (by omega) (by omega)
       have hmm0:=B2b (r+b)
       have e2:w64 ((r+b)* (r+b))=(r+b)* (r+b):=R8 (by omega)
       have e3:w64 (b.tdiv 2)=b / 2:=by rw [Int.tdiv_eq_ediv_of_nonneg (by omega)];exact R8 (by omega)
       have hb0:b>0:=by omega
       simp only [e1,e2,e3,hb0,decide_true,cond_true]
       have hnext: ∀r',0≤r'→r'*r'≤n→r'+b≤134217728→n< (r'+b)* (r'+b)→(∃j:Nat,j≤26∧b / 2=2^j∧r'+2*2^j≤134217728∧n< (r'+2*2^j)* (r'+2*2^j))∨(b / 2=0∧r'<134217728∧n< (r'+1)* (r'+1)):=by
         intro r' a1 a2 a3 a4
         cases k with
         |zero=>
          have:b=1:=by rw [← hb];rfl
          subst this
          exact .inr ⟨by decide,by omega,a4⟩
         |succ j=>
          have hj:b=2*2^j:=by rw [← hb,Int.pow_succ];omega
          refine .inl ⟨j,by omega,by omega,by omega,by rw [← hj];exact a4⟩
       by_cases hc:(r+b)* (r+b)≤n
       ·simp only [hc,decide_true,cond_true]
        refine ⟨_,rfl,⟨by dsimp only;omega,hc,hnext (r+b) (by omega) hc (by omega) (by rw [show r+b+b=r+2*b by omega];exact q5)⟩,by dsimp only;omega⟩
       ·simp only [hc,decide_false,cond_false]
        exact ⟨_,rfl,⟨q1,q2,hnext r q1 q2 (by omega) (by omega)⟩,by dsimp only;omega⟩
      ·simp only [show ¬(0:Int)>0 by decide,decide_false,cond_false]
       exact ⟨_,rfl,q1,q4,q2,q5⟩) (0,67108864) ⟨by decide,by dsimp only;omega, .inl ⟨26,by decide,by decide,by decide,by dsimp only;omega⟩⟩
  obtain ⟨r,hr,a⟩:=key
  exact ⟨r,by unfold A6r;rw [hr];rfl,a⟩
theorem C3f {n:Int}(h0:0≤n)(h1:n≤4503599627370496): ∃r,A6r n=some r∧0≤r∧r<134217728∧(r*r=n↔rt n*rt n=n)∧(r*r=n→r=rt n):=by
  obtain ⟨r,hr,a1,a2,a3,a4⟩:=C0n n h0 (by omega)
  have hr26:r≤67108864:=by
    rcases Int.lt_or_le r 67108865 with q|q
    ·omega
    ·have:=Int.mul_le_mul q q (by decide) (by omega);omega
  refine ⟨r,hr,a1,a2,⟨fun h=> ?_,fun h=> ?_⟩,fun h=> ?_⟩
  ·rw [← h,D6i a1 hr26]
  ·rcases Int.lt_trichotomy r (rt n)with q|q|q
   ·have:=Int.mul_le_mul (show r+1≤rt n by omega) (show r+1≤rt n by omega) (by omega) (C0m n);omega
   ·rw [q];exact h
   ·have h2:=C0m n
    have:=Int.mul_lt_mul' (show rt n≤r by omega) q h2 (by omega);omega
  ·rw [← h,D6i a1 hr26]
end Go.Abs.World
namespace Go.Abs.World
open Go Go.Abs
def okS (p:Spot):Bool:=decide (-16777216≤p.X)&&decide (p.X≤16777216)&&decide (-16777216≤p.Y)&&decide (p.Y≤16777216)
theorem okS_iff {p:Spot}:okS p=true↔ -16777216≤p.X∧p.X≤16777216∧ -16777216≤p.Y∧p.Y≤16777216:=by simp [okS,and_assoc]
theorem D19 (p:Spot):((decide ((mm2 false p.X p.Y)< (-16777216)))||(decide ((mm2 true p.X p.Y)>16777216)))= !okS p:=by
  rw [D66,D65]
  cases h:okS p with
  |true=>have:=okS_iff.1 h;simp;omega
  |false=>
   have: ¬(-16777216≤p.X∧p.X≤16777216∧ -16777216≤p.Y∧p.Y≤16777216):=fun q=>by rw [okS_iff.2 q]at h;cases h
   simp;omega
theorem C3g (l:List Spot)(hl:l.length≤1000000): ∀(r:List Spot) (i:Nat),l.drop i=r→loop (A0v l) (i:Int)=some (if r.all okS then .inl ()else .inr false):=by
  intro r
  induction r with
  |nil=>
   intro i hi
   have:=A0g hi
   refine J7 ?_
   unfold A0v
   simp only [show ¬(i:Int)<l.length by omega,decide_false,cond_false,List.all_nil,if_true]
  |cons p r ih=>
   intro i hi
   have hlt:=A04 hi
   have hstep:A0v l (i:Int)=if okS p then some (.go ((i+1:Nat):Int))else some (.out (.inr false)):=by
     unfold A0v
     simp only [show (i:Int)<l.length by omega,decide_true,cond_true,A1z hi,Option.bind_some,D19]
     cases h:okS p with
     |true=>simp only [Bool.not_true,cond_false,if_true];rw [R8 (by omega)];rfl
     |false=>simp
   cases h:okS p with
   |true=>
    rw [h,if_pos rfl]at hstep
    rw [Y4 hstep,ih (i+1) (R2 hi)]
    simp [h]
   |false=>
    rw [h]at hstep
    rw [J7 hstep]
    simp [h]
theorem C3h (l:List Spot)(hl:l.length≤1000000):A7y l=some (l.all okS):=by
  unfold A7y
  have:=C3g l hl l 0 (by simp)
  rw [show ((0:Nat):Int)=0 from rfl]at this
  rw [this]
  cases l.all okS<;>rfl
theorem C1k (p:Spot):B0f p=some (okS p):=by
  unfold B0f okS;rfl
def vec (p q:Spot):CurveVector:=⟨q.X - p.X,q.Y - p.Y⟩
def Z4 (v w:CurveVector):Int:=v.x*w.x+v.y*w.y
/-- A vector between valid spots. -/
def okV (v:CurveVector):Prop:= -33554432≤v.x∧v.x≤33554432∧ -33554432≤v.y∧v.y≤33554432
theorem C0o {p q:Spot}(hp:okS p=true)(hq:okS q=true):okV (vec p q):=by
  have:=okS_iff.1 hp;have:=okS_iff.1 hq
  unfold okV vec;dsimp only;omega
theorem B77 {p q:Spot}(hp:okS p=true)(hq:okS q=true):A6o p q=some (vec p q):=by
  have:=okS_iff.1 hp;have:=okS_iff.1 hq
  unfold A6o vec
  rw [R8 (by omega),R8 (by omega)]
theorem D1a {v w:CurveVector}(hv:okV v)(hw:okV w): -2251799813685248≤Z4 v w∧Z4 v w≤2251799813685248∧(-1125899906842624≤v.x*w.x∧v.x*w.x≤1125899906842624)∧ -1125899906842624≤v.y*w.y∧v.y*w.y≤1125899906842624:=by
  obtain ⟨a1,a2,a3,a4⟩:=hv
  obtain ⟨b1,b2,b3,b4⟩:=hw
  have h1:=D4m ⟨a1,a2⟩ ⟨b1,b2⟩
  have h2:=D4m ⟨a3,a4⟩ ⟨b3,b4⟩
  unfold Z4
  omega
theorem B4d {v w:CurveVector}(hv:okV v)(hw:okV w):W7 v w=some (Z4 v w):=by
  have h:=D1a hv hw
  unfold W7
  rw [R8 (n:=v.x*w.x) (by omega),R8 (n:=v.y*w.y) (by omega),R8 (by unfold Z4 at h;omega)]
  rfl
theorem C8x (v:CurveVector):0≤Z4 v v:=by have:=B2b v.x;have:=B2b v.y;unfold Z4;omega
def vs (v:CurveVector):Spot:=⟨v.x,v.y⟩
theorem B21 {p q:Spot}(hp:okS p=true)(hq:okS q=true):A6f q p=some (vs (vec p q)):=by
  have:=okS_iff.1 hp;have:=okS_iff.1 hq
  unfold A6f vec vs
  rw [R8 (by omega),R8 (by omega)]
theorem B4e {v w:CurveVector}(hv:okV v)(hw:okV w):A8q (vs v) (vs w)=some (Z4 v w):=by
  have h:=D1a hv hw
  unfold A8q vs
  dsimp only
  rw [R8 (n:=v.x*w.x) (by omega),R8 (n:=v.y*w.y) (by omega),R8 (by unfold Z4 at h;omega)]
  rfl
/-- The error of a chain of points, from a piece on; the piece ahead of it. -/
noncomputable def goM:Option CurveVector→List Spot→Int
  |last,p::q::r=>
   if rt (Z4 (vec p q) (vec p q))*rt (Z4 (vec p q) (vec p q))≠Z4 (vec p q) (vec p q)then 3
   else if rt (Z4 (vec p q) (vec p q))<1000∨rt (Z4 (vec p q) (vec p q))>1048576 then 2
   else match last with
     |some u=>if Z4 u (vec p q)≤0 then 12 else goM (some (vec p q)) (q::r)
     |none=>goM (some (vec p q)) (q::r)
  |_,_=>0
theorem B96 (last:Option CurveVector)(p q:Spot)(r:List Spot):goM last (p::q::r)=
    if rt (Z4 (vec p q) (vec p q))*rt (Z4 (vec p q) (vec p q))≠Z4 (vec p q) (vec p q)then 3
    else if rt (Z4 (vec p q) (vec p q))<1000∨rt (Z4 (vec p q) (vec p q))>1048576 then 2
    else match last with
      |some u=>if Z4 u (vec p q)≤0 then 12 else goM (some (vec p q)) (q::r)
      |none=>goM (some (vec p q)) (q::r):=by
  conv=>lhs;unfold goM
noncomputable def A3t (l:List Spot):Int:=if l.length<2 then 6 else if l.length>16 then 5 else if l.all okS then goM none l else 2
theorem C1l (c:Curve)(hl:c.Pts.length≤1000000)(hok:c.Pts.all okS=true): ∀(r:List Spot) (p:Spot) (i:Nat) (last:CurveVector),c.Pts.drop i=p::r→okV last→
    loop (A02 c) ((i:Int),last)=some (if goM (if i=0 then none else some last) (p::r)=0 then .inl ()else .inr (goM (if i=0 then none else some last) (p::r))):=by
  intro r
  induction r with
  |nil=>
   intro p i last hi hlast
   have hlt:=A04 hi
   have:=A0g (R2 hi)
   refine J7 ?_
   unfold A02
   dsimp only
   rw [R8 (n:=(c.Pts.length:Int) - 1) (by omega)]
   simp only [show ¬(i:Int)< (c.Pts.length:Int) - 1 by omega,decide_false,cond_false,goM,if_true]
  |cons q r ih=>
   intro p i last hi hlast
   have hlt:=A04 hi
   have hi1:=R2 hi
   have hlt1:=A04 hi1
   have hp:okS p=true:=List.all_eq_true.1 hok p (List.mem_of_mem_drop (i:=i) (by rw [hi];simp))
   have hq:okS q=true:=List.all_eq_true.1 hok q (List.mem_of_mem_drop (i:=i) (by rw [hi];simp))
   have hv:=C0o hp hq
   have hg1:D6 c.Pts ((i:Int)+1)=some q:=by have:=A1z hi1;simpa using this
   have hstep:A02 c ((i:Int),last)=
    if rt (Z4 (vec p q) (vec p q))*rt (Z4 (vec p q) (vec p q))≠Z4 (vec p q) (vec p q)then some (.out (.inr 3))
    else if rt (Z4 (vec p q) (vec p q))<1000∨rt (Z4 (vec p q) (vec p q))>1048576 then some (.out (.inr 2))
    else if i≠0∧Z4 last (vec p q)≤0 then some (.out (.inr 12))else some (.go (((i+1:Nat):Int),vec p q)):=by
     unfold A02
     dsimp only
     rw [R8 (n:=(c.Pts.length:Int) - 1) (by omega),R8 (n:=(i:Int)+1) (by omega)]
     simp only [show (i:Int)< (c.Pts.length:Int) - 1 by omega,decide_true,cond_true,A1z hi,hg1,Option.bind_some,B77 hp hq,B4d hv hv,B76]
     by_cases h1:rt (Z4 (vec p q) (vec p q))*rt (Z4 (vec p q) (vec p q))=Z4 (vec p q) (vec p q)
     ·simp only [h1,beq_self_eq_true,Bool.not_true,cond_false,ne_eq,not_true_eq_false,if_false]
      by_cases h2:rt (Z4 (vec p q) (vec p q))<1000∨rt (Z4 (vec p q) (vec p q))>1048576
      ·rw [if_pos h2]
       have:(decide (rt (Z4 (vec p q) (vec p q))<1000)||decide (rt (Z4 (vec p q) (vec p q))>1048576))=true:=by simpa using h2
       rw [this];rfl
      ·rw [if_neg h2]
       have:(decide (rt (Z4 (vec p q) (vec p q))<1000)||decide (rt (Z4 (vec p q) (vec p q))>1048576))=false:=by simpa using h2
       rw [this]
       simp only [cond_false]
       by_cases h3:i=0
       ·subst h3
        simp only [Int.natCast_zero,gt_iff_lt,Int.lt_irrefl,decide_false,cond_false,Bool.false_and,Option.bind_some,not_true_eq_false,false_and,if_false]
        rfl
       ·have h4:(i:Int)>0:=by omega
        simp only [h4,decide_true,cond_true,B4d hlast hv,Option.bind_some,Bool.true_and,h3,not_false_eq_true,true_and]
        by_cases h5:Z4 last (vec p q)≤0<;>simp [h5]
     ·have:(rt (Z4 (vec p q) (vec p q))*rt (Z4 (vec p q) (vec p q))==Z4 (vec p q) (vec p q))=false:=by simpa using h1
      simp only [this,Bool.not_false,cond_true,ne_eq,h1,not_false_eq_true,if_true]
   rw [B96]
   by_cases h1:rt (Z4 (vec p q) (vec p q))*rt (Z4 (vec p q) (vec p q))≠Z4 (vec p q) (vec p q)
   ·rw [if_pos h1]at hstep
    rw [J7 hstep,if_pos h1];rfl
   ·rw [if_neg h1]at hstep ⊢
    by_cases h2:rt (Z4 (vec p q) (vec p q))<1000∨rt (Z4 (vec p q) (vec p q))>1048576
    ·rw [if_pos h2]at hstep
     rw [J7 hstep,if_pos h2];rfl
    ·rw [if_neg h2]at hstep ⊢
     by_cases h3:i=0
     ·subst h3
      rw [if_neg (by simp)]at hstep
      rw [Y4 hstep,ih q (0+1) (vec p q) hi1 hv]
      simp
     ·by_cases h5:Z4 last (vec p q)≤0
      ·rw [if_pos ⟨h3,h5⟩]at hstep
       rw [J7 hstep]
       simp [h3,h5]
      ·rw [if_neg (fun h=>h5 h.2)]at hstep
       rw [Y4 hstep,ih q (i+1) (vec p q) hi1 hv]
       simp [h3,h5]
theorem B5d (c:Curve)(hl:c.Pts.length≤1000000):A4j c=some (A3t c.Pts):=by
  unfold A4j A3t
  by_cases h1:c.Pts.length<2
  ·rw [if_pos h1,show decide ((c.Pts.length:Int)<2)=true by simp;omega];rfl
  ·rw [if_neg h1,show decide ((c.Pts.length:Int)<2)=false by simp;omega]
   simp only [cond_false]
   by_cases h2:c.Pts.length>16
   ·rw [if_pos h2,show decide ((c.Pts.length:Int)>16)=true by simp;omega];rfl
   ·rw [if_neg h2,show decide ((c.Pts.length:Int)>16)=false by simp;omega]
    simp only [cond_false,C3h c.Pts hl,Option.bind_some]
    cases h3:c.Pts.all okS with
    |false=>rfl
    |true=>
     simp only [Bool.not_true,cond_false,if_true]
     cases hp:c.Pts with
     |nil=>rw [hp]at h1;simp at h1
     |cons p r=>
      have:=C1l c hl h3 r p 0 ⟨0,0⟩ (by rw [hp];rfl) ⟨by decide,by decide,by decide,by decide⟩
      rw [if_pos rfl,show ((0:Nat):Int)=0 from rfl]at this
      rw [this]
      by_cases h4:goM none (p::r)=0
      ·rw [if_pos h4,h4];rfl
      ·rw [if_neg h4];rfl
end Go.Abs.World
namespace Go.Abs.World
open Go Go.Abs
theorem D1b (v w:CurveVector):Z4 v w=Z4 w v:=by unfold Z4;rw [Int.mul_comm v.x,Int.mul_comm v.y]
theorem C0p (c:Curve)(hl:c.Pts.length≤1000000): ∀(r:List Spot) (i:Nat),c.Pts.drop i=r→loop (A2h c) (i:Int)=some (if r.all okS then .inl ()else .inr 2):=by
  intro r
  induction r with
  |nil=>
   intro i hi
   have:=A0g hi
   refine J7 ?_
   unfold A2h
   simp only [show ¬(i:Int)<c.Pts.length by omega,decide_false,cond_false,List.all_nil,if_true]
  |cons p r ih=>
   intro i hi
   have hlt:=A04 hi
   have hstep:A2h c (i:Int)=if okS p then some (.go ((i+1:Nat):Int))else some (.out (.inr 2)):=by
     unfold A2h
     simp only [show (i:Int)<c.Pts.length by omega,decide_true,cond_true,A1z hi,Option.bind_some,C1k]
     cases h:okS p with
     |true=>simp only [Bool.not_true,cond_false,if_true];rw [R8 (by omega)];rfl
     |false=>simp
   cases h:okS p with
   |true=>
    rw [h,if_pos rfl]at hstep
    rw [Y4 hstep,ih (i+1) (R2 hi)]
    simp [h]
   |false=>
    rw [h]at hstep
    rw [J7 hstep]
    simp [h]
theorem D4s {v:CurveVector}(hv:okV v): ∃l,A6r (Z4 v v)=some l∧(w64 (l*l) !=Z4 v v)= !(rt (Z4 v v)*rt (Z4 v v)==Z4 v v)∧(rt (Z4 v v)*rt (Z4 v v)=Z4 v v→l=rt (Z4 v v)):=by
  have hb:=D1a hv hv
  obtain ⟨l,h1,h2,h3,h4,h5⟩:=C3f (C8x v) (by omega)
  have hmm:l*l≤134217728*134217728:=D3c (by omega) (by omega)
  have hmm0:=B2b l
  refine ⟨l,h1,?_,fun h=>h5 (h4.2 h)⟩
  rw [R8 (by omega)]
  by_cases h:l*l=Z4 v v
  ·simp [h,h4.1 h]
  ·have h': ¬rt (Z4 v v)*rt (Z4 v v)=Z4 v v:=fun q=>h (h4.2 q)
   have e1:(l*l !=Z4 v v)=true:=bne_iff_ne.2 h
   have e2:(rt (Z4 v v)*rt (Z4 v v)==Z4 v v)=false:=beq_eq_false_iff_ne.2 h'
   rw [e1,e2];rfl
theorem C0q (c:Curve)(hl:c.Pts.length≤1000000)(hok:c.Pts.all okS=true): ∀(r:List Spot) (p:Spot) (i:Nat) (last:Option CurveVector),c.Pts.drop i=p::r→
    (i=0∧last=none∨∃j a,i=j+1∧c.Pts.drop j=a::p::r∧last=some (vec a p))→
    loop (A2g c) (i:Int)=some (if goM last (p::r)=0 then .inl ()else .inr (goM last (p::r))):=by
  intro r
  induction r with
  |nil=>
   intro p i last hi hlast
   have hlt:=A04 hi
   have:=A0g (R2 hi)
   refine J7 ?_
   unfold A2g
   rw [R8 (n:=(i:Int)+1) (by omega)]
   simp only [show ¬(i:Int)+1< (c.Pts.length:Int) by omega,decide_false,cond_false,goM,if_true]
  |cons q r ih=>
   intro p i last hi hlast
   have hlt:=A04 hi
   have hi1:=R2 hi
   have hlt1:=A04 hi1
   have hp:okS p=true:=List.all_eq_true.1 hok p (List.mem_of_mem_drop (i:=i) (by rw [hi];simp))
   have hq:okS q=true:=List.all_eq_true.1 hok q (List.mem_of_mem_drop (i:=i) (by rw [hi];simp))
   have hv:=C0o hp hq
   have hg1:D6 c.Pts ((i:Int)+1)=some q:=by have:=A1z hi1;simpa using this
   obtain ⟨l,hl1,hl2,hl3⟩:=D4s hv
   have hstep:A2g c (i:Int)=
    if rt (Z4 (vec p q) (vec p q))*rt (Z4 (vec p q) (vec p q))≠Z4 (vec p q) (vec p q)then some (.out (.inr 3))
    else if rt (Z4 (vec p q) (vec p q))<1000∨rt (Z4 (vec p q) (vec p q))>1048576 then some (.out (.inr 2))
    else match last with
      |some u=>if Z4 u (vec p q)≤0 then some (.out (.inr 12))else some (.go ((i+1:Nat):Int))
      |none=>some (.go ((i+1:Nat):Int)):=by
     unfold A2g
     rw [R8 (n:=(i:Int)+1) (by omega)]
     simp only [show (i:Int)+1< (c.Pts.length:Int) by omega,decide_true,cond_true,A1z hi,hg1,Option.bind_some,B21 hp hq,B4e hv hv,hl1,hl2]
     by_cases h1:rt (Z4 (vec p q) (vec p q))*rt (Z4 (vec p q) (vec p q))=Z4 (vec p q) (vec p q)
     ·simp only [h1,beq_self_eq_true,Bool.not_true,cond_false,ne_eq,not_true_eq_false,if_false,hl3 h1]
      by_cases h2:rt (Z4 (vec p q) (vec p q))<1000∨rt (Z4 (vec p q) (vec p q))>1048576
      ·rw [if_pos h2]
       have:(decide (rt (Z4 (vec p q) (vec p q))<1000)||decide (rt (Z4 (vec p q) (vec p q))>1048576))=true:=by simpa using h2
       rw [this];rfl
      ·rw [if_neg h2]
       have:(decide (rt (Z4 (vec p q) (vec p q))<1000)||decide (rt (Z4 (vec p q) (vec p q))>1048576))=false:=by simpa using h2
       rw [this]
       simp only [cond_false]
       rcases hlast with ⟨rfl,rfl⟩|⟨j,a,rfl,hj,rfl⟩
       ·simp only [Int.natCast_zero,gt_iff_lt,Int.lt_irrefl,decide_false,cond_false,Bool.false_and,Option.bind_some]
        rfl
       ·have h4:(((j+1:Nat):Int))>0:=by omega
        have ha:okS a=true:=List.all_eq_true.1 hok a (List.mem_of_mem_drop (i:=j) (by rw [hj];simp))
        have hva:=C0o ha hp
        have hgj:D6 c.Pts (w64 (((j+1:Nat):Int) - 1))=some a:=by
          rw [R8 (by omega),show (((j+1:Nat):Int) - 1)=(j:Int) by omega]
          exact A1z hj
        simp only [h4,decide_true,cond_true,hgj,Option.bind_some,B21 ha hp,B4e hv hva,Bool.true_and]
        rw [D1b (vec p q) (vec a p)]
        by_cases h5:Z4 (vec a p) (vec p q)≤0
        ·simp [h5]
        ·simp [h5]
     ·have:(rt (Z4 (vec p q) (vec p q))*rt (Z4 (vec p q) (vec p q))==Z4 (vec p q) (vec p q))=false:=by simpa using h1
      simp only [this,Bool.not_false,cond_true,ne_eq,h1,not_false_eq_true,if_true]
   rw [B96]
   have hrec:=ih q (i+1) (some (vec p q)) hi1 (.inr ⟨i,p,rfl,hi,rfl⟩)
   by_cases h1:rt (Z4 (vec p q) (vec p q))*rt (Z4 (vec p q) (vec p q))≠Z4 (vec p q) (vec p q)
   ·rw [if_pos h1]at hstep
    rw [J7 hstep,if_pos h1];rfl
   ·rw [if_neg h1]at hstep ⊢
    by_cases h2:rt (Z4 (vec p q) (vec p q))<1000∨rt (Z4 (vec p q) (vec p q))>1048576
    ·rw [if_pos h2]at hstep
     rw [J7 hstep,if_pos h2];rfl
    ·rw [if_neg h2]at hstep ⊢
     cases last with
     |none=>rw [Y4 hstep,hrec]
     |some u=>
      dsimp only at hstep ⊢
      by_cases h5:Z4 u (vec p q)≤0
      ·rw [if_pos h5]at hstep
       rw [J7 hstep];simp [h5]
      ·rw [if_neg h5]at hstep
       rw [Y4 hstep,hrec];simp [h5]
theorem B5e (c:Curve)(hl:c.Pts.length≤1000000):A82 c=some (A3t c.Pts):=by
  unfold A82 A3t
  by_cases h1:c.Pts.length<2
  ·rw [if_pos h1,show decide ((c.Pts.length:Int)<2)=true by simp;omega];rfl
  ·rw [if_neg h1,show decide ((c.Pts.length:Int)<2)=false by simp;omega]
   simp only [cond_false]
   by_cases h2:c.Pts.length>16
   ·rw [if_pos h2,show decide ((c.Pts.length:Int)>16)=true by simp;omega];rfl
   ·rw [if_neg h2,show decide ((c.Pts.length:Int)>16)=false by simp;omega]
    have hg:=C0p c hl c.Pts 0 (by simp)
    rw [show ((0:Nat):Int)=0 from rfl]at hg
    simp only [cond_false,hg]
    cases h3:c.Pts.all okS with
    |false=>rfl
    |true=>
     simp only [if_true,thenS]
     cases hp:c.Pts with
     |nil=>rw [hp]at h1;simp at h1
     |cons p r=>
      have:=C0q c hl h3 r p 0 none (by rw [hp];rfl) (.inl ⟨rfl,rfl⟩)
      rw [show ((0:Nat):Int)=0 from rfl]at this
      rw [this]
      by_cases h4:goM none (p::r)=0
      ·rw [if_pos h4,h4]
      ·rw [if_neg h4]
/-- What a valid chain is. -/
inductive Good:Option CurveVector→List Spot→Prop
  |one (last:Option CurveVector) (p:Spot):Good last [p]
  |cons (last:Option CurveVector) (p q:Spot) (r:List Spot) (h1:rt (Z4 (vec p q) (vec p q))*rt (Z4 (vec p q) (vec p q))=Z4 (vec p q) (vec p q)) (h2:1000≤rt (Z4 (vec p q) (vec p q))) (h3:rt (Z4 (vec p q) (vec p q))≤1048576)
     (h4: ∀u,last=some u→0<Z4 u (vec p q)) (h:Good (some (vec p q)) (q::r)):Good last (p::q::r)
theorem C66: ∀(r:List Spot) (p:Spot) (last:Option CurveVector),goM last (p::r)=0→Good last (p::r):=by
  intro r
  induction r with
  |nil=>intro p last _;exact .one _ _
  |cons q r ih=>
   intro p last h
   rw [B96]at h
   split at h
   ·cases h
   ·rename_i h1
    split at h
    ·cases h
    ·rename_i h2
     have h1:rt (Z4 (vec p q) (vec p q))*rt (Z4 (vec p q) (vec p q))=Z4 (vec p q) (vec p q):=by simpa using h1
     cases last with
     |none=>exact .cons _ _ _ _ h1 (by omega) (by omega) (fun u hu=>by cases hu) (ih q _ h)
     |some u=>
      dsimp only at h
      split at h
      ·cases h
      ·exact .cons _ _ _ _ h1 (by omega) (by omega) (fun u' hu=>by cases hu;omega) (ih q _ h)
theorem C67 {last:Option CurveVector}{l:List Spot}(h:Good last l):goM last l=0:=by
  induction h with
  |one=>rfl
  |cons last p q r h1 h2 h3 h4 h ih=>
   rw [B96,if_neg (by simpa using h1),if_neg (by omega)]
   cases last with
   |none=>exact ih
   |some u=>dsimp only;rw [if_neg (by have:=h4 u rfl;omega)];exact ih
structure Valid (l:List Spot):Prop where
  two:2≤l.length
  most:l.length≤16
  ok:l.all okS=true
  good:Good none l
theorem checkM_zero {l:List Spot}:A3t l=0↔Valid l:=by
  unfold A3t
  constructor
  ·intro h
   split at h
   ·cases h
   ·rename_i h1
    split at h
    ·cases h
    ·rename_i h2
     split at h
     ·rename_i h3
      cases l with
      |nil=>simp at h1
      |cons p r=>exact ⟨by omega,by omega,h3,C66 r p none h⟩
     ·cases h
  ·rintro ⟨h1,h2,h3,h4⟩
   rw [if_neg (by omega),if_neg (by omega),if_pos h3]
   exact C67 h4
end Go.Abs.World
namespace Go.Abs.World
open Go Go.Abs
/-- The pieces of a chain: the number, the piece. -/
noncomputable def B61:Nat→Int→List Spot→List (Int×CurvePiece)
  |i,s,p::q::r=>((i:Int),⟨p,vec p q,rt (Z4 (vec p q) (vec p q)),s⟩)::B61 (i+1) (w64 (s+rt (Z4 (vec p q) (vec p q)))) (q::r)
  |_,_,_=> []
theorem B8i (i:Nat)(s:Int)(p q:Spot)(r:List Spot):B61 i s (p::q::r)=((i:Int),⟨p,vec p q,rt (Z4 (vec p q) (vec p q)),s⟩)::B61 (i+1) (w64 (s+rt (Z4 (vec p q) (vec p q)))) (q::r):=by conv=>lhs;unfold B61
theorem C68 (pts:List Spot)(hok:pts.all okS=true): ∀(r:List Spot) (p:Spot) (i:Nat) (s:Int),pts.drop i=p::r→A74 pts r.length i s=some (B61 i s (p::r)):=by
  intro r
  induction r with
  |nil=>intro p i s _;rfl
  |cons q r ih=>
   intro p i s hi
   have hi1:=R2 hi
   have hp:okS p=true:=List.all_eq_true.1 hok p (List.mem_of_mem_drop (i:=i) (by rw [hi];simp))
   have hq:okS q=true:=List.all_eq_true.1 hok q (List.mem_of_mem_drop (i:=i) (by rw [hi];simp))
   have hv:=C0o hp hq
   have h0:pts[i]? =some p:=by have:=congrArg (fun z=>z[0]?) hi;simpa using this
   have h1:pts[i+1]? =some q:=by have:=congrArg (fun z=>z[0]?) hi1;simpa using this
   rw [List.length_cons,A74,h0,h1]
   simp only [Option.bind_some,B77 hp hq,B4d hv hv,B76]
   rw [ih q (i+1) _ hi1,B8i]
   rfl
theorem C8y {pts:List Spot}(h:Valid pts):B5r pts=some (B61 0 0 pts):=by
  unfold B5r
  have:=h.most
  rw [if_pos (by omega)]
  cases hp:pts with
  |nil=>have:=h.two;rw [hp]at this;simp at this
  |cons p r=>exact C68 (p::r) (by rw [← hp];exact h.ok) r p 0 0 rfl
/-- The lengths. -/
noncomputable def C59:List Spot→List Int
  |p::q::r=>rt (Z4 (vec p q) (vec p q))::C59 (q::r)
  |_=> []
theorem B4f (p q:Spot)(r:List Spot):C59 (p::q::r)=rt (Z4 (vec p q) (vec p q))::C59 (q::r):=by conv=>lhs;unfold C59
theorem B3k: ∀(r:List Spot) (p:Spot),(C59 (p::r)).length=r.length
  | [],_=>rfl
  |q::r,p=>by rw [B4f,List.length_cons,B3k r q,List.length_cons]
theorem B8j: ∀(r:List Spot) (p:Spot) (i:Nat) (s:Int),(B61 i s (p::r)).map (·.2.l)=C59 (p::r)
  | [],_,_,_=>rfl
  |q::r,p,i,s=>by rw [B8i,B4f,List.map_cons,B8j r q]
theorem C69: ∀(L:List (Int×CurvePiece)) (out:List Int),out.length+L.length≤1000000000→loopL A07 (fun x=>x) L out=some (out++L.map (·.2.l)):=by
  intro L
  induction L with
  |nil=>intro out _;simp [loopL]
  |cons a L ih=>
   intro out h
   simp only [List.length_cons]at h
   have:A07 out a=some (.go (out++ [a.2.l])):=by
     unfold A07
     rw [B2w (by simp;omega)];rfl
   rw [loopL,this]
   dsimp only
   rw [ih _ (by simp;omega)]
   simp
theorem C0r (c:Curve)(hl:c.Pts.length≤1000000):A4k c=some (if A3t c.Pts=0 then C59 c.Pts else []):=by
  unfold A4k
  rw [B5d c hl,Option.bind_some]
  by_cases h:A3t c.Pts=0
  ·rw [if_pos h,h]
   have hv:=checkM_zero.1 h
   have:=hv.most
   simp only [bne_self_eq_false,cond_false,C8y hv,Option.bind_some]
   cases hp:c.Pts with
   |nil=>have:=hv.two;rw [hp]at this;simp at this
   |cons p r=>
    have e:=B8j r p 0 0
    rw [C69 _ _ (by
     have:=congrArg List.length e
     rw [List.length_map,B3k]at this
     rw [this];rw [hp]at hl;simp at hl ⊢;omega)]
    rw [e];rfl
  ·rw [if_neg h,show (A3t c.Pts !=0)=true from bne_iff_ne.2 h];rfl
theorem B82 (c:Curve)(hl:c.Pts.length≤1000000)(hok:c.Pts.all okS=true): ∀(r:List Spot) (p:Spot) (i:Nat) (out:List Int) (last:Option CurveVector),c.Pts.drop i=p::r→Good last (p::r)→out.length+r.length≤1000000→
    loop (A1g c) (out,(i:Int))=some (out++C59 (p::r)):=by
  intro r
  induction r with
  |nil=>
   intro p i out last hi _ _
   have hlt:=A04 hi
   have:=A0g (R2 hi)
   refine J7 ?_
   unfold A1g
   dsimp only
   rw [R8 (n:=(i:Int)+1) (by omega)]
   simp only [show ¬(i:Int)+1< (c.Pts.length:Int) by omega,decide_false,cond_false,C59,List.append_nil]
  |cons q r ih=>
   intro p i out last hi hg ho
   have hlt:=A04 hi
   have hi1:=R2 hi
   have hlt1:=A04 hi1
   have hp:okS p=true:=List.all_eq_true.1 hok p (List.mem_of_mem_drop (i:=i) (by rw [hi];simp))
   have hq:okS q=true:=List.all_eq_true.1 hok q (List.mem_of_mem_drop (i:=i) (by rw [hi];simp))
   have hv:=C0o hp hq
   have hg1:D6 c.Pts ((i:Int)+1)=some q:=by have:=A1z hi1;simpa using this
   obtain ⟨l,hl1,hl2,hl3⟩:=D4s hv
   cases hg with
   |cons _ _ _ _ h1 h2 h3 h4 hg=>
    have hll:=hl3 h1
    subst hll
    simp only [List.length_cons]at ho
    have hstep:A1g c (out,(i:Int))=some (.go (out++ [rt (Z4 (vec p q) (vec p q))],((i+1:Nat):Int))):=by
      unfold A1g
      dsimp only
      rw [R8 (n:=(i:Int)+1) (by omega)]
      simp only [show (i:Int)+1< (c.Pts.length:Int) by omega,decide_true,cond_true,A1z hi,hg1,Option.bind_some,B21 hp hq,B4e hv hv,hl1]
      rw [B2w (by simp;omega)]
      rfl
    rw [Y4 hstep,ih q (i+1) _ _ hi1 hg (by simp;omega),B4f]
    simp
theorem C0s (c:Curve)(hl:c.Pts.length≤1000000):A8r c=some (if A3t c.Pts=0 then C59 c.Pts else []):=by
  unfold A8r
  rw [B5e c hl,Option.bind_some]
  by_cases h:A3t c.Pts=0
  ·rw [if_pos h,h]
   have hv:=checkM_zero.1 h
   simp only [bne_self_eq_false,cond_false]
   cases hp:c.Pts with
   |nil=>have:=hv.two;rw [hp]at this;simp at this
   |cons p r=>
    have:=B82 c hl hv.ok r p 0 [] none (by rw [hp];rfl) (by rw [← hp];exact hv.good) (by rw [hp]at hl;simp at hl ⊢;omega)
    rw [show ((0:Nat):Int)=0 from rfl]at this
    rw [this];rfl
  ·rw [if_neg h,show (A3t c.Pts !=0)=true from bne_iff_ne.2 h];rfl
/-- A sum, as the programs take it. -/
def C6a:Int→List Int→Int
  |s,[]=>s
  |s,a::l=>C6a (w64 (s+a)) l
theorem B83 (l:List Int)(hl:l.length≤1000000): ∀(r:List Int) (i:Nat) (s:Int),l.drop i=r→loop (V9 l) (s,(i:Int))=some (C6a s r):=by
  intro r
  induction r with
  |nil=>
   intro i s hi
   have:=A0g hi
   refine J7 ?_
   unfold V9
   simp only [show ¬(i:Int)<l.length by omega,decide_false,cond_false,C6a]
  |cons a r ih=>
   intro i s hi
   have hlt:=A04 hi
   have hstep:V9 l (s,(i:Int))=some (.go (w64 (s+a),((i+1:Nat):Int))):=by
     unfold V9
     simp only [show (i:Int)<l.length by omega,decide_true,cond_true,A1z hi,Option.bind_some]
     rw [R8 (n:=(i:Int)+1) (by omega)];rfl
   rw [Y4 hstep,ih (i+1) _ (R2 hi),C6a]
theorem B84 (l:List Int)(hl:l.length≤1000000): ∀(r:List Int) (i:Nat) (s:Int),l.drop i=r→loop (A0b l) (s,(i:Int))=some (C6a s r):=by
  intro r
  induction r with
  |nil=>
   intro i s hi
   have:=A0g hi
   refine J7 ?_
   unfold A0b
   simp only [show ¬(i:Int)<l.length by omega,decide_false,cond_false,C6a]
  |cons a r ih=>
   intro i s hi
   have hlt:=A04 hi
   have hstep:A0b l (s,(i:Int))=some (.go (w64 (s+a),((i+1:Nat):Int))):=by
     unfold A0b
     simp only [show (i:Int)<l.length by omega,decide_true,cond_true,A1z hi,Option.bind_some]
     rw [R8 (n:=(i:Int)+1) (by omega)];rfl
   rw [Y4 hstep,ih (i+1) _ (R2 hi),C6a]
noncomputable def A9c (c:Curve):List Int:=if A3t c.Pts=0 then C59 c.Pts else []
theorem D6j: ∀l:List Spot,(C59 l).length≤l.length
  | []=>by simp [C59]
  |p::r=>by rw [B3k];simp
theorem C22 (c:Curve):(A9c c).length≤c.Pts.length:=by
  unfold A9c
  split
  ·exact D6j _
  ·simp
theorem B4g (c:Curve)(hl:c.Pts.length≤1000000):A4l c=some (C6a 0 (A9c c)):=by
  unfold A4l
  rw [C0r c hl,Option.bind_some]
  have:=C22 c
  have h:=B83 (A9c c) (by omega) (A9c c) 0 0 (by simp)
  rw [show ((0:Nat):Int)=0 from rfl]at h
  show (loop (V9 (A9c c)) (0,0)).bind _=_
  rw [h];rfl
theorem C0t (c:Curve)(hl:c.Pts.length≤1000000):A38 c=some (C6a 0 (A9c c)):=by
  unfold A38
  rw [C0s c hl,Option.bind_some]
  have:=C22 c
  have h:=B84 (A9c c) (by omega) (A9c c) 0 0 (by simp)
  rw [show ((0:Nat):Int)=0 from rfl]at h
  show (loop (A0b (A9c c)) (0,0)).bind _=_
  rw [h];rfl
end Go.Abs.World
namespace Go.Abs.World
open Go Go.Abs
/-- A quarter turn, so many times. -/
def D72:Nat→CurveVector→CurveVector
  |0,v=>v
  |n+1,v=>D72 n ⟨-v.y,v.x⟩
theorem C6b: ∀(n:Nat) (v w:CurveVector),Z4 (D72 n v) (D72 n w)=Z4 v w
  |0,_,_=>rfl
  |n+1,v,w=>by rw [D72,D72,C6b n];unfold Z4;grind
/-- A piece's vector, made of numbers: in one quadrant. -/
def D91 (n:Nat)(v:CurveVector):Prop:= ∃x y L:Int,v=D72 n ⟨x,y⟩∧0<x∧0≤y∧x*x+y*y=L*L∧1000≤L∧L≤3029∧x≤L∧y≤L
inductive Ch (Q:CurveVector→Prop):List Spot→Prop
  |one (p:Spot):Ch Q [p]
  |cons (p q:Spot) (r:List Spot) (h:Q (vec p q)) (hr:Ch Q (q::r)):Ch Q (p::q::r)
theorem C23 {n:Nat}: ∀(r:List Spot) (p:Spot) (last:Option CurveVector),Ch (D91 n) (p::r)→(∀u,last=some u→D91 n u)→Good last (p::r)
  | [],p,last,_,_=> .one _ _
  |q::r,p,last,hc,hl=>by
   cases hc with
   |cons _ _ _ h1 h2=>
    have hq:=h1
    obtain ⟨x,y,L,hv,hx,hy,hsq,hL1,hL2,hxL,hyL⟩:=h1
    have hd:Z4 (vec p q) (vec p q)=L*L:=by rw [hv,C6b];unfold Z4;exact hsq
    have hrt:rt (Z4 (vec p q) (vec p q))=L:=by rw [hd];exact D6i (by omega) (by omega)
    refine .cons _ _ _ _ (by rw [hrt,hd]) (by rw [hrt];exact hL1) (by rw [hrt];omega) (fun u hu=> ?_) (C23 r q _ h2 (fun u hu=>by cases hu;exact hq))
    obtain ⟨x',y',L',hv',hx',hy',_⟩:=hl u hu
    rw [hv,hv',C6b]
    unfold Z4
    have:=Int.mul_pos hx' hx
    have:=Int.mul_nonneg hy' hy
    dsimp only
    omega
/-- What the curves made of numbers are like. -/
structure Made (l:List Spot):Prop where
  two:2≤l.length
  six:l.length≤6
  ch: ∃n,Ch (D91 n) l
  bd: ∀p∈l, -50000≤p.X∧p.X≤50000∧ -50000≤p.Y∧p.Y≤50000
theorem Made.valid {l:List Spot}(h:Made l):Valid l:=by
  obtain ⟨n,hc⟩:=h.ch
  have:=h.two;have:=h.six
  refine ⟨h.two,by omega,List.all_eq_true.2 fun p hp=>okS_iff.2 (by have:=h.bd p hp;omega),?_⟩
  match l,h,hc with
  |p::r,_,hc=>exact C23 r p none hc (fun u hu=>by cases hu)
  | [],h,_=>exact absurd h.two (by simp)
end Go.Abs.World
namespace Go.Abs.World
open Go Go.Abs
/-! ### Loops that look for the first error -/
def K2 {α β:Type}(g:Nat→α→Option β):Nat→List α→Option β
  |_,[]=>none
  |i,a::r=>match g i a with
   |some e=>some e
   |none=>K2 g (i+1) r
def D1c {β:Type}:Option β→Sum Unit β
  |some e=> .inr e
  |none=> .inl ()
theorem Y9 {α β:Type}(l:List α)(F:Int→Option (Stp Int (Sum Unit β)))(g:Nat→α→Option β)(hF: ∀(i:Nat) a,l[i]? =some a→F (i:Int)=some (match g i a with|some e=> .out (.inr e)|none=> .go ((i+1:Nat):Int)))(h0:F (l.length:Int)=some (.out (.inl ()))):
    loop F 0=some (D1c (K2 g 0 l)):=by
  have key: ∀(r:List α) (i:Nat),l.drop i=r→i≤l.length→loop F (i:Int)=some (D1c (K2 g i r)):=by
    intro r
    induction r with
    |nil=>
     intro i hi hil
     have:i=l.length:=by have:=List.drop_eq_nil_iff.1 hi;omega
     subst this
     exact J7 h0
    |cons a r ih=>
     intro i hi hil
     have hlt:i<l.length:=by
       rcases Nat.lt_or_ge i l.length with q|q
       ·exact q
       ·rw [List.drop_eq_nil_of_le q]at hi;cases hi
     have ha:l[i]? =some a:=by have:=congrArg (fun z=>z[0]?) hi;simpa using this
     have hr:l.drop (i+1)=r:=by have:=congrArg (fun z=>z.drop 1) hi;simpa using this
     have hs:=hF i a ha
     unfold K2
     cases hg:g i a with
     |some e=>rw [hg]at hs;exact J7 hs
     |none=>rw [hg]at hs;rw [Y4 hs];exact ih (i+1) hr (by omega)
  have:=key l 0 rfl (by omega)
  exact this
theorem firstE_none {α β:Type}{g:Nat→α→Option β}: ∀{l:List α} {i:Nat},K2 g i l=none↔∀(j:Nat) a,l[j]? =some a→g (i+j) a=none
  | [],i=>by simp [K2]
  |a::r,i=>by
   unfold K2
   cases h:g i a with
   |some e=>
    constructor
    ·intro h';cases h'
    ·intro h';have:=h' 0 a rfl;rw [Nat.add_zero,h]at this;cases this
   |none=>
    dsimp only
    rw [firstE_none (l:=r)]
    constructor
    ·intro h' j b hj
     cases j with
     |zero=>cases hj;exact h
     |succ j=>have:=h' j b hj;rwa [show i+1+j=i+ (j+1) by omega]at this
    ·intro h' j b hj
     have:=h' (j+1) b hj
     rwa [show i+ (j+1)=i+1+j by omega]at this
/-! ### Numbers -/
def inR (n a b:Int):Bool:=decide (a≤n)&&decide (n≤b)
theorem B2q (n a b:Int):A05 n a b=some (inR n a b):=rfl
theorem B2r (n a b:Int):A26 n a b=some (inR n a b):=rfl
def B8q (kind:Int):Int×Int×Int:=if kind=1 then (2000,30,90)else if kind=2 then (1000,20,60)else if kind=3 then (300,100,300)else (0,0,0)
theorem C0u (k:Int):A0y k=some (B8q k):=by
  unfold A0y B8q
  by_cases h:k<0∨k≥4
  ·rw [show ((decide (k<0))||(decide (k≥4)))=true by simpa using h,cond_true,if_neg (by omega),if_neg (by omega),if_neg (by omega)]
  ·rw [show ((decide (k<0))||(decide (k≥4)))=false by rw [Bool.eq_false_iff];simpa using h,cond_false]
   obtain ⟨h1,h2⟩:=not_or.1 h
   rcases (show k=0∨k=1∨k=2∨k=3 by omega)with rfl|rfl|rfl|rfl<;>rfl
theorem B85 (k:Int):A4t k=some (B8q k):=by
  unfold A4t B8q
  by_cases h1:k=1
  ·subst h1;rfl
  ·by_cases h2:k=2
   ·subst h2;rfl
   ·by_cases h3:k=3
    ·subst h3;rfl
    ·rw [if_neg h1,if_neg h2,if_neg h3]
     rw [show (k==1)=false by simpa using h1,show (k==2)=false by simpa using h2,show (k==3)=false by simpa using h3];rfl
end Go.Abs.World
