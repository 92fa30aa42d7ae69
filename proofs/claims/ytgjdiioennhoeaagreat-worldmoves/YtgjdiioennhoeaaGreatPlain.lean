/-
  Plain facts on the functions: what they compute, and that the law holds of it.
-/
import Derived.Test.YtgjdiioennhoeaaGreatFns4
set_option maxRecDepth 100000
set_option linter.unusedVariables false
namespace Go.Abs.World
open Go Go.Abs
def B52 (p4:(List Int))(x1:(Int× (List Spot))):Option (Stp (Int× (List Spot)) (List Spot)):=
  cond (decide ((w64 (x1.1+1))< (p4.length:Int))) ((D4 p4 x1.1).bind fun v1=>(D4 p4 (w64 (x1.1+1))).bind fun v2=>(A7p x1.2 [(Spot.mk v1 v2)]).bind fun v3=>some (.go ((w64 (x1.1+2)),v3))) (some (.out x1.2))
instance kit_road_l1_le (p4:(List Int))(x1:(Int× (List Spot))):Le (B52 p4 x1) (B0x p4 x1):=by unfold B52 B0x;infer_instance
def B8d (p1:Int)(p2:Int)(p3:(List Int))(p4:(List Int)):Option Lane:=
  (U6 (B52 p4) (0,[])).bind fun y1=>cond (p1==3) (some (Lane.mk p1 (Curve.mk y1) 500 p2 p3)) (some (Lane.mk p1 (Curve.mk y1) 1500 p2 p3))
instance kit_road_le (p1:Int)(p2:Int)(p3:(List Int))(p4:(List Int)):Le (B8d p1 p2 p3 p4) (Y8 p1 p2 p3 p4):=by unfold B8d Y8;infer_instance
def B9b:Option Map:=
  (B8d 1 1500 [] [0,0,100000,0]).bind fun v1=>(B8d 1 1500 [] [50000,(-50000),50000,50000]).bind fun v2=>some (Map.mk 0 [v1,v2] [(Zone.mk [(Part.mk 0 48000 52000 1),(Part.mk 1 48000 52000 0)] 0)] [] [])
instance kit_Cross_le:Le (B9b) (B4u):=by unfold B9b B4u;infer_instance
def B2a (p1:Int)(p2:Int)(p3:Int):Option Agent:=
  some (Agent.mk [p1] p2 p3 4000 0 false false)
instance law04_agent_le (p1:Int)(p2:Int)(p3:Int):Le (B2a p1 p2 p3) (A8n p1 p2 p3):=by unfold B2a A8n;infer_instance
def A19 (p1:List Stay):Option (List Stay):=A7p [] p1
instance slices_Clone_Stay_Stay_le (p1:List Stay):Le (A19 p1) (W6 p1):=by unfold A19 W6;infer_instance
def A5k (p1:List Int):Option (List Int):=A7p [] p1
instance slices_Clone_int_int_le (p1:List Int):Le (A5k p1) (A13 p1):=by unfold A5k A13;infer_instance
def A5l (p1:Agent):Option Agent:=
  (A5k p1.Route).bind fun v1=>some (Agent.mk v1 p1.S p1.V p1.Len p1.Begin p1.Obey p1.Gone)
instance world_ownAgent_le (p1:Agent):Le (A5l p1) (A0e p1):=by unfold A5l A0e;infer_instance
def B2k (p1:State)(x1:(Int×State)):Option (Stp (Int×State) State):=
  cond (decide (x1.1< (p1.Agents.length:Int))) ((D4 p1.Agents x1.1).bind fun v2=>(A5l v2).bind fun v3=>(A7p x1.2.Agents [v3]).bind fun v4=>some (.go ((w64 (x1.1+1)),(State.mk x1.2.Tick v4 x1.2.In)))) (some (.out x1.2))
instance world_Copy_l1_le (p1:State)(x1:(Int×State)):Le (B2k p1 x1) (A7u p1 x1):=by unfold B2k A7u;infer_instance
def B41 (p1:State):Option State:=
  (A19 p1.In).bind fun v1=>(U6 (B2k p1) (0,(State.mk p1.Tick [] v1))).bind fun y1=>some y1
instance world_Copy_le (p1:State):Le (B41 p1) (B0h p1):=by unfold B41 B0h;infer_instance
def A2m (p1:Int)(p2:Int)(p3:Int):Option Bool:=
  some ((decide (p2≤p1))&& (decide (p1≤p3)))
instance roads_within_le (p1:Int)(p2:Int)(p3:Int):Le (A2m p1 p2 p3) (A0l p1 p2 p3):=by unfold A2m A0l;infer_instance
def A6g (p1:RoadsCheck):Option Int:=
  (A2m p1.Map_.Version 0 1099511627776).bind fun v1=>cond (!v1) (some 2) (cond ((p1.Map_.Lanes.length:Int)==0) (some 6) (cond ((((decide ((p1.Map_.Lanes.length:Int)>12))||(decide ((p1.Map_.Zones.length:Int)>12)))||(decide ((p1.Map_.Signals.length:Int)>4)))||(decide ((p1.Map_.Works.length:Int)>8))) (some 8) (some 0)))
instance roads_check_numbers_le (p1:RoadsCheck):Le (A6g p1) (U7 p1):=by unfold A6g U7;infer_instance
def A66 (p1:Int):Option (Int×Int×Int):=
  cond ((decide (p1<0))||(decide (p1≥4))) (some (0,0,0)) ((D4 ([(0,0,0),(2000,30,90),(1000,20,60),(300,100,300)]:List (Int×Int×Int)) p1).bind fun v1=>some (v1.1,v1.2.1,v1.2.2))
instance roads_Bounds_le (p1:Int):Le (A66 p1) (A1a p1):=by unfold A66 A1a;infer_instance
def B2l (p1:(List Spot))(x1:Int):Option (Stp Int (Sum Unit Bool)):=
  cond (decide (x1< (p1.length:Int))) ((D4 p1 x1).bind fun v1=>cond ((decide ((mm2 false v1.X v1.Y)< (-16777216)))||(decide ((mm2 true v1.X v1.Y)>16777216))) (some (.out (.inr false))) (some (.go (w64 (x1+1))))) (some (.out (.inl ())))
instance curve_fair_l1_le (p1:(List Spot))(x1:Int):Le (B2l p1 x1) (A17 p1 x1):=by unfold B2l A17;infer_instance
def B6z (p1:(List Spot)):Option Bool:=
  thenS (U6 (B2l p1) 0) (fun _=>some true) (fun r=>some r)
instance curve_fair_le (p1:(List Spot)):Le (B6z p1) (A8p p1):=by unfold B6z A8p;infer_instance
def B42 (p1:Spot)(p2:Spot):Option CurveVector:=
  some (CurveVector.mk (w64 (p2.X - p1.X)) (w64 (p2.Y - p1.Y)))
instance curve_from_le (p1:Spot)(p2:Spot):Le (B42 p1 p2) (A7c p1 p2):=by unfold B42 A7c;infer_instance
def A3l (p1:CurveVector)(p2:CurveVector):Option Int:=
  some (w64 ((w64 (p1.x*p2.x))+ (w64 (p1.y*p2.y))))
instance curve_vector_dot_le (p1:CurveVector)(p2:CurveVector):Le (A3l p1 p2) (X6 p1 p2):=by unfold A3l X6;infer_instance
def B2m (p1:Int)(x1:(Int×Int)):Option (Stp (Int×Int) Int):=
  cond (decide (x1.1<x1.2)) (cond (decide ((w64 ((w64 ((w64 (x1.1+x1.2)).tdiv 2))* (w64 ((w64 (x1.1+x1.2)).tdiv 2))))<p1)) (some (.go ((w64 ((w64 ((w64 (x1.1+x1.2)).tdiv 2))+1)),x1.2))) (some (.go (x1.1,(w64 ((w64 (x1.1+x1.2)).tdiv 2)))))) (some (.out x1.1))
instance curve_root_l1_le (p1:Int)(x1:(Int×Int)):Le (B2m p1 x1) (A3u p1 x1):=by unfold B2m A3u;infer_instance
def B43 (p1:Int):Option (Int×Bool):=
  (U6 (B2m p1) (0,67108864)).bind fun y1=>some (y1,((w64 (y1*y1))==p1))
instance curve_root_le (p1:Int):Le (B43 p1) (A5w p1):=by unfold B43 A5w;infer_instance
def B1g (p1:Curve)(x1:(Int×CurveVector)):Option (Stp (Int×CurveVector) (Sum Unit Int)):=
  cond (decide (x1.1< (w64 ((p1.Pts.length:Int) - 1)))) ((D4 p1.Pts x1.1).bind fun v2=>(D4 p1.Pts (w64 (x1.1+1))).bind fun v3=>(B42 v2 v3).bind fun v4=>(A3l v4 v4).bind fun v5=>(B43 v5).bind fun v6=>cond (!v6.2) (some (.out (.inr 3))) (cond ((decide (v6.1<1000))||(decide (v6.1>1048576))) (some (.out (.inr 2))) (((cond (decide (x1.1>0)) (A3l x1.2 v4) (some default))).bind fun v7=>cond ((decide (x1.1>0))&& (decide (v7≤0))) (some (.out (.inr 12))) (some (.go ((w64 (x1.1+1)),v4)))))) (some (.out (.inl ())))
instance curve_Check_l1_le (p1:Curve)(x1:(Int×CurveVector)):Le (B1g p1 x1) (A0f p1 x1):=by unfold B1g A0f;repeat' first|infer_instance|with_reducible refine Le.bind (h:= ?_) (hf:=fun _=> ?_)|with_reducible refine Le.cond (h:= ?_) (h':= ?_)|with_reducible refine Le.thenS (h:= ?_) (hf:=fun _=> ?_) (hg:=fun _=> ?_)
def B2b (p1:Curve):Option Int:=
  cond (decide ((p1.Pts.length:Int)<2)) (some 6) (cond (decide ((p1.Pts.length:Int)>16)) (some 5) ((B6z p1.Pts).bind fun v1=>cond (!v1) (some 2) (thenS (U6 (B1g p1) (0,(CurveVector.mk 0 0))) (fun _=>some 0) (fun r=>some r))))
instance curve_Check_le (p1:Curve):Le (B2b p1) (A55 p1):=by unfold B2b A55;infer_instance
def A9s (p1:(List Int))(p3:Int)(x1:(Int×Int)):Option (Stp (Int×Int) (Sum Unit Bool)):=
  cond (decide (x1.2< (p1.length:Int))) ((D4 p1 x1.2).bind fun v1=>cond ((decide (v1<x1.1))||(decide (v1≥p3))) (some (.out (.inr false))) (some (.go ((w64 (v1+1)),(w64 (x1.2+1)))))) (some (.out (.inl ())))
instance roads_rising_l1_le (p1:(List Int))(p3:Int)(x1:(Int×Int)):Le (A9s p1 p3 x1) (Z5 p1 p3 x1):=by unfold A9s Z5;infer_instance
def A88 (p1:(List Int))(p2:Int)(p3:Int):Option Bool:=
  thenS (U6 (A9s p1 p3) (p2,0)) (fun _=>some true) (fun r=>some r)
instance roads_rising_le (p1:(List Int))(p2:Int)(p3:Int):Le (A88 p1 p2 p3) (A2d p1 p2 p3):=by unfold A88 A2d;infer_instance
def A5m (p1:RoadsCheck)(x1:Int):Option (Stp Int (Sum Unit Int)):=
  cond (decide (x1< (p1.Map_.Lanes.length:Int))) ((D4 p1.Map_.Lanes x1).bind fun v1=>(A66 v1.Kind).bind fun v2=>cond (v2.1==0) (some (.out (.inr 4))) ((B2b v1.Curve_).bind fun v3=>cond (v3 !=0) (some (.out (.inr v3))) ((A2m v1.Half 200 4000).bind fun v4=>((cond (!(!v4)) (A2m v1.Limit 1 v2.1) (some default))).bind fun v5=>cond ((!v4)||(!v5)) (some (.out (.inr 2))) (cond (decide ((v1.Next.length:Int)>3)) (some (.out (.inr 8))) ((A88 v1.Next (w64 (x1+1)) (p1.Map_.Lanes.length:Int)).bind fun v6=>cond (!v6) (some (.out (.inr 11))) (some (.go (w64 (x1+1))))))))) (some (.out (.inl ())))
instance roads_check_lanes_l1_le (p1:RoadsCheck)(x1:Int):Le (A5m p1 x1) (S7 p1 x1):=by unfold A5m S7;repeat' first|infer_instance|with_reducible refine Le.bind (h:= ?_) (hf:=fun _=> ?_)|with_reducible refine Le.cond (h:= ?_) (h':= ?_)|with_reducible refine Le.thenS (h:= ?_) (hf:=fun _=> ?_) (hg:=fun _=> ?_)
def A89 (p1:RoadsCheck):Option Int:=
  thenS (U6 (A5m p1) 0) (fun _=>some 0) (fun r=>some r)
instance roads_check_lanes_le (p1:RoadsCheck):Le (A89 p1) (X9 p1):=by unfold A89 X9;infer_instance
def A4p (p1:RoadsCheck)(v1:Lane)(v2:Spot)(x2:Int):Option (Stp Int (Sum Unit Int)):=
  cond (decide (x2< (v1.Next.length:Int))) ((D4 v1.Next x2).bind fun v3=>(D4 p1.Map_.Lanes v3).bind fun v4=>cond (v4.Kind !=v1.Kind) (some (.out (.inr 4))) ((D4 p1.Map_.Lanes v3).bind fun v5=>(D4 v5.Curve_.Pts 0).bind fun v6=>cond (!(v6.X==v2.X&& (v6.Y==v2.Y&&true))) (some (.out (.inr 3))) (some (.go (w64 (x2+1)))))) (some (.out (.inl ())))
instance roads_check_joints_l2_le (p1:RoadsCheck)(v1:Lane)(v2:Spot)(x2:Int):Le (A4p p1 v1 v2 x2) (R2 p1 v1 v2 x2):=by unfold A4p R2;repeat' first|infer_instance|with_reducible refine Le.bind (h:= ?_) (hf:=fun _=> ?_)|with_reducible refine Le.cond (h:= ?_) (h':= ?_)|with_reducible refine Le.thenS (h:= ?_) (hf:=fun _=> ?_) (hg:=fun _=> ?_)
def A4q (p1:RoadsCheck)(x1:Int):Option (Stp Int (Sum Unit Int)):=
  cond (decide (x1< (p1.Map_.Lanes.length:Int))) ((D4 p1.Map_.Lanes x1).bind fun v1=>(D4 v1.Curve_.Pts (w64 ((v1.Curve_.Pts.length:Int) - 1))).bind fun v2=>thenS (U6 (A4p p1 v1 v2) 0) (fun _=>some (.go (w64 (x1+1)))) (fun r=>some (.out (.inr r)))) (some (.out (.inl ())))
instance roads_check_joints_l1_le (p1:RoadsCheck)(x1:Int):Le (A4q p1 x1) (R3 p1 x1):=by unfold A4q R3;infer_instance
def A75 (p1:RoadsCheck):Option Int:=
  thenS (U6 (A4q p1) 0) (fun _=>some 0) (fun r=>some r)
instance roads_check_joints_le (p1:RoadsCheck):Le (A75 p1) (W5 p1):=by unfold A75 W5;infer_instance
def A4r (p1:Phase):Option Bool:=
  (A2m p1.Ticks 1 10000).bind fun v1=>some (!v1)
instance roads_check_signals_1_le (p1:Phase):Le (A4r p1) (Y0 p1):=by unfold A4r Y0;infer_instance
def L7 (p1:(List Phase))(x1:Int):Option (Stp Int (Sum Unit Int)):=
  cond (decide (x1< (p1.length:Int))) ((D4 p1 x1).bind fun v1=>(A4r v1).bind fun v2=>cond v2 (some (.out (.inr x1))) (some (.go (w64 (x1+1))))) (some (.out (.inl ())))
instance slices_IndexFunc_Phase_Phase_roads_check_signals_1_l1_le (p1:(List Phase))(x1:Int):Le (L7 p1 x1) (C6 p1 x1):=by unfold L7 C6;infer_instance
def N2 (p1:(List Phase)):Option Int:=
  thenS (U6 (L7 p1) 0) (fun _=>some (-1)) (fun r=>some r)
instance slices_IndexFunc_Phase_Phase_roads_check_signals_1_le (p1:(List Phase)):Le (N2 p1) (E4 p1):=by unfold N2 E4;infer_instance
def L8 (p1:(List Phase)):Option Bool:=
  (N2 p1).bind fun v1=>some (decide (v1≥0))
instance slices_ContainsFunc_Phase_Phase_roads_check_signals_1_le (p1:(List Phase)):Le (L8 p1) (C7 p1):=by unfold L8 C7;infer_instance
def A3m (p1:Phase)(p2:RoadsCheck):Option Bool:=
  (A88 p1.Green 0 (p2.Map_.Lanes.length:Int)).bind fun v1=>some (!v1)
instance roads_check_signals_2_b_le (p1:Phase)(p2:RoadsCheck):Le (A3m p1 p2) (V6 p1 p2):=by unfold A3m V6;infer_instance
def L5 (p1:(List Phase))(p2:RoadsCheck)(x1:Int):Option (Stp Int (Sum Unit Int)):=
  cond (decide (x1< (p1.length:Int))) ((D4 p1 x1).bind fun v1=>(A3m v1 p2).bind fun v2=>cond v2 (some (.out (.inr x1))) (some (.go (w64 (x1+1))))) (some (.out (.inl ())))
instance slices_IndexFunc_Phase_Phase_roads_check_signals_2b_l1_le (p1:(List Phase))(p2:RoadsCheck)(x1:Int):Le (L5 p1 p2 x1) (C4 p1 p2 x1):=by unfold L5 C4;infer_instance
def M9 (p1:(List Phase))(p2:RoadsCheck):Option Int:=
  thenS (U6 (L5 p1 p2) 0) (fun _=>some (-1)) (fun r=>some r)
instance slices_IndexFunc_Phase_Phase_roads_check_signals_2b_le (p1:(List Phase))(p2:RoadsCheck):Le (M9 p1 p2) (E3 p1 p2):=by unfold M9 E3;infer_instance
def L6 (p1:(List Phase))(p2:RoadsCheck):Option Bool:=
  (M9 p1 p2).bind fun v1=>some (decide (v1≥0))
instance slices_ContainsFunc_Phase_Phase_roads_check_signals_2b_le (p1:(List Phase))(p2:RoadsCheck):Le (L6 p1 p2) (C5 p1 p2):=by unfold L6 C5;infer_instance
def A47 (p1:RoadsCheck)(x1:Int):Option (Stp Int (Sum Unit Int)):=
  cond (decide (x1< (p1.Map_.Signals.length:Int))) ((D4 p1.Map_.Signals x1).bind fun v1=>cond ((v1.Phases.length:Int)==0) (some (.out (.inr 6))) (cond (decide ((v1.Phases.length:Int)>6)) (some (.out (.inr 8))) ((A2m v1.Offset 0 1099511627776).bind fun v2=>cond (!v2) (some (.out (.inr 2))) ((L8 v1.Phases).bind fun v3=>cond v3 (some (.out (.inr 2))) ((L6 v1.Phases p1).bind fun v4=>cond v4 (some (.out (.inr 11))) (some (.go (w64 (x1+1))))))))) (some (.out (.inl ())))
instance roads_check_signals_l1_le (p1:RoadsCheck)(x1:Int):Le (A47 p1 x1) (P9 p1 x1):=by unfold A47 P9;repeat' first|infer_instance|with_reducible refine Le.bind (h:= ?_) (hf:=fun _=> ?_)|with_reducible refine Le.cond (h:= ?_) (h':= ?_)|with_reducible refine Le.thenS (h:= ?_) (hf:=fun _=> ?_) (hg:=fun _=> ?_)
def A6h (p1:RoadsCheck):Option Int:=
  thenS (U6 (A47 p1) 0) (fun _=>some 0) (fun r=>some r)
instance roads_check_signals_le (p1:RoadsCheck):Le (A6h p1) (U8 p1):=by unfold A6h U8;infer_instance
def B8e (pts:List Spot):Nat→Nat→Int→Option (List (Int×CurvePiece))
  |0,_,_=>some []
  |n+1,i,start=>(pts[i]?).bind fun p=>(pts[i+1]?).bind fun q=>(B42 p q).bind fun v=>(A3l v v).bind fun d=>(B43 d).bind fun r=>
   (B8e pts n (i+1) (w64 (start+r.1))).bind fun l=>some (((i:Int),CurvePiece.mk p v r.1 start)::l)
instance piecesGo_le (pts:List Spot): ∀(n i:Nat) (s:Int),Le (B8e pts n i s) (A7w pts n i s)
  |0,i,s=>Le.refl _
  |n+1,i,s=>by
   rw [A7w,B8e]
   have:=fun i s=>piecesGo_le pts n i s
   infer_instance
def C54 (pts:List Spot):Option (List (Int×CurvePiece)):=if pts.length≤1000000 then B8e pts (pts.length - 1) 0 0 else none
instance piecesC_le (pts:List Spot):Le (C54 pts) (B6t pts):=by unfold C54 B6t;infer_instance
def A9t (x1:(List Int))(a1:(Int×CurvePiece)):Option (Stp (List Int) (List Int)):=
  (A7p x1 [a1.2.l]).bind fun v3=>some (.go v3)
instance curve_Pieces_l1_le (x1:(List Int))(a1:(Int×CurvePiece)):Le (A9t x1 a1) (A0n x1 a1):=by unfold A9t A0n;infer_instance
def B44 (p1:Curve):Option (List Int):=
  (B2b p1).bind fun v1=>cond (v1 !=0) (some []) (((C54 p1.Pts).bind fun v2=>loopL (A9t) (fun (x1:(List Int))=>x1) v2 []).bind fun y1=>some y1)
instance curve_Pieces_le (p1:Curve):Le (B44 p1) (A56 p1):=by unfold B44 A56;infer_instance
def A9u (v1:(List Int))(x1:(Int×Int)):Option (Stp (Int×Int) Int):=
  cond (decide (x1.2< (v1.length:Int))) ((D4 v1 x1.2).bind fun v2=>some (.go ((w64 (x1.1+v2)),(w64 (x1.2+1))))) (some (.out x1.1))
instance curve_Length_l1_le (v1:(List Int))(x1:(Int×Int)):Le (A9u v1 x1) (W8 v1 x1):=by unfold A9u W8;infer_instance
def B0g (p1:Curve):Option Int:=
  (B44 p1).bind fun v1=>(U6 (A9u v1) (0,0)).bind fun y1=>some y1
instance curve_Length_le (p1:Curve):Le (B0g p1) (A57 p1):=by unfold B0g A57;infer_instance
def A8t (p1:Map)(p2:Int):Option Int:=
  (D4 p1.Lanes p2).bind fun v1=>(B0g v1.Curve_).bind fun v2=>some v2
instance roads_long_le (p1:Map)(p2:Int):Le (A8t p1 p2) (A3d p1 p2):=by unfold A8t A3d;infer_instance
def A5n (p1:RoadsCheck)(v1:Zone)(x3:Int):Option (Stp Int (Sum Unit Int)):=
  cond (decide (x3< (v1.Parts.length:Int))) ((D4 v1.Parts x3).bind fun v5=>((cond (!((decide (v5.From<0))||(decide (v5.From≥v5.To)))) (A8t p1.Map_ v5.Lane_) (some default))).bind fun v6=>cond (((((decide (v5.From<0))||(decide (v5.From≥v5.To)))||(decide (v5.To>v6)))||(decide (v5.Rank<0)))||(decide (v5.Rank>100))) (some (.out (.inr 2))) (some (.go (w64 (x3+1))))) (some (.out (.inl ())))
instance roads_check_zones_l3_le (p1:RoadsCheck)(v1:Zone)(x3:Int):Le (A5n p1 v1 x3) (S8 p1 v1 x3):=by unfold A5n S8;repeat' first|infer_instance|with_reducible refine Le.bind (h:= ?_) (hf:=fun _=> ?_)|with_reducible refine Le.cond (h:= ?_) (h':= ?_)|with_reducible refine Le.thenS (h:= ?_) (hf:=fun _=> ?_) (hg:=fun _=> ?_)
def A5o (v1:Zone)(x2:((List Int)×Int)):Option (Stp ((List Int)×Int) (List Int)):=
  cond (decide (x2.2< (v1.Parts.length:Int))) ((D4 v1.Parts x2.2).bind fun v2=>(A7p x2.1 [v2.Lane_]).bind fun v3=>some (.go (v3,(w64 (x2.2+1))))) (some (.out x2.1))
instance roads_check_zones_l2_le (v1:Zone)(x2:((List Int)×Int)):Le (A5o v1 x2) (A00 v1 x2):=by unfold A5o A00;infer_instance
def A5p (p1:RoadsCheck)(x1:Int):Option (Stp Int (Sum Unit Int)):=
  cond (decide (x1< (p1.Map_.Zones.length:Int))) ((D4 p1.Map_.Zones x1).bind fun v1=>cond (decide ((v1.Parts.length:Int)<2)) (some (.out (.inr 6))) (cond (decide ((v1.Parts.length:Int)>6)) (some (.out (.inr 8))) (cond ((decide (v1.Signal_<0))||(decide (v1.Signal_>(p1.Map_.Signals.length:Int)))) (some (.out (.inr 2))) ((U6 (A5o v1) ([],0)).bind fun y2=>(A88 y2 0 (p1.Map_.Lanes.length:Int)).bind fun v4=>cond (!v4) (some (.out (.inr 11))) (thenS (U6 (A5n p1 v1) 0) (fun _=>some (.go (w64 (x1+1)))) (fun r=>some (.out (.inr r)))))))) (some (.out (.inl ())))
instance roads_check_zones_l1_le (p1:RoadsCheck)(x1:Int):Le (A5p p1 x1) (S9 p1 x1):=by unfold A5p S9;repeat' first|infer_instance|with_reducible refine Le.bind (h:= ?_) (hf:=fun _=> ?_)|with_reducible refine Le.cond (h:= ?_) (h':= ?_)|with_reducible refine Le.thenS (h:= ?_) (hf:=fun _=> ?_) (hg:=fun _=> ?_)
def A8a (p1:RoadsCheck):Option Int:=
  thenS (U6 (A5p p1) 0) (fun _=>some 0) (fun r=>some r)
instance roads_check_zones_le (p1:RoadsCheck):Le (A8a p1) (Y1 p1):=by unfold A8a Y1;infer_instance
def A5q (p1:RoadsCheck)(x1:Int):Option (Stp Int (Sum Unit Int)):=
  cond (decide (x1< (p1.Map_.Works.length:Int))) ((D4 p1.Map_.Works x1).bind fun v1=>cond ((decide (v1.Lane_<0))||(decide (v1.Lane_≥(p1.Map_.Lanes.length:Int)))) (some (.out (.inr 7))) ((D4 p1.Map_.Lanes v1.Lane_).bind fun v2=>(A66 v2.Kind).bind fun v3=>((cond (!((decide (v1.From<0))||(decide (v1.From>v1.To)))) (A8t p1.Map_ v1.Lane_) (some default))).bind fun v4=>((cond (!((((((decide (v1.From<0))||(decide (v1.From>v1.To)))||(decide (v1.To>v4)))||(decide (v1.Begin<0)))||(decide (v1.Begin≥v1.End)))||(decide (v1.End>1099511627776)))) (A2m v1.Limit 0 v3.1) (some default))).bind fun v5=>cond (((((((decide (v1.From<0))||(decide (v1.From>v1.To)))||(decide (v1.To>v4)))||(decide (v1.Begin<0)))||(decide (v1.Begin≥v1.End)))||(decide (v1.End>1099511627776)))||(!v5)) (some (.out (.inr 2))) (some (.go (w64 (x1+1)))))) (some (.out (.inl ())))
instance roads_check_works_l1_le (p1:RoadsCheck)(x1:Int):Le (A5q p1 x1) (T0 p1 x1):=by unfold A5q T0;repeat' first|infer_instance|with_reducible refine Le.bind (h:= ?_) (hf:=fun _=> ?_)|with_reducible refine Le.cond (h:= ?_) (h':= ?_)|with_reducible refine Le.thenS (h:= ?_) (hf:=fun _=> ?_) (hg:=fun _=> ?_)
def A8b (p1:RoadsCheck):Option Int:=
  thenS (U6 (A5q p1) 0) (fun _=>some 0) (fun r=>some r)
instance roads_check_works_le (p1:RoadsCheck):Le (A8b p1) (Y2 p1):=by unfold A8b Y2;infer_instance
def A1x (v:Nat)(p1:RoadsCheck):Option Int:=
  cond (Nat.beq v 148) (A6g p1) (cond (Nat.beq v 149) (A89 p1) (cond (Nat.beq v 150) (A75 p1) (cond (Nat.beq v 151) (A6h p1) (cond (Nat.beq v 152) (A8a p1) (cond (Nat.beq v 153) (A8b p1) (none))))))
instance choose_roads_check_numbers_le (v:Nat)(p1:RoadsCheck):Le (A1x v p1) (V8 v p1):=by unfold A1x V8;infer_instance
def B1h (p1:Map)(x1:Int):Option (Stp Int (Sum Unit Int)):=
  cond (decide (x1< ([148,149,150,151,152,153].length:Int))) ((D4 [148,149,150,151,152,153] x1).bind fun v1=>(A1x v1 (RoadsCheck.mk p1)).bind fun v2=>cond (v2 !=0) (some (.out (.inr v2))) (some (.go (w64 (x1+1))))) (some (.out (.inl ())))
instance roads_Check_l1_le (p1:Map)(x1:Int):Le (B1h p1 x1) (O7 p1 x1):=by unfold B1h O7;infer_instance
def A7i (p1:Map):Option Int:=
  thenS (U6 (B1h p1) 0) (fun _=>some 0) (fun r=>some r)
instance roads_Check_le (p1:Map):Le (A7i p1) (A3v p1):=by unfold A7i A3v;infer_instance
def A3n (p1:(List Int))(p2:Int)(x1:Int):Option (Stp Int (Sum Unit Int)):=
  cond (decide (x1< (p1.length:Int))) ((D4 p1 x1).bind fun v1=>cond (p2==v1) (some (.out (.inr x1))) (some (.go (w64 (x1+1))))) (some (.out (.inl ())))
instance slices_Index_int_int_l1_le (p1:(List Int))(p2:Int)(x1:Int):Le (A3n p1 p2 x1) (R5 p1 p2 x1):=by unfold A3n R5;infer_instance
def A2n (p1:(List Int))(p2:Int):Option Int:=
  thenS (U6 (A3n p1 p2) 0) (fun _=>some (-1)) (fun r=>some r)
instance slices_Index_int_int_le (p1:(List Int))(p2:Int):Le (A2n p1 p2) (W0 p1 p2):=by unfold A2n W0;infer_instance
def Y5 (p1:(List Int))(p2:Int):Option Bool:=
  (A2n p1 p2).bind fun v1=>some (decide (v1≥0))
instance slices_Contains_int_int_le (p1:(List Int))(p2:Int):Le (Y5 p1 p2) (M2 p1 p2):=by unfold Y5 M2;infer_instance
def A9v (p1:Map)(p2:Int)(x1:((List Int)×Int)):Option (Stp ((List Int)×Int) (List Int)):=
  cond (decide (x1.2< (p1.Lanes.length:Int))) ((D4 p1.Lanes x1.2).bind fun v1=>(Y5 v1.Next p2).bind fun v2=>cond v2 ((A7p x1.1 [x1.2]).bind fun v3=>some (.go (v3,(w64 (x1.2+1))))) (some (.go (x1.1,(w64 (x1.2+1)))))) (some (.out x1.1))
instance roads_before_l1_le (p1:Map)(p2:Int)(x1:((List Int)×Int)):Le (A9v p1 p2 x1) (A1q p1 p2 x1):=by unfold A9v A1q;infer_instance
def B45 (p1:Map)(p2:Int):Option (List Int):=
  (U6 (A9v p1 p2) ([],0)).bind fun y1=>some y1
instance roads_before_le (p1:Map)(p2:Int):Le (B45 p1 p2) (A58 p1 p2):=by unfold B45 A58;infer_instance
def A6i (p1:Map)(v7:List Int)(x1:(Int×Int)):Option (Stp (Int×Int) (Sum Unit Int)):=
  cond (decide (x1.2< (v7.length:Int))) ((D4 v7 x1.2).bind fun v8=>(D4 p1.Lanes x1.1).bind fun v9=>(Y5 v9.Next v8).bind fun v10=>cond (!v10) (some (.out (.inr 13))) (some (.go (v8,(w64 (x1.2+1)))))) (some (.out (.inl ())))
instance roads_CheckRoute_l1_le (p1:Map)(v7:List Int)(x1:(Int×Int)):Le (A6i p1 v7 x1) (R6 p1 v7 x1):=by unfold A6i R6;infer_instance
def A67 (p1:Map)(p2:(List Int)):Option Int:=
  (A7i p1).bind fun v1=>cond (v1 !=0) (some v1) (((cond (!(((p2.length:Int)==0)||(decide ((p2.length:Int)>8)))) (D4 p2 0) (some default))).bind fun v2=>((cond (!((((p2.length:Int)==0)||(decide ((p2.length:Int)>8)))||(decide (v2<0)))) (D4 p2 0) (some default))).bind fun v3=>((cond (!(((((p2.length:Int)==0)||(decide ((p2.length:Int)>8)))||(decide (v2<0)))||(decide (v3≥(p1.Lanes.length:Int))))) (D4 p2 0) (some default))).bind fun v4=>((cond (!(((((p2.length:Int)==0)||(decide ((p2.length:Int)>8)))||(decide (v2<0)))||(decide (v3≥(p1.Lanes.length:Int))))) (B45 p1 v4) (some default))).bind fun v5=>cond ((((((p2.length:Int)==0)||(decide ((p2.length:Int)>8)))||(decide (v2<0)))||(decide (v3≥(p1.Lanes.length:Int))))||(decide ((v5.length:Int)>0))) (some 13) ((D4 p2 0).bind fun v6=>(C6e p2 1 (p2.length:Int)).bind fun v7=>thenS (U6 (A6i p1 v7) (v6,0)) (fun _=>some 0) (fun r=>some r)))
instance roads_CheckRoute_le (p1:Map)(p2:(List Int)):Le (A67 p1 p2) (A02 p1 p2):=by unfold A67 A02;repeat' first|infer_instance|with_reducible refine Le.bind (h:= ?_) (hf:=fun _=> ?_)|with_reducible refine Le.cond (h:= ?_) (h':= ?_)|with_reducible refine Le.thenS (h:= ?_) (hf:=fun _=> ?_) (hg:=fun _=> ?_)
def A9w (p1:Map)(p2:(List Int))(x1:(Int× ((List Int)×Int))):Option (Stp (Int× ((List Int)×Int)) ((List Int)×Int)):=
  cond (decide (x1.1< (p2.length:Int))) ((D4 p2 x1.1).bind fun v2=>(A7p x1.2.1 [x1.2.2]).bind fun v3=>(A8t p1 v2).bind fun v4=>some (.go ((w64 (x1.1+1)),(v3,(w64 (x1.2.2+v4)))))) (some (.out x1.2))
instance roads_follow_l1_le (p1:Map)(p2:(List Int))(x1:(Int× ((List Int)×Int))):Le (A9w p1 p2 x1) (Z6 p1 p2 x1):=by unfold A9w Z6;infer_instance
def A68 (p1:Map)(p2:(List Int)):Option RoadsWay:=
  (A67 p1 p2).bind fun v1=>cond (v1 !=0) (some (RoadsWay.mk (Map.mk 0 [] [] [] []) [] [] 0)) ((U6 (A9w p1 p2) (0,([],0))).bind fun y1=>some (RoadsWay.mk p1 p2 y1.1 y1.2))
instance roads_follow_le (p1:Map)(p2:(List Int)):Le (A68 p1 p2) (A1b p1 p2):=by unfold A68 A1b;infer_instance
def A51 (p1:Map)(p2:(List Int)):Option Int:=
  (A68 p1 p2).bind fun v1=>some v1.length
instance roads_RouteLength_le (p1:Map)(p2:(List Int)):Le (A51 p1 p2) (Y3 p1 p2):=by unfold A51 Y3;infer_instance
def A8c (p1:Map)(p2:(List Int)):Option (List Int):=
  (A68 p1 p2).bind fun v1=>some v1.starts
instance roads_Starts_le (p1:Map)(p2:(List Int)):Le (A8c p1 p2) (A2e p1 p2):=by unfold A8c A2e;infer_instance
def B2n (p2:Agent)(v1:(List Int))(x1:Int):Option (Stp Int Int):=
  (D4 v1 x1).bind fun v2=>cond (decide (v2>p2.S)) (some (.go (w64 (x1 - 1)))) (some (.out x1))
instance world_lane_l1_le (p2:Agent)(v1:(List Int))(x1:Int):Le (B2n p2 v1 x1) (A2f p2 v1 x1):=by unfold B2n A2f;infer_instance
def B46 (p1:Map)(p2:Agent):Option (Int×Int):=
  (A8c p1 p2.Route).bind fun v1=>(U6 (B2n p2 v1) (w64 ((v1.length:Int) - 1))).bind fun y1=>(D4 p2.Route y1).bind fun v3=>(D4 v1 y1).bind fun v4=>some (v3,(w64 (p2.S - v4)))
instance world_lane_le (p1:Map)(p2:Agent):Le (B46 p1 p2) (A7d p1 p2):=by unfold B46 A7d;infer_instance
def A5r (p1:Agent):Option WorldSpan:=
  some (WorldSpan.mk (w64 (p1.S - p1.Len)) p1.S)
instance world_body_le (p1:Agent):Le (A5r p1) (A3e p1):=by unfold A5r A3e;infer_instance
def B47 (p1:Map)(p2:Agent):Option Bool:=
  (A5r p2).bind fun v1=>(A51 p1 p2.Route).bind fun v2=>some (decide (v1.from_>v2))
instance world_left_le (p1:Map)(p2:Agent):Le (B47 p1 p2) (A5y p1 p2):=by unfold B47 A5y;infer_instance
def A8u (p1:Map)(p2:State)(p3:Int):Option Int:=
  (D4 p2.Agents p3).bind fun v1=>(A67 p1 v1.Route).bind fun v2=>cond (v2 !=0) (some 13) (((cond (!(((((decide (v1.Len<300))||(decide (v1.Len>20000)))||(decide (v1.Begin<0)))||(decide (v1.Begin>1099511627776)))||(decide (v1.S<0)))) (A51 p1 v1.Route) (some default))).bind fun v3=>cond ((((((decide (v1.Len<300))||(decide (v1.Len>20000)))||(decide (v1.Begin<0)))||(decide (v1.Begin>1099511627776)))||(decide (v1.S<0)))||(decide (v1.S>(w64 ((w64 (v3+v1.Len))+2000))))) (some 2) ((B46 p1 v1).bind fun v4=>(D4 p1.Lanes v4.1).bind fun v5=>(A66 v5.Kind).bind fun v6=>cond ((decide (v1.V<0))||(decide (v1.V>v6.1))) (some 2) ((B47 p1 v1).bind fun v7=>cond ((!(v1.Gone==v7))||(((decide (v1.Begin>p2.Tick))&& (v1.S !=0))||((p3==0)&& (v1.Begin !=0)))) (some 10) (some 0))))
instance world_checkAgent_le (p1:Map)(p2:State)(p3:Int):Le (A8u p1 p2 p3) (A10 p1 p2 p3):=by unfold A8u A10;repeat' first|infer_instance|with_reducible refine Le.bind (h:= ?_) (hf:=fun _=> ?_)|with_reducible refine Le.cond (h:= ?_) (h':= ?_)|with_reducible refine Le.thenS (h:= ?_) (hf:=fun _=> ?_) (hg:=fun _=> ?_)
def A92 (p1:Int):Option Bool:=
  some (p1 !=p1)
instance cmp_isNaN_int_le (p1:Int):Le (A92 p1) (A2g p1):=by unfold A92 A2g;infer_instance
def A28 (p1:Int)(p2:Int):Option Int:=
  (A92 p1).bind fun v1=>(A92 p2).bind fun v2=>cond v1 (cond v2 (some 0) (some (-1))) (cond v2 (some 1) (cond (decide (p1<p2)) (some (-1)) (cond (decide (p1>p2)) (some 1) (some 0))))
instance cmp_Compare_int_le (p1:Int)(p2:Int):Le (A28 p1 p2) (W9 p1 p2):=by unfold A28 W9;infer_instance
def B2o (p1:(List Int))(x1:Int):Option (Stp Int (Sum Unit Int)):=
  cond (decide (x1< (p1.length:Int))) ((D4 p1 x1).bind fun v1=>cond (v1 !=0) (some (.out (.inr v1))) (some (.go (w64 (x1+1))))) (some (.out (.inl ())))
instance cmp_Or_int_l1_le (p1:(List Int))(x1:Int):Le (B2o p1 x1) (A3w p1 x1):=by unfold B2o A3w;infer_instance
def B1i (p1:(List Int)):Option Int:=
  thenS (U6 (B2o p1) 0) (fun _=>some 0) (fun r=>some r)
instance cmp_Or_int_le (p1:(List Int)):Le (B1i p1) (A5z p1):=by unfold B1i A5z;infer_instance
def A9k (p1:Stay)(p2:Stay):Option Int:=
  (A28 p1.Agent_ p2.Agent_).bind fun v1=>(A28 p1.Zone_ p2.Zone_).bind fun v2=>(B1i [v1,v2]).bind fun v3=>some v3
instance world_order_le (p1:Stay)(p2:Stay):Le (A9k p1 p2) (A3x p1 p2):=by unfold A9k A3x;infer_instance
def A9x (p1:Stay)(p2:State):Option Bool:=
  some ((((decide (p1.Since<0))||(decide (p1.Since>p2.Tick)))||(decide (p1.Rank<0)))||(decide (p1.Rank>100)))
instance world_Check_1_b_le (p1:Stay)(p2:State):Le (A9x p1 p2) (A3f p1 p2):=by unfold A9x A3f;infer_instance
def Q0 (p1:(List Stay))(p2:State)(x1:Int):Option (Stp Int (Sum Unit Int)):=
  cond (decide (x1< (p1.length:Int))) ((D4 p1 x1).bind fun v1=>(A9x v1 p2).bind fun v2=>cond v2 (some (.out (.inr x1))) (some (.go (w64 (x1+1))))) (some (.out (.inl ())))
instance slices_IndexFunc_Stay_Stay_world_Check_1b_l1_le (p1:(List Stay))(p2:State)(x1:Int):Le (Q0 p1 p2 x1) (E5 p1 p2 x1):=by unfold Q0 E5;infer_instance
def S5 (p1:(List Stay))(p2:State):Option Int:=
  thenS (U6 (Q0 p1 p2) 0) (fun _=>some (-1)) (fun r=>some r)
instance slices_IndexFunc_Stay_Stay_world_Check_1b_le (p1:(List Stay))(p2:State):Le (S5 p1 p2) (G9 p1 p2):=by unfold S5 G9;infer_instance
def Q3 (p1:(List Stay))(p2:State):Option Bool:=
  (S5 p1 p2).bind fun v1=>some (decide (v1≥0))
instance slices_ContainsFunc_Stay_Stay_world_Check_1b_le (p1:(List Stay))(p2:State):Le (Q3 p1 p2) (D1 p1 p2):=by unfold Q3 D1;infer_instance
def B1j (p1:Map)(p2:State)(x2:Int):Option (Stp Int (Sum Unit Int)):=
  cond (decide (x2< (p2.In.length:Int))) ((D4 p2.In x2).bind fun v3=>((cond ((!((((decide (v3.Agent_<0))||(decide (v3.Agent_≥(p2.Agents.length:Int))))||(decide (v3.Zone_<0)))||(decide (v3.Zone_≥(p1.Zones.length:Int)))))&& (decide (x2>0))) (D4 p2.In (w64 (x2 - 1))) (some default))).bind fun v4=>((cond ((!((((decide (v3.Agent_<0))||(decide (v3.Agent_≥(p2.Agents.length:Int))))||(decide (v3.Zone_<0)))||(decide (v3.Zone_≥(p1.Zones.length:Int)))))&& (decide (x2>0))) (A9k v4 v3) (some default))).bind fun v5=>cond (((((decide (v3.Agent_<0))||(decide (v3.Agent_≥(p2.Agents.length:Int))))||(decide (v3.Zone_<0)))||(decide (v3.Zone_≥(p1.Zones.length:Int))))||((decide (x2>0))&& (decide (v5≥0)))) (some (.out (.inr 11))) (some (.go (w64 (x2+1))))) (some (.out (.inl ())))
instance world_Check_l2_le (p1:Map)(p2:State)(x2:Int):Le (B1j p1 p2 x2) (A1c p1 p2 x2):=by unfold B1j A1c;repeat' first|infer_instance|with_reducible refine Le.bind (h:= ?_) (hf:=fun _=> ?_)|with_reducible refine Le.cond (h:= ?_) (h':= ?_)|with_reducible refine Le.thenS (h:= ?_) (hf:=fun _=> ?_) (hg:=fun _=> ?_)
def B1k (p1:Map)(p2:State)(x1:Int):Option (Stp Int (Sum Unit Int)):=
  cond (decide (x1< (p2.Agents.length:Int))) ((A8u p1 p2 x1).bind fun v2=>cond (v2 !=0) (some (.out (.inr v2))) (some (.go (w64 (x1+1))))) (some (.out (.inl ())))
instance world_Check_l1_le (p1:Map)(p2:State)(x1:Int):Le (B1k p1 p2 x1) (A1d p1 p2 x1):=by unfold B1k A1d;infer_instance
def A9l (p1:Map)(p2:State):Option Int:=
  (A7i p1).bind fun v1=>cond (v1 !=0) (some v1) (cond ((decide (p2.Tick<0))||(decide (p2.Tick>1099511627776))) (some 2) (cond ((p2.Agents.length:Int)==0) (some 6) (cond (decide ((p2.Agents.length:Int)>8)) (some 8) (thenS (U6 (B1k p1 p2) 0) (fun _=>thenS (U6 (B1j p1 p2) 0) (fun _=>(Q3 p2.In p2).bind fun v6=>cond v6 (some 2) (some 0)) (fun r=>some r)) (fun r=>some r)))))
instance world_Check_le (p1:Map)(p2:State):Le (A9l p1 p2) (A3y p1 p2):=by unfold A9l A3y;repeat' first|infer_instance|with_reducible refine Le.bind (h:= ?_) (hf:=fun _=> ?_)|with_reducible refine Le.cond (h:= ?_) (h':= ?_)|with_reducible refine Le.thenS (h:= ?_) (hf:=fun _=> ?_) (hg:=fun _=> ?_)
def B53 (p1:Agent):Option Bool:=
  some p1.Gone
instance world_New_1_le (p1:Agent):Le (B53 p1) (B11 p1):=by unfold B53 B11;infer_instance
def Q6 (p1:(List Agent))(x1:Int):Option (Stp Int (Sum Unit Int)):=
  cond (decide (x1< (p1.length:Int))) ((D4 p1 x1).bind fun v1=>(B53 v1).bind fun v2=>cond v2 (some (.out (.inr x1))) (some (.go (w64 (x1+1))))) (some (.out (.inl ())))
instance slices_IndexFunc_Agent_Agent_world_New_1_l1_le (p1:(List Agent))(x1:Int):Le (Q6 p1 x1) (J2 p1 x1):=by unfold Q6 J2;infer_instance
def T3 (p1:(List Agent)):Option Int:=
  thenS (U6 (Q6 p1) 0) (fun _=>some (-1)) (fun r=>some r)
instance slices_IndexFunc_Agent_Agent_world_New_1_le (p1:(List Agent)):Le (T3 p1) (K5 p1):=by unfold T3 K5;infer_instance
def Q7 (p1:(List Agent)):Option Bool:=
  (T3 p1).bind fun v1=>some (decide (v1≥0))
instance slices_ContainsFunc_Agent_Agent_world_New_1_le (p1:(List Agent)):Le (Q7 p1) (J3 p1):=by unfold Q7 J3;infer_instance
def A7j (p1:State)(p2:Int):Option Bool:=
  ((cond ((decide (p2≥0))&& (decide (p2< (p1.Agents.length:Int)))) (D4 p1.Agents p2) (some default))).bind fun v1=>((cond (((decide (p2≥0))&& (decide (p2< (p1.Agents.length:Int))))&& (!v1.Gone)) (D4 p1.Agents p2) (some default))).bind fun v2=>some ((((decide (p2≥0))&& (decide (p2< (p1.Agents.length:Int))))&& (!v1.Gone))&& (decide (v2.Begin≤p1.Tick)))
instance world_There_le (p1:State)(p2:Int):Le (A7j p1 p2) (A2t p1 p2):=by unfold A7j A2t;repeat' first|infer_instance|with_reducible refine Le.bind (h:= ?_) (hf:=fun _=> ?_)|with_reducible refine Le.cond (h:= ?_) (h':= ?_)|with_reducible refine Le.thenS (h:= ?_) (hf:=fun _=> ?_) (hg:=fun _=> ?_)
def B1l (p1:Agent):Option Bool:=
  some ((((decide (p1.S≥0))&& (decide (p1.S≤1099511627776)))&& (decide (p1.Len≥0)))&& (decide (p1.Len≤1099511627776)))
instance world_sane_le (p1:Agent):Le (B1l p1) (A8q p1):=by unfold B1l A8q;infer_instance
def A29 (p1:Int):Option Bool:=
  some (p1 !=p1)
instance cmp_isNaN_int64_le (p1:Int):Le (A29 p1) (X0 p1):=by unfold A29 X0;infer_instance
def A52 (p1:Int)(p2:Int):Option Int:=
  (A29 p1).bind fun v1=>(A29 p2).bind fun v2=>cond v1 (cond v2 (some 0) (some (-1))) (cond v2 (some 1) (cond (decide (p1<p2)) (some (-1)) (cond (decide (p1>p2)) (some 1) (some 0))))
instance cmp_Compare_int64_le (p1:Int)(p2:Int):Le (A52 p1 p2) (A1j p1 p2):=by unfold A52 A1j;infer_instance
def B1m (p1:Pass)(p2:Pass):Option Int:=
  (A52 p1.From p2.From).bind fun v1=>(A28 p1.Zone_ p2.Zone_).bind fun v2=>(B1i [v1,v2]).bind fun v3=>some v3
instance roads_Passes_1_le (p1:Pass)(p2:Pass):Le (B1m p1 p2) (A6n p1 p2):=by unfold B1m A6n;infer_instance
def M4 (p2:Int)(x2:(Int× (List Pass))):Option (Stp (Int× (List Pass)) (List Pass)):=
  ((cond (decide (x2.1>p2)) (D4 x2.2 x2.1) (some default))).bind fun v1=>((cond (decide (x2.1>p2)) (D4 x2.2 (w64 (x2.1 - 1))) (some default))).bind fun v2=>((cond (decide (x2.1>p2)) (B1m v1 v2) (some default))).bind fun v3=>cond ((decide (x2.1>p2))&& (decide (v3<0))) ((D4 x2.2 (w64 (x2.1 - 1))).bind fun v4=>(D4 x2.2 x2.1).bind fun v5=>(D4 x2.2 x2.1).bind fun v6=>(D4 (B79 x2.2 x2.1 v4) (w64 (x2.1 - 1))).bind fun v7=>some (.go ((w64 (x2.1 - 1)),(B79 (B79 x2.2 x2.1 v4) (w64 (x2.1 - 1)) v5)))) (some (.out x2.2))
instance slices_insertionSortCmpFunc_Pass_a_roads_Passes_1_l2_le (p2:Int)(x2:(Int× (List Pass))):Le (M4 p2 x2) (F7 p2 x2):=by unfold M4 F7;repeat' first|infer_instance|with_reducible refine Le.bind (h:= ?_) (hf:=fun _=> ?_)|with_reducible refine Le.cond (h:= ?_) (h':= ?_)|with_reducible refine Le.thenS (h:= ?_) (hf:=fun _=> ?_) (hg:=fun _=> ?_)
def M5 (p2:Int)(p3:Int)(x1:(Int× (List Pass))):Option (Stp (Int× (List Pass)) (List Pass)):=
  cond (decide (x1.1<p3)) ((U6 (M4 p2) (x1.1,x1.2)).bind fun y1=>some (.go ((w64 (x1.1+1)),y1))) (some (.out (x1.2)))
instance slices_insertionSortCmpFunc_Pass_a_roads_Passes_1_l1_le (p2:Int)(p3:Int)(x1:(Int× (List Pass))):Le (M5 p2 p3 x1) (F8 p2 p3 x1):=by unfold M5 F8;infer_instance
def J8 (p1:(List Pass))(p2:Int)(p3:Int):Option (List Pass):=
  U6 (M5 p2 p3) ((w64 (p2+1)),p1)
instance slices_insertionSortCmpFunc_Pass_a_roads_Passes_1_le (p1:(List Pass))(p2:Int)(p3:Int):Le (J8 p1 p2 p3) (E8 p1 p2 p3):=by unfold J8 E8;infer_instance
def P3 (p2:Int)(x3:(Int×Int)):Option (Stp (Int×Int) Int):=
  cond (decide (x3.2≤p2)) (none) (some (.out x3.1))
instance slices_stableCmpFunc_Pass_a_roads_Passes_1_l3_le (p2:Int)(x3:(Int×Int)):Le (P3 p2 x3) (I3 p2 x3):=by unfold P3 I3;infer_instance
def P4 (p2:Int)(v2:(List Pass))(x2:Int):Option (Stp Int (List Pass)):=
  cond (decide (x2<p2)) ((U6 (P3 p2) (0,(w64 (2*x2)))).bind fun y2=>cond (decide ((w64 (y2+x2))<p2)) (none) (some (.go (w64 (x2*2))))) (some (.out (v2)))
instance slices_stableCmpFunc_Pass_a_roads_Passes_1_l2_le (p2:Int)(v2:(List Pass))(x2:Int):Le (P4 p2 v2 x2) (I4 p2 v2 x2):=by unfold P4 I4;infer_instance
def P5 (p2:Int)(x1:(Int×Int× (List Pass))):Option (Stp (Int×Int× (List Pass)) (Int× (List Pass))):=
  cond (decide (x1.2.1≤p2)) ((J8 x1.2.2 x1.1 x1.2.1).bind fun v1=>some (.go (x1.2.1,(w64 (x1.2.1+20)),v1))) (some (.out (x1.1,x1.2.2)))
instance slices_stableCmpFunc_Pass_a_roads_Passes_1_l1_le (p2:Int)(x1:(Int×Int× (List Pass))):Le (P5 p2 x1) (I5 p2 x1):=by unfold P5 I5;infer_instance
def R7 (p1:(List Pass))(p2:Int):Option (List Pass):=
  (U6 (P5 p2) (0,20,p1)).bind fun y1=>(J8 y1.2 y1.1 p2).bind fun v2=>U6 (P4 p2 v2) 20
instance slices_stableCmpFunc_Pass_a_roads_Passes_1_le (p1:(List Pass))(p2:Int):Le (R7 p1 p2) (K1 p1 p2):=by unfold R7 K1;infer_instance
def N8 (p1:(List Pass)):Option (List Pass):=
  (R7 p1 (p1.length:Int)).bind fun v1=>some v1
instance slices_SortStableFunc_Pass_Pass_a_roads_Passes_1_le (p1:(List Pass)):Le (N8 p1) (G7 p1):=by unfold N8 G7;infer_instance
def M6 (p1:Int)(x2:Int):Option (Stp Int Unit):=
  ((cond (decide (x2>p1)) ((none:Option Unit)) (some default))).bind fun v1=>cond ((decide (x2>p1))&&false) (none) (some (.out ()))
instance slices_insertionSortCmpFunc_Pass_n_roads_Passes_1_l2_le (p1:Int)(x2:Int):Le (M6 p1 x2) (F9 p1 x2):=by unfold M6 F9;infer_instance
def M7 (p1:Int)(p2:Int)(x1:Int):Option (Stp Int Unit):=
  cond (decide (x1<p2)) ((U6 (M6 p1) x1).bind fun _=>some (.go (w64 (x1+1)))) (some (.out (())))
instance slices_insertionSortCmpFunc_Pass_n_roads_Passes_1_l1_le (p1:Int)(p2:Int)(x1:Int):Le (M7 p1 p2 x1) (G0 p1 p2 x1):=by unfold M7 G0;infer_instance
def J9 (p1:Int)(p2:Int):Option Unit:=
  U6 (M7 p1 p2) (w64 (p1+1))
instance slices_insertionSortCmpFunc_Pass_n_roads_Passes_1_le (p1:Int)(p2:Int):Le (J9 p1 p2) (E9 p1 p2):=by unfold J9 E9;infer_instance
def P6 (p1:Int)(x3:(Int×Int)):Option (Stp (Int×Int) Int):=
  cond (decide (x3.2≤p1)) (none) (some (.out x3.1))
instance slices_stableCmpFunc_Pass_n_roads_Passes_1_l3_le (p1:Int)(x3:(Int×Int)):Le (P6 p1 x3) (I6 p1 x3):=by unfold P6 I6;infer_instance
def P7 (p1:Int)(x2:Int):Option (Stp Int Unit):=
  cond (decide (x2<p1)) ((U6 (P6 p1) (0,(w64 (2*x2)))).bind fun y2=>cond (decide ((w64 (y2+x2))<p1)) (none) (some (.go (w64 (x2*2))))) (some (.out (())))
instance slices_stableCmpFunc_Pass_n_roads_Passes_1_l2_le (p1:Int)(x2:Int):Le (P7 p1 x2) (I7 p1 x2):=by unfold P7 I7;infer_instance
def P8 (p1:Int)(x1:(Int×Int)):Option (Stp (Int×Int) Int):=
  cond (decide (x1.2≤p1)) ((J9 x1.1 x1.2).bind fun v1=>some (.go (x1.2,(w64 (x1.2+20))))) (some (.out x1.1))
instance slices_stableCmpFunc_Pass_n_roads_Passes_1_l1_le (p1:Int)(x1:(Int×Int)):Le (P8 p1 x1) (I8 p1 x1):=by unfold P8 I8;infer_instance
def R8 (p1:Int):Option Unit:=
  (U6 (P8 p1) (0,20)).bind fun y1=>(J9 y1 p1).bind fun v2=>U6 (P7 p1) 20
instance slices_stableCmpFunc_Pass_n_roads_Passes_1_le (p1:Int):Le (R8 p1) (K2 p1):=by unfold R8 K2;infer_instance
def N9:Option Unit:=
  (R8 0).bind fun v1=>some ()
instance slices_SortStableFunc_Pass_Pass_n_roads_Passes_1_le:Le (N9) (G8):=by unfold N9 G8;infer_instance
def A9y (v1:RoadsWay)(x1:((List Pass)×Int))(v2:Int)(x2:((List Pass)×Int))(v3:Zone)(x3:((List Pass)×Int)):Option (Stp ((List Pass)×Int) (List Pass)):=
  cond (decide (x3.2< (v3.Parts.length:Int))) ((D4 v3.Parts x3.2).bind fun v4=>cond (v4.Lane_==v2) ((D4 v1.starts x1.2).bind fun v5=>(D4 v1.starts x1.2).bind fun v6=>(A7p x3.1 [(Pass.mk x2.2 x3.2 (w64 (v5+v4.From)) (w64 (v6+v4.To)))]).bind fun v7=>some (.go (v7,(w64 (x3.2+1))))) (some (.go (x3.1,(w64 (x3.2+1)))))) (some (.out x3.1))
instance roads_Passes_l3_le (v1:RoadsWay)(x1:((List Pass)×Int))(v2:Int)(x2:((List Pass)×Int))(v3:Zone)(x3:((List Pass)×Int)):Le (A9y v1 x1 v2 x2 v3 x3) (A59 v1 x1 v2 x2 v3 x3):=by unfold A9y A59;repeat' first|infer_instance|with_reducible refine Le.bind (h:= ?_) (hf:=fun _=> ?_)|with_reducible refine Le.cond (h:= ?_) (h':= ?_)|with_reducible refine Le.thenS (h:= ?_) (hf:=fun _=> ?_) (hg:=fun _=> ?_)
def A9z (p1:Map)(v1:RoadsWay)(x1:((List Pass)×Int))(v2:Int)(x2:((List Pass)×Int)):Option (Stp ((List Pass)×Int) (List Pass)):=
  cond (decide (x2.2< (p1.Zones.length:Int))) ((D4 p1.Zones x2.2).bind fun v3=>(U6 (A9y v1 x1 v2 x2 v3) (x2.1,0)).bind fun y3=>some (.go (y3,(w64 (x2.2+1))))) (some (.out x2.1))
instance roads_Passes_l2_le (p1:Map)(v1:RoadsWay)(x1:((List Pass)×Int))(v2:Int)(x2:((List Pass)×Int)):Le (A9z p1 v1 x1 v2 x2) (A5a p1 v1 x1 v2 x2):=by unfold A9z A5a;infer_instance
def B00 (p1:Map)(v1:RoadsWay)(x1:((List Pass)×Int)):Option (Stp ((List Pass)×Int) (List Pass)):=
  cond (decide (x1.2< (v1.lanes.length:Int))) ((D4 v1.lanes x1.2).bind fun v2=>(U6 (A9z p1 v1 x1 v2) (x1.1,0)).bind fun y2=>some (.go (y2,(w64 (x1.2+1))))) (some (.out x1.1))
instance roads_Passes_l1_le (p1:Map)(v1:RoadsWay)(x1:((List Pass)×Int)):Le (B00 p1 v1 x1) (A5b p1 v1 x1):=by unfold B00 A5b;infer_instance
def B48 (p1:Map)(p2:(List Int)):Option (List Pass):=
  (A68 p1 p2).bind fun v1=>(U6 (B00 p1 v1) ([],0)).bind fun y1=>cond (List.isEmpty y1) ((N9).bind fun v9=>some []) ((N8 y1).bind fun v8=>some v8)
instance roads_Passes_le (p1:Map)(p2:(List Int)):Le (B48 p1 p2) (A9a p1 p2):=by unfold B48 A9a;infer_instance
def A6j (p1:Pass)(p2:Int)(p3:WorldSpan):Option Bool:=
  some (((p1.Zone_==p2)&& (decide (p1.From≤p3.to)))&& (decide (p3.from_≤p1.To)))
instance world_Present_1_b_b_le (p1:Pass)(p2:Int)(p3:WorldSpan):Le (A6j p1 p2 p3) (A1t p1 p2 p3):=by unfold A6j A1t;infer_instance
def O3 (p1:(List Pass))(p2:Int)(p3:WorldSpan)(x1:Int):Option (Stp Int (Sum Unit Int)):=
  cond (decide (x1< (p1.length:Int))) ((D4 p1 x1).bind fun v1=>(A6j v1 p2 p3).bind fun v2=>cond v2 (some (.out (.inr x1))) (some (.go (w64 (x1+1))))) (some (.out (.inl ())))
instance slices_IndexFunc_Pass_Pass_world_Present_1bb_l1_le (p1:(List Pass))(p2:Int)(p3:WorldSpan)(x1:Int):Le (O3 p1 p2 p3 x1) (H4 p1 p2 p3 x1):=by unfold O3 H4;infer_instance
def Q4 (p1:(List Pass))(p2:Int)(p3:WorldSpan):Option Int:=
  thenS (U6 (O3 p1 p2 p3) 0) (fun _=>some (-1)) (fun r=>some r)
instance slices_IndexFunc_Pass_Pass_world_Present_1bb_le (p1:(List Pass))(p2:Int)(p3:WorldSpan):Le (Q4 p1 p2 p3) (J0 p1 p2 p3):=by unfold Q4 J0;infer_instance
def O4 (p1:(List Pass))(p2:Int)(p3:WorldSpan):Option Bool:=
  (Q4 p1 p2 p3).bind fun v1=>some (decide (v1≥0))
instance slices_ContainsFunc_Pass_Pass_world_Present_1bb_le (p1:(List Pass))(p2:Int)(p3:WorldSpan):Le (O4 p1 p2 p3) (H5 p1 p2 p3):=by unfold O4 H5;infer_instance
def B2p (p1:Map)(p2:Agent)(p3:Agent)(p4:Int):Option Bool:=
  (B1l p2).bind fun v1=>((cond (!(!v1)) (B1l p3) (some default))).bind fun v2=>cond ((!v1)||(!v2)) (some false) ((A5r p2).bind fun v3=>(B48 p1 p2.Route).bind fun v4=>(O4 v4 p4 (WorldSpan.mk v3.from_ p3.S)).bind fun v5=>some v5)
instance world_Present_le (p1:Map)(p2:Agent)(p3:Agent)(p4:Int):Le (B2p p1 p2 p3 p4) (A7z p1 p2 p3 p4):=by unfold B2p A7z;infer_instance
def W7 (p1:WorldScene)(p2:Int)(p3:Int):Option Bool:=
  (A7j p1.before p2).bind fun v1=>((cond v1 (D4 p1.before.Agents p2) (some default))).bind fun v2=>((cond v1 (D4 p1.after.Agents p2) (some default))).bind fun v3=>((cond v1 (B2p p1.m v2 v3 p3) (some default))).bind fun v4=>some (v1&&v4)
instance world_scene_present_b_le (p1:WorldScene)(p2:Int)(p3:Int):Le (W7 p1 p2 p3) (R4 p1 p2 p3):=by unfold W7 R4;infer_instance
def L9 (p1:(List Stay))(p2:Stay)(x1:(Int×Int)):Option (Stp (Int×Int) Int):=
  cond (decide (x1.1<x1.2)) ((D4 p1 (w64 ((IntKind.wrap .u64 (w64 (x1.1+x1.2))).fdiv (2^ (min (1:Int).toNat (IntKind.bits .u64)))))).bind fun v1=>(A9k v1 p2).bind fun v2=>cond (decide (v2<0)) (some (.go ((w64 ((w64 ((IntKind.wrap .u64 (w64 (x1.1+x1.2))).fdiv (2^ (min (1:Int).toNat (IntKind.bits .u64)))))+1)),x1.2))) (some (.go (x1.1,(w64 ((IntKind.wrap .u64 (w64 (x1.1+x1.2))).fdiv (2^ (min (1:Int).toNat (IntKind.bits .u64))))))))) (some (.out x1.1))
instance slices_BinarySearchFunc_Stay_Stay_Stay_world_order_l1_le (p1:(List Stay))(p2:Stay)(x1:(Int×Int)):Le (L9 p1 p2 x1) (F6 p1 p2 x1):=by unfold L9 F6;repeat' first|infer_instance|with_reducible refine Le.bind (h:= ?_) (hf:=fun _=> ?_)|with_reducible refine Le.cond (h:= ?_) (h':= ?_)|with_reducible refine Le.thenS (h:= ?_) (hf:=fun _=> ?_) (hg:=fun _=> ?_)
def G2 (p1:(List Stay))(p2:Stay):Option (Int×Bool):=
  (U6 (L9 p1 p2) (0,(p1.length:Int))).bind fun y1=>((cond (decide (y1< (p1.length:Int))) (D4 p1 y1) (some default))).bind fun v3=>((cond (decide (y1< (p1.length:Int))) (A9k v3 p2) (some default))).bind fun v4=>some (y1,((decide (y1< (p1.length:Int)))&& (v4==0)))
instance slices_BinarySearchFunc_Stay_Stay_Stay_world_order_le (p1:(List Stay))(p2:Stay):Le (G2 p1 p2) (D0 p1 p2):=by unfold G2 D0;repeat' first|infer_instance|with_reducible refine Le.bind (h:= ?_) (hf:=fun _=> ?_)|with_reducible refine Le.cond (h:= ?_) (h':= ?_)|with_reducible refine Le.thenS (h:= ?_) (hf:=fun _=> ?_) (hg:=fun _=> ?_)
def B1n (p1:Part)(p2:Int):Option Bool:=
  some (p1.Lane_==p2)
instance roads_part_1_b_le (p1:Part)(p2:Int):Le (B1n p1 p2) (A6o p1 p2):=by unfold B1n A6o;infer_instance
def Q8 (p1:(List Part))(p2:Int)(x1:Int):Option (Stp Int (Sum Unit Int)):=
  cond (decide (x1< (p1.length:Int))) ((D4 p1 x1).bind fun v1=>(B1n v1 p2).bind fun v2=>cond v2 (some (.out (.inr x1))) (some (.go (w64 (x1+1))))) (some (.out (.inl ())))
instance slices_IndexFunc_Part_Part_roads_part_1b_l1_le (p1:(List Part))(p2:Int)(x1:Int):Le (Q8 p1 p2 x1) (J4 p1 p2 x1):=by unfold Q8 J4;infer_instance
def T4 (p1:(List Part))(p2:Int):Option Int:=
  thenS (U6 (Q8 p1 p2) 0) (fun _=>some (-1)) (fun r=>some r)
instance slices_IndexFunc_Part_Part_roads_part_1b_le (p1:(List Part))(p2:Int):Le (T4 p1 p2) (K6 p1 p2):=by unfold T4 K6;infer_instance
def B70 (p1:Zone)(p2:Int):Option (Part×Bool):=
  (T4 p1.Parts p2).bind fun v1=>cond (decide (v1<0)) (some ((Part.mk 0 0 0 0),false)) ((D4 p1.Parts v1).bind fun v2=>some (v2,true))
instance roads_part_le (p1:Zone)(p2:Int):Le (B70 p1 p2) (B3f p1 p2):=by unfold B70 B3f;infer_instance
def A8d (p1:Int)(p2:Map)(p3:Int):Option Bool:=
  (D4 p2.Zones p3).bind fun v1=>(B70 v1 p1).bind fun v2=>some v2.2
instance roads_Entry_1_b_b_le (p1:Int)(p2:Map)(p3:Int):Le (A8d p1 p2 p3) (A3i p1 p2 p3):=by unfold A8d A3i;infer_instance
def Q9 (p1:(List Int))(p2:Map)(p3:Int)(x1:Int):Option (Stp Int (Sum Unit Int)):=
  cond (decide (x1< (p1.length:Int))) ((D4 p1 x1).bind fun v1=>(A8d v1 p2 p3).bind fun v2=>cond v2 (some (.out (.inr x1))) (some (.go (w64 (x1+1))))) (some (.out (.inl ())))
instance slices_IndexFunc_int_int_roads_Entry_1bb_l1_le (p1:(List Int))(p2:Map)(p3:Int)(x1:Int):Le (Q9 p1 p2 p3 x1) (J5 p1 p2 p3 x1):=by unfold Q9 J5;infer_instance
def T5 (p1:(List Int))(p2:Map)(p3:Int):Option Int:=
  thenS (U6 (Q9 p1 p2 p3) 0) (fun _=>some (-1)) (fun r=>some r)
instance slices_IndexFunc_int_int_roads_Entry_1bb_le (p1:(List Int))(p2:Map)(p3:Int):Le (T5 p1 p2 p3) (K7 p1 p2 p3):=by unfold T5 K7;infer_instance
def B54 (p1:Map)(p2:(List Int))(p3:Int):Option Int:=
  (A68 p1 p2).bind fun v1=>cond ((decide (p3<0))||(decide (p3≥(p1.Zones.length:Int)))) (some (-1)) ((T5 v1.lanes p1 p3).bind fun v2=>some v2)
instance roads_Entry_le (p1:Map)(p2:(List Int))(p3:Int):Le (B54 p1 p2 p3) (B12 p1 p2 p3):=by unfold B54 B12;infer_instance
def A9m (p1:Map)(p2:(List Int))(p3:Int):Option Int:=
  (B54 p1 p2 p3).bind fun v1=>cond (decide (v1≥0)) ((D4 p2 v1).bind fun v2=>some v2) (some (-1))
instance world_entry_le (p1:Map)(p2:(List Int))(p3:Int):Le (A9m p1 p2 p3) (A6z p1 p2 p3):=by unfold A9m A6z;infer_instance
def B55 (p1:Map)(p2:Int):Option Bool:=
  ((cond ((decide (p2≥0))&& (decide (p2< (p1.Lanes.length:Int)))) (A7i p1) (some default))).bind fun v1=>some (((decide (p2≥0))&& (decide (p2< (p1.Lanes.length:Int))))&& (v1==0))
instance roads_is_le (p1:Map)(p2:Int):Le (B55 p1 p2) (B08 p1 p2):=by unfold B55 B08;infer_instance
def B1o (p1:Signal)(p2:Int)(x2:(Int×Int)):Option (Stp (Int×Int) (Sum Unit Bool)):=
  cond (decide (x2.2< (p1.Phases.length:Int))) ((D4 p1.Phases x2.2).bind fun v5=>cond (decide (x2.1≥v5.Ticks)) (some (.go ((w64 (x2.1 - v5.Ticks)),(w64 (x2.2+1))))) ((Y5 v5.Green p2).bind fun v6=>some (.out (.inr v6)))) (some (.out (.inl ())))
instance signs_Green_l2_le (p1:Signal)(p2:Int)(x2:(Int×Int)):Le (B1o p1 p2 x2) (X1 p1 p2 x2):=by unfold B1o X1;infer_instance
def B1p (p1:Signal)(x1:(Int×Int)):Option (Stp (Int×Int) Int):=
  cond (decide (x1.2< (p1.Phases.length:Int))) ((D4 p1.Phases x1.2).bind fun v1=>some (.go ((w64 (x1.1+v1.Ticks)),(w64 (x1.2+1))))) (some (.out x1.1))
instance signs_Green_l1_le (p1:Signal)(x1:(Int×Int)):Le (B1p p1 x1) (Z1 p1 x1):=by unfold B1p Z1;infer_instance
def B2c (p1:Signal)(p2:Int)(p3:Int):Option Bool:=
  (U6 (B1p p1) (0,0)).bind fun y1=>(C7a p1.Offset y1).bind fun v2=>(C7a p3 y1).bind fun v3=>(C7a (w64 (v2+v3)) y1).bind fun v4=>thenS (U6 (B1o p1 p2) (v4,0)) (fun _=>some false) (fun r=>some r)
instance signs_Green_le (p1:Signal)(p2:Int)(p3:Int):Le (B2c p1 p2 p3) (A5c p1 p2 p3):=by unfold B2c A5c;infer_instance
def B56 (p1:Map)(p2:Int)(p3:Int)(p4:Int):Option Bool:=
  ((cond (((decide (p4≥0))&& (decide (p2≥0)))&& (decide (p2< (p1.Signals.length:Int)))) (B55 p1 p3) (some default))).bind fun v1=>((cond ((((decide (p4≥0))&& (decide (p2≥0)))&& (decide (p2< (p1.Signals.length:Int))))&&v1) (D4 p1.Signals p2) (some default))).bind fun v2=>((cond ((((decide (p4≥0))&& (decide (p2≥0)))&& (decide (p2< (p1.Signals.length:Int))))&&v1) (B2c v2 p3 p4) (some default))).bind fun v3=>some (((((decide (p4≥0))&& (decide (p2≥0)))&& (decide (p2< (p1.Signals.length:Int))))&&v1)&&v3)
instance roads_Green_le (p1:Map)(p2:Int)(p3:Int)(p4:Int):Le (B56 p1 p2 p3 p4) (B13 p1 p2 p3 p4):=by unfold B56 B13;repeat' first|infer_instance|with_reducible refine Le.bind (h:= ?_) (hf:=fun _=> ?_)|with_reducible refine Le.cond (h:= ?_) (h':= ?_)|with_reducible refine Le.thenS (h:= ?_) (hf:=fun _=> ?_) (hg:=fun _=> ?_)
def B1q (p1:Part)(p2:Int):Option Bool:=
  some (p1.Lane_==p2)
instance world_Rank_1_b_le (p1:Part)(p2:Int):Le (B1q p1 p2) (A6p p1 p2):=by unfold B1q A6p;infer_instance
def R0 (p1:(List Part))(p2:Int)(x1:Int):Option (Stp Int (Sum Unit Int)):=
  cond (decide (x1< (p1.length:Int))) ((D4 p1 x1).bind fun v1=>(B1q v1 p2).bind fun v2=>cond v2 (some (.out (.inr x1))) (some (.go (w64 (x1+1))))) (some (.out (.inl ())))
instance slices_IndexFunc_Part_Part_world_Rank_1b_l1_le (p1:(List Part))(p2:Int)(x1:Int):Le (R0 p1 p2 x1) (J6 p1 p2 x1):=by unfold R0 J6;infer_instance
def T6 (p1:(List Part))(p2:Int):Option Int:=
  thenS (U6 (R0 p1 p2) 0) (fun _=>some (-1)) (fun r=>some r)
instance slices_IndexFunc_Part_Part_world_Rank_1b_le (p1:(List Part))(p2:Int):Le (T6 p1 p2) (K8 p1 p2):=by unfold T6 K8;infer_instance
def B49 (p1:Map)(p2:Agent)(p3:Int)(p4:Int):Option Int:=
  (A9m p1 p2.Route p3).bind fun v1=>cond (decide (v1<0)) (some 0) ((D4 p1.Zones p3).bind fun v2=>((cond (decide (v2.Signal_>0)) (B56 p1 (w64 (v2.Signal_ - 1)) v1 p4) (some default))).bind fun v3=>cond ((decide (v2.Signal_>0))&&v3) (some 2) (cond (decide (v2.Signal_>0)) (some 0) ((T6 v2.Parts v1).bind fun v4=>(D4 v2.Parts v4).bind fun v5=>some v5.Rank)))
instance world_Rank_le (p1:Map)(p2:Agent)(p3:Int)(p4:Int):Le (B49 p1 p2 p3 p4) (B0i p1 p2 p3 p4):=by unfold B49 B0i;repeat' first|infer_instance|with_reducible refine Le.bind (h:= ?_) (hf:=fun _=> ?_)|with_reducible refine Le.cond (h:= ?_) (h':= ?_)|with_reducible refine Le.thenS (h:= ?_) (hf:=fun _=> ?_) (hg:=fun _=> ?_)
def A48 (p1:WorldScene)(x1:(Int× (List Stay)))(v1:Agent)(x2:(Int× (List Stay))):Option (Stp (Int× (List Stay)) (List Stay)):=
  cond (decide (x2.1< (p1.m.Zones.length:Int))) ((W7 (WorldScene.mk p1.m p1.before (State.mk p1.after.Tick p1.after.Agents x2.2) p1.acts p1.crashes) x1.1 x2.1).bind fun v2=>cond (!v2) (some (.go ((w64 (x2.1+1)),x2.2))) ((G2 p1.before.In (Stay.mk x1.1 x2.1 p1.before.Tick 0)).bind fun v3=>(cond v3.2 ((D4 p1.before.In v3.1).bind fun v4=>some v4) ((B49 p1.m v1 x2.1 p1.before.Tick).bind fun v5=>some (Stay.mk x1.1 x2.1 p1.before.Tick v5))).bind fun y2=>(A7p x2.2 [y2]).bind fun v6=>some (.go ((w64 (x2.1+1)),v6)))) (some (.out x2.2))
instance world_scene_stays_o_l2_le (p1:WorldScene)(x1:(Int× (List Stay)))(v1:Agent)(x2:(Int× (List Stay))):Le (A48 p1 x1 v1 x2) (A06 p1 x1 v1 x2):=by unfold A48 A06;repeat' first|infer_instance|with_reducible refine Le.bind (h:= ?_) (hf:=fun _=> ?_)|with_reducible refine Le.cond (h:= ?_) (h':= ?_)|with_reducible refine Le.thenS (h:= ?_) (hf:=fun _=> ?_) (hg:=fun _=> ?_)
def A49 (p1:WorldScene)(x1:(Int× (List Stay))):Option (Stp (Int× (List Stay)) WorldScene):=
  cond (decide (x1.1< (p1.before.Agents.length:Int))) ((D4 p1.before.Agents x1.1).bind fun v1=>(U6 (A48 p1 x1 v1) (0,x1.2)).bind fun y1=>some (.go ((w64 (x1.1+1)),y1))) (some (.out ((WorldScene.mk p1.m p1.before (State.mk p1.after.Tick p1.after.Agents x1.2) p1.acts p1.crashes))))
instance world_scene_stays_o_l1_le (p1:WorldScene)(x1:(Int× (List Stay))):Le (A49 p1 x1) (A07 p1 x1):=by unfold A49 A07;repeat' first|infer_instance|with_reducible refine Le.bind (h:= ?_) (hf:=fun _=> ?_)|with_reducible refine Le.cond (h:= ?_) (h':= ?_)|with_reducible refine Le.thenS (h:= ?_) (hf:=fun _=> ?_) (hg:=fun _=> ?_)
def A6k (p1:WorldScene):Option WorldScene:=
  U6 (A49 p1) (0,[])
instance world_scene_stays_o_le (p1:WorldScene):Le (A6k p1) (A1u p1):=by unfold A6k A1u;infer_instance
def C55 (s:State)(i:Nat):Nat→Nat→Option (List (Int×Int))
  |0,_=>some []
  |k+1,j=>(A7j s i).bind fun a=>(A7j s j).bind fun b=>(C55 s i k (j+1)).bind fun l=>some (cond (a&&b) (((i:Int),(j:Int))::l) l)
instance pairsJ_le (s:State)(i:Nat): ∀(k j:Nat),Le (C55 s i k j) (B9t s i k j)
  |0,j=>Le.refl _
  |k+1,j=>by
   rw [B9t,C55]
   have:=fun j=>pairsJ_le s i k j
   infer_instance
def C56 (s:State)(n:Nat):Nat→Nat→Option (List (Int×Int))
  |0,_=>some []
  |k+1,i=>(C55 s i (n - (i+1)) (i+1)).bind fun a=>(C56 s n k (i+1)).bind fun b=>some (a++b)
instance pairsI_le (s:State)(n:Nat): ∀(k i:Nat),Le (C56 s n k i) (C1y s n k i)
  |0,i=>Le.refl _
  |k+1,i=>by
   rw [C1y,C56]
   have:=fun i=>pairsI_le s n k i
   infer_instance
def C57 (s:State):Option (List (Int×Int)):=if s.Agents.length≤1000000 then C56 s s.Agents.length s.Agents.length 0 else none
instance pairsC_le (s:State):Le (C57 s) (C3o s):=by unfold C57 C3o;infer_instance
def A2a (p1:WorldSpan)(p2:Int):Option WorldSpan:=
  some (WorldSpan.mk (w64 (p1.from_ - p2)) (w64 (p1.to - p2)))
instance world_span_less_le (p1:WorldSpan)(p2:Int):Le (A2a p1 p2) (A0o p1 p2):=by unfold A2a A0o;infer_instance
def A8e (p1:Map)(p2:Int):Option Int:=
  (B55 p1 p2).bind fun v1=>cond (!v1) (some 0) ((A8t p1 p2).bind fun v2=>some v2)
instance roads_Length_le (p1:Map)(p2:Int):Le (A8e p1 p2) (A2h p1 p2):=by unfold A8e A2h;infer_instance
def A8f (p1:WorldSpan)(p2:WorldSpan):Option WorldSpan:=
  some (WorldSpan.mk (mm2 true p1.from_ p2.from_) (mm2 false p1.to p2.to))
instance world_span_and_le (p1:WorldSpan)(p2:WorldSpan):Le (A8f p1 p2) (A4i p1 p2):=by unfold A8f A4i;infer_instance
def A69 (p1:WorldSpan):Option Bool:=
  some (decide (p1.from_>p1.to))
instance world_span_empty_le (p1:WorldSpan):Le (A69 p1) (A27 p1):=by unfold A69 A27;infer_instance
def B2q (p1:Map)(p2:Agent)(v2:(List Int))(x1:((List Span)×Int)):Option (Stp ((List Span)×Int) (List Span)):=
  cond (decide (x1.2< (v2.length:Int))) ((D4 v2 x1.2).bind fun v3=>(D4 p2.Route x1.2).bind fun v4=>(A5r p2).bind fun v5=>(A2a v5 v3).bind fun v6=>(A8e p1 v4).bind fun v7=>(A8f v6 (WorldSpan.mk 0 v7)).bind fun v8=>(A69 v8).bind fun v9=>cond (!v9) ((A7p x1.1 [(Span.mk v4 v8.from_ v8.to)]).bind fun v10=>some (.go (v10,(w64 (x1.2+1))))) (some (.go (x1.1,(w64 (x1.2+1)))))) (some (.out x1.1))
instance world_Body_l1_le (p1:Map)(p2:Agent)(v2:(List Int))(x1:((List Span)×Int)):Le (B2q p1 p2 v2 x1) (A80 p1 p2 v2 x1):=by unfold B2q A80;repeat' first|infer_instance|with_reducible refine Le.bind (h:= ?_) (hf:=fun _=> ?_)|with_reducible refine Le.cond (h:= ?_) (h':= ?_)|with_reducible refine Le.thenS (h:= ?_) (hf:=fun _=> ?_) (hg:=fun _=> ?_)
def B4a (p1:Map)(p2:Agent):Option (List Span):=
  (B1l p2).bind fun v1=>cond (!v1) (some []) ((A8c p1 p2.Route).bind fun v2=>(U6 (B2q p1 p2 v2) ([],0)).bind fun y1=>some y1)
instance world_Body_le (p1:Map)(p2:Agent):Le (B4a p1 p2) (B0j p1 p2):=by unfold B4a B0j;infer_instance
def A5s (p1:Span)(p2:Span):Option Bool:=
  ((cond (p2.Lane_==p1.Lane_) (A8f (WorldSpan.mk p2.From p2.To) (WorldSpan.mk p1.From p1.To)) (some default))).bind fun v1=>((cond (p2.Lane_==p1.Lane_) (A69 v1) (some default))).bind fun v2=>some ((p2.Lane_==p1.Lane_)&& (!v2))
instance world_Touching_1_1_b_le (p1:Span)(p2:Span):Le (A5s p1 p2) (A15 p1 p2):=by unfold A5s A15;infer_instance
def N4 (p1:(List Span))(p2:Span)(x1:Int):Option (Stp Int (Sum Unit Int)):=
  cond (decide (x1< (p1.length:Int))) ((D4 p1 x1).bind fun v1=>(A5s v1 p2).bind fun v2=>cond v2 (some (.out (.inr x1))) (some (.go (w64 (x1+1))))) (some (.out (.inl ())))
instance slices_IndexFunc_Span_Span_world_Touching_1_1b_l1_le (p1:(List Span))(p2:Span)(x1:Int):Le (N4 p1 p2 x1) (G5 p1 p2 x1):=by unfold N4 G5;infer_instance
def P0 (p1:(List Span))(p2:Span):Option Int:=
  thenS (U6 (N4 p1 p2) 0) (fun _=>some (-1)) (fun r=>some r)
instance slices_IndexFunc_Span_Span_world_Touching_1_1b_le (p1:(List Span))(p2:Span):Le (P0 p1 p2) (H8 p1 p2):=by unfold P0 H8;infer_instance
def N5 (p1:(List Span))(p2:Span):Option Bool:=
  (P0 p1 p2).bind fun v1=>some (decide (v1≥0))
instance slices_ContainsFunc_Span_Span_world_Touching_1_1b_le (p1:(List Span))(p2:Span):Le (N5 p1 p2) (G6 p1 p2):=by unfold N5 G6;infer_instance
def A76 (p1:Span)(p2:(List Span)):Option Bool:=
  (N5 p2 p1).bind fun v1=>some v1
instance world_Touching_1_b_le (p1:Span)(p2:(List Span)):Le (A76 p1 p2) (A2i p1 p2):=by unfold A76 A2i;infer_instance
def O5 (p1:(List Span))(p2:(List Span))(x1:Int):Option (Stp Int (Sum Unit Int)):=
  cond (decide (x1< (p1.length:Int))) ((D4 p1 x1).bind fun v1=>(A76 v1 p2).bind fun v2=>cond v2 (some (.out (.inr x1))) (some (.go (w64 (x1+1))))) (some (.out (.inl ())))
instance slices_IndexFunc_Span_Span_world_Touching_1b_l1_le (p1:(List Span))(p2:(List Span))(x1:Int):Le (O5 p1 p2 x1) (H6 p1 p2 x1):=by unfold O5 H6;infer_instance
def Q5 (p1:(List Span))(p2:(List Span)):Option Int:=
  thenS (U6 (O5 p1 p2) 0) (fun _=>some (-1)) (fun r=>some r)
instance slices_IndexFunc_Span_Span_world_Touching_1b_le (p1:(List Span))(p2:(List Span)):Le (Q5 p1 p2) (J1 p1 p2):=by unfold Q5 J1;infer_instance
def O6 (p1:(List Span))(p2:(List Span)):Option Bool:=
  (Q5 p1 p2).bind fun v1=>some (decide (v1≥0))
instance slices_ContainsFunc_Span_Span_world_Touching_1b_le (p1:(List Span))(p2:(List Span)):Le (O6 p1 p2) (H7 p1 p2):=by unfold O6 H7;infer_instance
def B1r (p1:Map)(p2:Agent)(p3:Agent):Option Bool:=
  (B4a p1 p3).bind fun v1=>(B4a p1 p2).bind fun v2=>(O6 v2 v1).bind fun v3=>some v3
instance world_Touching_le (p1:Map)(p2:Agent)(p3:Agent):Le (B1r p1 p2 p3) (A6q p1 p2 p3):=by unfold B1r A6q;infer_instance
def A32 (p1:WorldScene)(p2:Int)(p3:Int)(p4:Int):Option Bool:=
  (W7 p1 p2 p4).bind fun v1=>((cond v1 (W7 p1 p3 p4) (some default))).bind fun v2=>((cond (v1&&v2) (D4 p1.before.Agents p2) (some default))).bind fun v3=>((cond (v1&&v2) (A9m p1.m v3.Route p4) (some default))).bind fun v4=>((cond (v1&&v2) (D4 p1.before.Agents p3) (some default))).bind fun v5=>((cond (v1&&v2) (A9m p1.m v5.Route p4) (some default))).bind fun v6=>some ((v1&&v2)&& (v4 !=v6))
instance world_scene_clash_b_le (p1:WorldScene)(p2:Int)(p3:Int)(p4:Int):Le (A32 p1 p2 p3 p4) (A0a p1 p2 p3 p4):=by unfold A32 A0a;repeat' first|infer_instance|with_reducible refine Le.bind (h:= ?_) (hf:=fun _=> ?_)|with_reducible refine Le.cond (h:= ?_) (h':= ?_)|with_reducible refine Le.thenS (h:= ?_) (hf:=fun _=> ?_) (hg:=fun _=> ?_)
def B4b (p1:Map)(v5:WorldScene)(a1:(Int×Int))(x2:Int):Option (Stp Int (Sum Unit (State×Int))):=
  cond (decide (x2< (p1.Zones.length:Int))) ((A32 v5 a1.1 a1.2 x2).bind fun v10=>cond v10 (some (.out (.inr ((State.mk 0 [] []),12)))) (some (.go (w64 (x2+1))))) (some (.out (.inl ())))
instance world_New_l3_le (p1:Map)(v5:WorldScene)(a1:(Int×Int))(x2:Int):Le (B4b p1 v5 a1 x2) (A9b p1 v5 a1 x2):=by unfold B4b A9b;infer_instance
def B4c (p1:Map)(p2:(List Agent))(v5:WorldScene)(x1:Unit)(a1:(Int×Int)):Option (Stp Unit (Sum Unit (State×Int))):=
  (D4 p2 a1.1).bind fun v7=>(D4 p2 a1.2).bind fun v8=>(B1r p1 v7 v8).bind fun v9=>cond v9 (some (.out (.inr ((State.mk 0 [] []),12)))) (thenS (U6 (B4b p1 v5 a1) 0) (fun _=>some (.go ())) (fun r=>some (.out (.inr r))))
instance world_New_l2_le (p1:Map)(p2:(List Agent))(v5:WorldScene)(x1:Unit)(a1:(Int×Int)):Le (B4c p1 p2 v5 x1 a1) (A9c p1 p2 v5 x1 a1):=by unfold B4c A9c;infer_instance
def B4d:Option Unit:=
  some ()
instance world_New_i1_le:Le (B4d) (B28):=by unfold B4d B28;infer_instance
def B9c (p1:Map)(p2:(List Agent)):Option (State×Int):=
  (B41 (State.mk 0 p2 [])).bind fun v1=>(A9l p1 v1).bind fun v2=>cond (v2 !=0) (some ((State.mk 0 [] []),v2)) ((Q7 p2).bind fun v3=>cond v3 (some ((State.mk 0 [] []),10)) ((B41 v1).bind fun v4=>(A6k (WorldScene.mk p1 v1 v4 [] [])).bind fun v5=>(B4d).bind fun y1=>thenS ((C57 v5.before).bind fun v6=>loopL (B4c p1 p2 v5) (fun (x1:Unit)=> .inl ()) v6 ()) (fun _=>some (v5.after,0)) (fun r=>some r)))
instance world_New_le (p1:Map)(p2:(List Agent)):Le (B9c p1 p2) (B4y p1 p2):=by unfold B9c B4y;repeat' first|infer_instance|with_reducible refine Le.bind (h:= ?_) (hf:=fun _=> ?_)|with_reducible refine Le.cond (h:= ?_) (h':= ?_)|with_reducible refine Le.thenS (h:= ?_) (hf:=fun _=> ?_) (hg:=fun _=> ?_)
def B01 (p1:Int):Option Int:=
  (cond (decide (p1≥4294967296)) (some ((p1.fdiv (2^ (min (32:Int).toNat (IntKind.bits .u64)))),32)) (some (p1,0))).bind fun y1=>(cond (decide (y1.1≥65536)) (some ((y1.1.fdiv (2^ (min (16:Int).toNat (IntKind.bits .u64)))),(w64 (y1.2+16)))) (some (y1.1,y1.2))).bind fun y2=>cond (decide (y2.1≥256)) ((D9y (ByteArray.mk #[0,1,2,2,3,3,3,3,4,4,4,4,4,4,4,4,5,5,5,5,5,5,5,5,5,5,5,5,5,5,5,5,6,6,6,6,6,6,6,6,6,6,6,6,6,6,6,6,6,6,6,6,6,6,6,6,6,6,6,6,6,6,6,6,7,7,7,7,7,7,7,7,7,7,7,7,7,7,7,7,7,7,7,7,7,7,7,7,7,7,7,7,7,7,7,7,7,7,7,7,7,7,7,7,7,7,7,7,7,7,7,7,7,7,7,7,7,7,7,7,7,7,7,7,7,7,7,7,8,8,8,8,8,8,8,8,8,8,8,8,8,8,8,8,8,8,8,8,8,8,8,8,8,8,8,8,8,8,8,8,8,8,8,8,8,8,8,8,8,8,8,8,8,8,8,8,8,8,8,8,8,8,8,8,8,8,8,8,8,8,8,8,8,8,8,8,8,8,8,8,8,8,8,8,8,8,8,8,8,8,8,8,8,8,8,8,8,8,8,8,8,8,8,8,8,8,8,8,8,8,8,8,8,8,8,8,8,8,8,8,8,8,8,8,8,8,8,8,8,8,8,8,8,8,8,8]) (IntKind.wrap .u8 (y2.1.fdiv (2^ (min (8:Int).toNat (IntKind.bits .u64)))))).bind fun v1=>some (w64 ((w64 (y2.2+8))+ (w64 v1)))) ((D9y (ByteArray.mk #[0,1,2,2,3,3,3,3,4,4,4,4,4,4,4,4,5,5,5,5,5,5,5,5,5,5,5,5,5,5,5,5,6,6,6,6,6,6,6,6,6,6,6,6,6,6,6,6,6,6,6,6,6,6,6,6,6,6,6,6,6,6,6,6,7,7,7,7,7,7,7,7,7,7,7,7,7,7,7,7,7,7,7,7,7,7,7,7,7,7,7,7,7,7,7,7,7,7,7,7,7,7,7,7,7,7,7,7,7,7,7,7,7,7,7,7,7,7,7,7,7,7,7,7,7,7,7,7,8,8,8,8,8,8,8,8,8,8,8,8,8,8,8,8,8,8,8,8,8,8,8,8,8,8,8,8,8,8,8,8,8,8,8,8,8,8,8,8,8,8,8,8,8,8,8,8,8,8,8,8,8,8,8,8,8,8,8,8,8,8,8,8,8,8,8,8,8,8,8,8,8,8,8,8,8,8,8,8,8,8,8,8,8,8,8,8,8,8,8,8,8,8,8,8,8,8,8,8,8,8,8,8,8,8,8,8,8,8,8,8,8,8,8,8,8,8,8,8,8,8,8,8,8,8,8,8]) (IntKind.wrap .u8 y2.1)).bind fun v2=>some (w64 (y2.2+ (w64 v2))))
instance math_bits_Len64_le (p1:Int):Le (B01 p1) (A5d p1):=by unfold B01 A5d;repeat' first|infer_instance|with_reducible refine Le.bind (h:= ?_) (hf:=fun _=> ?_)|with_reducible refine Le.cond (h:= ?_) (h':= ?_)|with_reducible refine Le.thenS (h:= ?_) (hf:=fun _=> ?_) (hg:=fun _=> ?_)
def A93 (p1:Int):Option Int:=
  (B01 p1).bind fun v1=>some v1
instance math_bits_Len_le (p1:Int):Le (A93 p1) (A2j p1):=by unfold A93 A2j;infer_instance
def B1s (p1:Int)(p2:Int):Option Bool:=
  (A29 p1).bind fun v1=>((cond v1 (A29 p2) (some default))).bind fun v2=>some ((v1&& (!v2))||(decide (p1<p2)))
instance cmp_Less_int64_le (p1:Int)(p2:Int):Le (B1s p1 p2) (A2w p1 p2):=by unfold B1s A2w;infer_instance
def U9 (p2:Int)(x2:(Int× (List Int))):Option (Stp (Int× (List Int)) (List Int)):=
  ((cond (decide (x2.1>p2)) (D4 x2.2 x2.1) (some default))).bind fun v1=>((cond (decide (x2.1>p2)) (D4 x2.2 (w64 (x2.1 - 1))) (some default))).bind fun v2=>((cond (decide (x2.1>p2)) (B1s v1 v2) (some default))).bind fun v3=>cond ((decide (x2.1>p2))&&v3) ((D4 x2.2 (w64 (x2.1 - 1))).bind fun v4=>(D4 x2.2 x2.1).bind fun v5=>(D4 x2.2 x2.1).bind fun v6=>(D4 (B79 x2.2 x2.1 v4) (w64 (x2.1 - 1))).bind fun v7=>some (.go ((w64 (x2.1 - 1)),(B79 (B79 x2.2 x2.1 v4) (w64 (x2.1 - 1)) v5)))) (some (.out x2.2))
instance slices_insertionSortOrdered_int64_a_l2_le (p2:Int)(x2:(Int× (List Int))):Le (U9 p2 x2) (C9 p2 x2):=by unfold U9 C9;repeat' first|infer_instance|with_reducible refine Le.bind (h:= ?_) (hf:=fun _=> ?_)|with_reducible refine Le.cond (h:= ?_) (h':= ?_)|with_reducible refine Le.thenS (h:= ?_) (hf:=fun _=> ?_) (hg:=fun _=> ?_)
def V0 (p2:Int)(p3:Int)(x1:(Int× (List Int))):Option (Stp (Int× (List Int)) (List Int)):=
  cond (decide (x1.1<p3)) ((U6 (U9 p2) (x1.1,x1.2)).bind fun y1=>some (.go ((w64 (x1.1+1)),y1))) (some (.out (x1.2)))
instance slices_insertionSortOrdered_int64_a_l1_le (p2:Int)(p3:Int)(x1:(Int× (List Int))):Le (V0 p2 p3 x1) (D6 p2 p3 x1):=by unfold V0 D6;infer_instance
def X2 (p1:(List Int))(p2:Int)(p3:Int):Option (List Int):=
  U6 (V0 p2 p3) ((w64 (p2+1)),p1)
instance slices_insertionSortOrdered_int64_a_le (p1:(List Int))(p2:Int)(p3:Int):Le (X2 p1 p2 p3) (G1 p1 p2 p3):=by unfold X2 G1;infer_instance
def Z8 (p1:(List Int))(x1:(Int×Int×Int×Bool×Bool)):Option (Stp (Int×Int×Int×Bool×Bool) (List Int)):=
  cond (decide ((w64 (x1.2.1 - x1.1))≤12)) ((X2 p1 x1.1 x1.2.1).bind fun v1=>some (.out (v1))) (cond (x1.2.2.1==0) (none) ((cond (!x1.2.2.2.1) (none) (some ())).bind fun _=>none))
instance slices_pdqsortOrdered_int64_a_l1_le (p1:(List Int))(x1:(Int×Int×Int×Bool×Bool)):Le (Z8 p1 x1) (M0 p1 x1):=by unfold Z8 M0;infer_instance
def A0q (p1:(List Int))(p2:Int)(p3:Int)(p4:Int):Option (List Int):=
  U6 (Z8 p1) (p2,p3,p4,true,true)
instance slices_pdqsortOrdered_int64_a_le (p1:(List Int))(p2:Int)(p3:Int)(p4:Int):Le (A0q p1 p2 p3 p4) (O1 p1 p2 p3 p4):=by unfold A0q O1;infer_instance
def A25 (p1:(List Int)):Option (List Int):=
  (A93 (IntKind.wrap .u64 (p1.length:Int))).bind fun v1=>(A0q p1 0 (p1.length:Int) v1).bind fun v2=>some v2
instance slices_Sort_int64_int64_a_le (p1:(List Int)):Le (A25 p1) (O8 p1):=by unfold A25 O8;infer_instance
def V1 (p1:Int)(x2:Int):Option (Stp Int Unit):=
  ((cond (decide (x2>p1)) ((none:Option Unit)) (some default))).bind fun v1=>cond ((decide (x2>p1))&&false) (none) (some (.out ()))
instance slices_insertionSortOrdered_int64_n_l2_le (p1:Int)(x2:Int):Le (V1 p1 x2) (L3 p1 x2):=by unfold V1 L3;infer_instance
def V2 (p1:Int)(p2:Int)(x1:Int):Option (Stp Int Unit):=
  cond (decide (x1<p2)) ((U6 (V1 p1) x1).bind fun _=>some (.go (w64 (x1+1)))) (some (.out (())))
instance slices_insertionSortOrdered_int64_n_l1_le (p1:Int)(p2:Int)(x1:Int):Le (V2 p1 p2 x1) (L4 p1 p2 x1):=by unfold V2 L4;infer_instance
def X3 (p1:Int)(p2:Int):Option Unit:=
  U6 (V2 p1 p2) (w64 (p1+1))
instance slices_insertionSortOrdered_int64_n_le (p1:Int)(p2:Int):Le (X3 p1 p2) (K4 p1 p2):=by unfold X3 K4;infer_instance
def Z9 (x1:(Int×Int×Int×Bool×Bool)):Option (Stp (Int×Int×Int×Bool×Bool) Unit):=
  cond (decide ((w64 (x1.2.1 - x1.1))≤12)) ((X3 x1.1 x1.2.1).bind fun v1=>some (.out (()))) (cond (x1.2.2.1==0) (none) ((cond (!x1.2.2.2.1) (none) (some ())).bind fun _=>none))
instance slices_pdqsortOrdered_int64_n_l1_le (x1:(Int×Int×Int×Bool×Bool)):Le (Z9 x1) (M1 x1):=by unfold Z9 M1;infer_instance
def A0r (p1:Int)(p2:Int)(p3:Int):Option Unit:=
  U6 (Z9) (p1,p2,p3,true,true)
instance slices_pdqsortOrdered_int64_n_le (p1:Int)(p2:Int)(p3:Int):Le (A0r p1 p2 p3) (O2 p1 p2 p3):=by unfold A0r O2;infer_instance
def A26:Option Unit:=
  (A93 (IntKind.wrap .u64 0)).bind fun v1=>(A0r 0 0 v1).bind fun v2=>some ()
instance slices_Sort_int64_int64_n_le:Le (A26) (O9):=by unfold A26 O9;infer_instance
def B4e (p1:Map)(p2:Int)(p3:Int)(v1:Zone)(x2:((List Int)×Int)):Option (Stp ((List Int)×Int) (List Int)):=
  cond (decide (x2.2< (v1.Parts.length:Int))) ((D4 v1.Parts x2.2).bind fun v2=>((cond (v2.Lane_==p2) (D4 p1.Signals (w64 (v1.Signal_ - 1))) (some default))).bind fun v3=>((cond (v2.Lane_==p2) (B2c v3 p2 p3) (some default))).bind fun v4=>cond ((v2.Lane_==p2)&& (!v4)) ((A7p x2.1 [v2.From]).bind fun v5=>some (.go (v5,(w64 (x2.2+1))))) (some (.go (x2.1,(w64 (x2.2+1)))))) (some (.out x2.1))
instance signs_Red_l2_le (p1:Map)(p2:Int)(p3:Int)(v1:Zone)(x2:((List Int)×Int)):Le (B4e p1 p2 p3 v1 x2) (A1e p1 p2 p3 v1 x2):=by unfold B4e A1e;repeat' first|infer_instance|with_reducible refine Le.bind (h:= ?_) (hf:=fun _=> ?_)|with_reducible refine Le.cond (h:= ?_) (h':= ?_)|with_reducible refine Le.thenS (h:= ?_) (hf:=fun _=> ?_) (hg:=fun _=> ?_)
def B4f (p1:Map)(p2:Int)(p3:Int)(x1:((List Int)×Int)):Option (Stp ((List Int)×Int) (List Int)):=
  cond (decide (x1.2< (p1.Zones.length:Int))) ((D4 p1.Zones x1.2).bind fun v1=>cond (v1.Signal_==0) (some (.go (x1.1,(w64 (x1.2+1))))) ((U6 (B4e p1 p2 p3 v1) (x1.1,0)).bind fun y2=>some (.go (y2,(w64 (x1.2+1)))))) (some (.out x1.1))
instance signs_Red_l1_le (p1:Map)(p2:Int)(p3:Int)(x1:((List Int)×Int)):Le (B4f p1 p2 p3 x1) (A1f p1 p2 p3 x1):=by unfold B4f A1f;infer_instance
def B9d (p1:Map)(p2:Int)(p3:Int):Option (List Int):=
  (U6 (B4f p1 p2 p3) ([],0)).bind fun y1=>cond (List.isEmpty y1) ((A26).bind fun v8=>some []) ((A25 y1).bind fun v6=>(B7s v6).bind fun v7=>some v7)
instance signs_Red_le (p1:Map)(p2:Int)(p3:Int):Le (B9d p1 p2 p3) (B16 p1 p2 p3):=by unfold B9d B16;infer_instance
def B9e (p1:Map)(p2:Int)(p3:Int):Option (List Int):=
  ((cond (!(decide (p3<0))) (B55 p1 p2) (some default))).bind fun v1=>cond ((decide (p3<0))||(!v1)) (some []) ((B9d p1 p2 p3).bind fun v2=>some v2)
instance roads_Red_le (p1:Map)(p2:Int)(p3:Int):Le (B9e p1 p2 p3) (A5e p1 p2 p3):=by unfold B9e A5e;infer_instance
def A6a (p1:Int)(p2:Agent)(p3:Int):Option Int:=
  some (mm2 true 0 (mm2 false (w64 (p2.V+p1)) p3))
instance world_move_1_b_b_le (p1:Int)(p2:Agent)(p3:Int):Le (A6a p1 p2 p3) (V3 p1 p2 p3):=by unfold A6a V3;infer_instance
def B1t (p1:Int)(p2:Int):Option Int:=
  cond ((decide (p1<1))||(decide (p2<1))) (some 0) ((D9v .i64 (w64 ((mm2 false p1 1000000) - 1)) (mm2 false p2 1000000)).bind fun v1=>some (w64 ((w64 (v1* (mm2 false p1 1000000))) - (w64 ((mm2 false p2 1000000)* (w64 ((w64 (v1* (w64 (v1+1)))).tdiv 2)))))))
instance world_Stop_le (p1:Int)(p2:Int):Le (B1t p1 p2) (A62 p1 p2):=by unfold B1t A62;infer_instance
def A4s (p1:Int)(p2:Int)(p3:Int)(p4:Int)(p5:Int):Option Bool:=
  ((cond (decide (p1>p2)) (B1t p3 p4) (some default))).bind fun v1=>((cond ((decide (p1>p2))&& (decide ((w64 (p2+v1))<p1))) (B1t p5 p4) (some default))).bind fun v2=>some (((decide (p1>p2))&& (decide ((w64 (p2+v1))<p1)))&& (decide ((w64 ((w64 (p2+p5))+v2))≥p1)))
instance world_keeps_1_b_b_b_b_le (p1:Int)(p2:Int)(p3:Int)(p4:Int)(p5:Int):Le (A4s p1 p2 p3 p4 p5) (Y4 p1 p2 p3 p4 p5):=by unfold A4s Y4;infer_instance
def N6 (p1:(List Int))(p2:Int)(p3:Int)(p4:Int)(p5:Int)(x1:Int):Option (Stp Int (Sum Unit Int)):=
  cond (decide (x1< (p1.length:Int))) ((D4 p1 x1).bind fun v1=>(A4s v1 p2 p3 p4 p5).bind fun v2=>cond v2 (some (.out (.inr x1))) (some (.go (w64 (x1+1))))) (some (.out (.inl ())))
instance slices_IndexFunc_int64_int64_world_keeps_1bbbb_l1_le (p1:(List Int))(p2:Int)(p3:Int)(p4:Int)(p5:Int)(x1:Int):Le (N6 p1 p2 p3 p4 p5 x1) (D2 p1 p2 p3 p4 p5 x1):=by unfold N6 D2;infer_instance
def P1 (p1:(List Int))(p2:Int)(p3:Int)(p4:Int)(p5:Int):Option Int:=
  thenS (U6 (N6 p1 p2 p3 p4 p5) 0) (fun _=>some (-1)) (fun r=>some r)
instance slices_IndexFunc_int64_int64_world_keeps_1bbbb_le (p1:(List Int))(p2:Int)(p3:Int)(p4:Int)(p5:Int):Le (P1 p1 p2 p3 p4 p5) (F5 p1 p2 p3 p4 p5):=by unfold P1 F5;infer_instance
def N7 (p1:(List Int))(p2:Int)(p3:Int)(p4:Int)(p5:Int):Option Bool:=
  (P1 p1 p2 p3 p4 p5).bind fun v1=>some (decide (v1≥0))
instance slices_ContainsFunc_int64_int64_world_keeps_1bbbb_le (p1:(List Int))(p2:Int)(p3:Int)(p4:Int)(p5:Int):Le (N7 p1 p2 p3 p4 p5) (F0 p1 p2 p3 p4 p5):=by unfold N7 F0;infer_instance
def B57 (p1:(List Int))(p2:Int)(p3:Int)(p4:Int)(p5:Int):Option Bool:=
  (N7 p1 p2 p3 p5 p4).bind fun v1=>some (!v1)
instance world_keeps_le (p1:(List Int))(p2:Int)(p3:Int)(p4:Int)(p5:Int):Le (B57 p1 p2 p3 p4 p5) (A70 p1 p2 p3 p4 p5):=by unfold B57 A70;infer_instance
def B2r (p2:Agent)(v1:(Int×Int))(v3:(Int×Int×Int))(v5:(List Int))(x1:Int):Option (Stp Int Int):=
  ((cond (decide (x1>(w64 (0 - v3.2.2)))) (A6a x1 p2 v3.1) (some default))).bind fun v6=>((cond (decide (x1>(w64 (0 - v3.2.2)))) (B57 v5 v1.2 p2.V v6 v3.2.2) (some default))).bind fun v7=>cond ((decide (x1>(w64 (0 - v3.2.2))))&& (!v7)) (some (.go (w64 (x1 - 1)))) (some (.out x1))
instance world_move_l1_le (p2:Agent)(v1:(Int×Int))(v3:(Int×Int×Int))(v5:(List Int))(x1:Int):Le (B2r p2 v1 v3 v5 x1) (Z7 p2 v1 v3 v5 x1):=by unfold B2r Z7;repeat' first|infer_instance|with_reducible refine Le.bind (h:= ?_) (hf:=fun _=> ?_)|with_reducible refine Le.cond (h:= ?_) (h':= ?_)|with_reducible refine Le.thenS (h:= ?_) (hf:=fun _=> ?_) (hg:=fun _=> ?_)
def B71 (p1:Map)(p2:Agent)(p3:Int)(p4:Int):Option Agent:=
  (B46 p1 p2).bind fun v1=>(D4 p1.Lanes v1.1).bind fun v2=>(A66 v2.Kind).bind fun v3=>((cond p2.Obey (A8e p1 v1.1) (some default))).bind fun v4=>(cond (p2.Obey&& (decide (v1.2≤v4))) ((B9e p1 v1.1 p3).bind fun v5=>(U6 (B2r p2 v1 v3 v5) (mm2 true (w64 (0 - v3.2.2)) (mm2 false p4 v3.2.1))).bind fun y2=>some y2) (some (mm2 true (w64 (0 - v3.2.2)) (mm2 false p4 v3.2.1)))).bind fun y1=>(A6a y1 p2 v3.1).bind fun v8=>(B47 p1 (Agent.mk p2.Route (w64 (p2.S+v8)) v8 p2.Len p2.Begin p2.Obey p2.Gone)).bind fun v9=>some (Agent.mk p2.Route (w64 (p2.S+v8)) v8 p2.Len p2.Begin p2.Obey v9)
instance world_move_le (p1:Map)(p2:Agent)(p3:Int)(p4:Int):Le (B71 p1 p2 p3 p4) (A63 p1 p2 p3 p4):=by unfold B71 A63;repeat' first|infer_instance|with_reducible refine Le.bind (h:= ?_) (hf:=fun _=> ?_)|with_reducible refine Le.cond (h:= ?_) (h':= ?_)|with_reducible refine Le.thenS (h:= ?_) (hf:=fun _=> ?_) (hg:=fun _=> ?_)
def B72 (p1:Map)(p2:State)(p3:Int)(p4:Int):Option Agent:=
  cond ((decide (p3<0))||(decide (p3≥(p2.Agents.length:Int)))) (some (Agent.mk [] 0 0 0 0 false false)) ((D4 p2.Agents p3).bind fun v1=>(A5l v1).bind fun v2=>(A7j p2 p3).bind fun v3=>((cond (!(!v3)) (A9l p1 p2) (some default))).bind fun v4=>cond ((!v3)||(v4 !=0)) (some v2) ((B71 p1 v2 p2.Tick p4).bind fun v5=>some v5))
instance world_Move_le (p1:Map)(p2:State)(p3:Int)(p4:Int):Le (B72 p1 p2 p3 p4) (A7e p1 p2 p3 p4):=by unfold B72 A7e;repeat' first|infer_instance|with_reducible refine Le.bind (h:= ?_) (hf:=fun _=> ?_)|with_reducible refine Le.cond (h:= ?_) (h':= ?_)|with_reducible refine Le.thenS (h:= ?_) (hf:=fun _=> ?_) (hg:=fun _=> ?_)
def A8v (p1:State)(x1:(Int×State)):Option (Stp (Int×State) State):=
  cond (decide (x1.1< (p1.Agents.length:Int))) ((D4 p1.Agents x1.1).bind fun v2=>(A5l v2).bind fun v3=>(A7p x1.2.Agents [v3]).bind fun v4=>some (.go ((w64 (x1.1+1)),(State.mk x1.2.Tick v4 x1.2.In)))) (some (.out x1.2))
instance world_Copy_me_l1_le (p1:State)(x1:(Int×State)):Le (A8v p1 x1) (A4d p1 x1):=by unfold A8v A4d;infer_instance
def B2s (p1:State):Option State:=
  (A19 p1.In).bind fun v1=>(U6 (A8v p1) (0,(State.mk p1.Tick [] v1))).bind fun y1=>some y1
instance world_Copy_me_le (p1:State):Le (B2s p1) (A81 p1):=by unfold B2s A81;infer_instance
def A33 (p1:WorldScene)(p2:Int)(p3:Int):Option (Int×Bool):=
  (D4 p1.before.Agents p2).bind fun v1=>(A2n v1.Route p3).bind fun v2=>cond (decide (v2<0)) (some (0,false)) ((A8c p1.m v1.Route).bind fun v3=>(D4 v3 v2).bind fun v4=>some (v4,true))
instance world_scene_start_b_le (p1:WorldScene)(p2:Int)(p3:Int):Le (A33 p1 p2 p3) (A0b p1 p2 p3):=by unfold A33 A0b;infer_instance
def A4a (p1:WorldScene)(p2:Int)(p3:Int):Option Stay:=
  (G2 p1.after.In (Stay.mk p2 p3 0 0)).bind fun v1=>(D4 p1.after.In v1.1).bind fun v2=>some v2
instance world_scene_stay_b_le (p1:WorldScene)(p2:Int)(p3:Int):Le (A4a p1 p2 p3) (A0v p1 p2 p3):=by unfold A4a A0v;infer_instance
def B1u (p1:Map)(p2:State)(p3:(List Int))(v2:State)(y2:(List Agent))(y5:(List Stay))(a1:(Int×Int))(x6:(Int× (List Crash))):Option (Stp (Int× (List Crash)) (List Crash)):=
  cond (decide (x6.1< (p1.Zones.length:Int))) ((A32 (WorldScene.mk p1 p2 (State.mk v2.Tick y2 y5) p3 x6.2) a1.1 a1.2 x6.1).bind fun v28=>cond (!v28) (some (.go ((w64 (x6.1+1)),x6.2))) ((A4a (WorldScene.mk p1 p2 (State.mk v2.Tick y2 y5) p3 x6.2) a1.1 x6.1).bind fun v29=>(A4a (WorldScene.mk p1 p2 (State.mk v2.Tick y2 y5) p3 x6.2) a1.2 x6.1).bind fun v30=>(A28 v29.Rank v30.Rank).bind fun v31=>(A52 v30.Since v29.Since).bind fun v32=>(B1i [v31,v32]).bind fun v33=>(cond (v33==(-1)) (some [a1.1]) (cond (v33==1) (some [a1.2]) (some [a1.1,a1.2]))).bind fun y17=>(A7p x6.2 [(Crash.mk p2.Tick a1.1 a1.2 (-1) x6.1 y17)]).bind fun v34=>some (.go ((w64 (x6.1+1)),v34)))) (some (.out x6.2))
instance world_Step_l12_le (p1:Map)(p2:State)(p3:(List Int))(v2:State)(y2:(List Agent))(y5:(List Stay))(a1:(Int×Int))(x6:(Int× (List Crash))):Le (B1u p1 p2 p3 v2 y2 y5 a1 x6) (A6r p1 p2 p3 v2 y2 y5 a1 x6):=by unfold B1u A6r;repeat' first|infer_instance|with_reducible refine Le.bind (h:= ?_) (hf:=fun _=> ?_)|with_reducible refine Le.cond (h:= ?_) (h':= ?_)|with_reducible refine Le.thenS (h:= ?_) (hf:=fun _=> ?_) (hg:=fun _=> ?_)
def B1v (p1:Map)(p2:State)(p3:(List Int))(v2:State)(y2:(List Agent))(y5:(List Stay))(a1:(Int×Int))(y12:(List Crash)):Option (List Crash):=
  (U6 (B1u p1 p2 p3 v2 y2 y5 a1) (0,y12)).bind fun y16=>some y16
instance world_Step_i11_le (p1:Map)(p2:State)(p3:(List Int))(v2:State)(y2:(List Agent))(y5:(List Stay))(a1:(Int×Int))(y12:(List Crash)):Le (B1v p1 p2 p3 v2 y2 y5 a1 y12) (A91 p1 p2 p3 v2 y2 y5 a1 y12):=by unfold B1v A91;infer_instance
def B1w (p1:Map)(p2:State)(p3:(List Int))(v2:State)(y2:(List Agent))(y5:(List Stay))(x4:(List Crash))(a1:(Int×Int))(x5:Int):Option (Stp Int (Sum Unit (List Crash))):=
  cond (decide (x5< (p1.Lanes.length:Int))) ((A33 (WorldScene.mk p1 p2 (State.mk v2.Tick y2 y5) p3 x4) a1.1 x5).bind fun v13=>(A33 (WorldScene.mk p1 p2 (State.mk v2.Tick y2 y5) p3 x4) a1.2 x5).bind fun v14=>cond ((!v13.2)||(!v14.2)) (some (.go (w64 (x5+1)))) ((D4 p2.Agents a1.1).bind fun v15=>(D4 p2.Agents a1.2).bind fun v16=>(cond (decide ((w64 (v15.S - v13.1))< (w64 (v16.S - v14.1)))) (some (v14.1,v13.1,a1.2,a1.1)) (some (v13.1,v14.1,a1.1,a1.2))).bind fun y14=>(D4 y2 y14.2.2.1).bind fun v17=>(A5r v17).bind fun v18=>(A2a v18 y14.1).bind fun v19=>(D4 y2 y14.2.2.2).bind fun v20=>(A5r v20).bind fun v21=>(A2a v21 y14.2.1).bind fun v22=>(D4 p2.Agents y14.2.2.2).bind fun v23=>(A5r v23).bind fun v24=>(A2a v24 y14.2.1).bind fun v25=>(A8e p1 x5).bind fun v26=>cond (((((decide (v19.to≥0))&& (decide (v22.to≥0)))&& (decide (v25.from_≤v26)))&& (decide (v19.from_≤v26)))&& (decide (v22.to≥v19.from_))) ((A7p x4 [(Crash.mk p2.Tick a1.1 a1.2 x5 (-1) [y14.2.2.2])]).bind fun v27=>some (.out (.inr v27))) (some (.go (w64 (x5+1)))))) (some (.out (.inl ())))
instance world_Step_l10_le (p1:Map)(p2:State)(p3:(List Int))(v2:State)(y2:(List Agent))(y5:(List Stay))(x4:(List Crash))(a1:(Int×Int))(x5:Int):Le (B1w p1 p2 p3 v2 y2 y5 x4 a1 x5) (A6s p1 p2 p3 v2 y2 y5 x4 a1 x5):=by unfold B1w A6s;repeat' first|infer_instance|with_reducible refine Le.bind (h:= ?_) (hf:=fun _=> ?_)|with_reducible refine Le.cond (h:= ?_) (h':= ?_)|with_reducible refine Le.thenS (h:= ?_) (hf:=fun _=> ?_) (hg:=fun _=> ?_)
def B2t (p1:Map)(p2:State)(p3:(List Int))(v2:State)(y2:(List Agent))(y5:(List Stay))(x4:(List Crash))(a1:(Int×Int)):Option (List Crash):=
  thenS (U6 (B1w p1 p2 p3 v2 y2 y5 x4 a1) 0) (fun _=>some x4) (fun r=>some r)
instance world_Step_i9_le (p1:Map)(p2:State)(p3:(List Int))(v2:State)(y2:(List Agent))(y5:(List Stay))(x4:(List Crash))(a1:(Int×Int)):Le (B2t p1 p2 p3 v2 y2 y5 x4 a1) (B0b p1 p2 p3 v2 y2 y5 x4 a1):=by unfold B2t B0b;infer_instance
def B2u (p1:Map)(p2:State)(p3:(List Int))(v2:State)(y2:(List Agent))(y5:(List Stay))(x4:(List Crash))(a1:(Int×Int)):Option (Stp (List Crash) (List Crash)):=
  (B2t p1 p2 p3 v2 y2 y5 x4 a1).bind fun y12=>(B1v p1 p2 p3 v2 y2 y5 a1 y12).bind fun y15=>some (.go y15)
instance world_Step_l8_le (p1:Map)(p2:State)(p3:(List Int))(v2:State)(y2:(List Agent))(y5:(List Stay))(x4:(List Crash))(a1:(Int×Int)):Le (B2u p1 p2 p3 v2 y2 y5 x4 a1) (A82 p1 p2 p3 v2 y2 y5 x4 a1):=by unfold B2u A82;infer_instance
def B2v:Option Unit:=
  some ()
instance world_Step_i7_le:Le (B2v) (B0c):=by unfold B2v B0c;infer_instance
def B2w (p1:Map)(p2:State)(p3:(List Int))(v2:State)(y2:(List Agent))(y5:(List Stay)):Option (List Crash):=
  (B2v).bind fun y10=>((C57 p2).bind fun v12=>loopL (B2u p1 p2 p3 v2 y2 y5) (fun (x4:(List Crash))=>x4) v12 []).bind fun y11=>some y11
instance world_Step_i6_le (p1:Map)(p2:State)(p3:(List Int))(v2:State)(y2:(List Agent))(y5:(List Stay)):Le (B2w p1 p2 p3 v2 y2 y5) (B0d p1 p2 p3 v2 y2 y5):=by unfold B2w B0d;infer_instance
def B2x (p1:Map)(p2:State)(p3:(List Int))(v2:State)(y2:(List Agent))(x2:(Int× (List Stay)))(v6:Agent)(x3:(Int× (List Stay))):Option (Stp (Int× (List Stay)) (List Stay)):=
  cond (decide (x3.1< (p1.Zones.length:Int))) ((W7 (WorldScene.mk p1 p2 (State.mk v2.Tick y2 x3.2) p3 []) x2.1 x3.1).bind fun v7=>cond (!v7) (some (.go ((w64 (x3.1+1)),x3.2))) ((G2 p2.In (Stay.mk x2.1 x3.1 p2.Tick 0)).bind fun v8=>(cond v8.2 ((D4 p2.In v8.1).bind fun v9=>some v9) ((B49 p1 v6 x3.1 p2.Tick).bind fun v10=>some (Stay.mk x2.1 x3.1 p2.Tick v10))).bind fun y8=>(A7p x3.2 [y8]).bind fun v11=>some (.go ((w64 (x3.1+1)),v11)))) (some (.out x3.2))
instance world_Step_l5_le (p1:Map)(p2:State)(p3:(List Int))(v2:State)(y2:(List Agent))(x2:(Int× (List Stay)))(v6:Agent)(x3:(Int× (List Stay))):Le (B2x p1 p2 p3 v2 y2 x2 v6 x3) (A83 p1 p2 p3 v2 y2 x2 v6 x3):=by unfold B2x A83;repeat' first|infer_instance|with_reducible refine Le.bind (h:= ?_) (hf:=fun _=> ?_)|with_reducible refine Le.cond (h:= ?_) (h':= ?_)|with_reducible refine Le.thenS (h:= ?_) (hf:=fun _=> ?_) (hg:=fun _=> ?_)
def B2y (p1:Map)(p2:State)(p3:(List Int))(v2:State)(y2:(List Agent))(x2:(Int× (List Stay))):Option (Stp (Int× (List Stay)) (List Stay)):=
  cond (decide (x2.1< (p2.Agents.length:Int))) ((D4 p2.Agents x2.1).bind fun v6=>(U6 (B2x p1 p2 p3 v2 y2 x2 v6) (0,x2.2)).bind fun y7=>some (.go ((w64 (x2.1+1)),y7))) (some (.out x2.2))
instance world_Step_l4_le (p1:Map)(p2:State)(p3:(List Int))(v2:State)(y2:(List Agent))(x2:(Int× (List Stay))):Le (B2y p1 p2 p3 v2 y2 x2) (A84 p1 p2 p3 v2 y2 x2):=by unfold B2y A84;infer_instance
def B2z (p1:Map)(p2:State)(p3:(List Int))(v2:State)(y2:(List Agent)):Option (List Stay):=
  (U6 (B2y p1 p2 p3 v2 y2) (0,[])).bind fun y6=>some y6
instance world_Step_i3_le (p1:Map)(p2:State)(p3:(List Int))(v2:State)(y2:(List Agent)):Le (B2z p1 p2 p3 v2 y2) (B0e p1 p2 p3 v2 y2):=by unfold B2z B0e;infer_instance
def B30 (p1:Map)(p2:State)(p3:(List Int))(x1:(Int× (List Agent))):Option (Stp (Int× (List Agent)) (List Agent)):=
  cond (decide (x1.1< (p2.Agents.length:Int))) ((cond (decide (x1.1< (p3.length:Int))) ((D4 p3 x1.1).bind fun v3=>some v3) (some 0)).bind fun y4=>(B72 p1 p2 x1.1 y4).bind fun v4=>(D4 x1.2 x1.1).bind fun v5=>some (.go ((w64 (x1.1+1)),(B79 x1.2 x1.1 v4)))) (some (.out x1.2))
instance world_Step_l2_le (p1:Map)(p2:State)(p3:(List Int))(x1:(Int× (List Agent))):Le (B30 p1 p2 p3 x1) (A85 p1 p2 p3 x1):=by unfold B30 A85;repeat' first|infer_instance|with_reducible refine Le.bind (h:= ?_) (hf:=fun _=> ?_)|with_reducible refine Le.cond (h:= ?_) (h':= ?_)|with_reducible refine Le.thenS (h:= ?_) (hf:=fun _=> ?_) (hg:=fun _=> ?_)
def B31 (p1:Map)(p2:State)(p3:(List Int))(v2:State):Option (List Agent):=
  (U6 (B30 p1 p2 p3) (0,v2.Agents)).bind fun y3=>some y3
instance world_Step_i1_le (p1:Map)(p2:State)(p3:(List Int))(v2:State):Le (B31 p1 p2 p3 v2) (B0f p1 p2 p3 v2):=by unfold B31 B0f;infer_instance
def B73 (p1:Map)(p2:State)(p3:(List Int)):Option (State× (List Crash)×Int):=
  (A9l p1 p2).bind fun v1=>cond (v1 !=0) (some ((State.mk 0 [] []),[],v1)) (cond (decide (p2.Tick≥1099511627776)) (some ((State.mk 0 [] []),[],2)) ((B2s p2).bind fun v2=>((B31 p1 p2 p3 v2).bind fun y2=>(B2z p1 p2 p3 v2 y2).bind fun y5=>(B2w p1 p2 p3 v2 y2 y5).bind fun y9=>some (y2,y5,y9)).bind fun y1=>some ((State.mk (w64 (v2.Tick+1)) y1.1 y1.2.1),y1.2.2,0)))
instance world_Step_le (p1:Map)(p2:State)(p3:(List Int)):Le (B73 p1 p2 p3) (B3i p1 p2 p3):=by unfold B73 B3i;repeat' first|infer_instance|with_reducible refine Le.bind (h:= ?_) (hf:=fun _=> ?_)|with_reducible refine Le.cond (h:= ?_) (h':= ?_)|with_reducible refine Le.thenS (h:= ?_) (hf:=fun _=> ?_) (hg:=fun _=> ?_)
def B9u:Option Bool:=
  (B9b).bind fun v1=>(B2a 0 10000 1000).bind fun v2=>(B2a 1 46000 1000).bind fun v3=>(B9c v1 [v2,v3]).bind fun v4=>cond (((v4.2 !=0)||((v4.1.In.length:Int) !=0))||((v4.1.Agents.length:Int) !=2)) (some false) ((B73 v1 v4.1 [50,(-90)]).bind fun v5=>((cond (((v5.2.2==0)&& ((v5.2.1.length:Int)==0))&& ((v5.1.Agents.length:Int)==2)) (D4 v5.1.Agents 0) (some default))).bind fun v6=>((cond ((((v5.2.2==0)&& ((v5.2.1.length:Int)==0))&& ((v5.1.Agents.length:Int)==2))&& (v6.S==11030)) (D4 v5.1.Agents 1) (some default))).bind fun v7=>((cond (((((v5.2.2==0)&& ((v5.2.1.length:Int)==0))&& ((v5.1.Agents.length:Int)==2))&& (v6.S==11030))&& (v7.V==910)) (B1t 100 30) (some default))).bind fun v8=>some ((((((v5.2.2==0)&& ((v5.2.1.length:Int)==0))&& ((v5.1.Agents.length:Int)==2))&& (v6.S==11030))&& (v7.V==910))&& (v8==120)))
instance law04_awake_le:Le (B9u) (A71):=by unfold B9u A71;repeat' first|infer_instance|with_reducible refine Le.bind (h:= ?_) (hf:=fun _=> ?_)|with_reducible refine Le.cond (h:= ?_) (h':= ?_)|with_reducible refine Le.thenS (h:= ?_) (hf:=fun _=> ?_) (hg:=fun _=> ?_)
end Go.Abs.World
namespace Go.Abs.World
open Go Go.Abs
theorem A5t (n:Int): ∃y,A5w n=some (y,y*y==n)∧0≤y∧y≤67108864∧(∀m,0≤m→m<y→m*m<n)∧(y=67108864∨n≤y*y):=by
  have key:=C9e (f:=A3u n) (fun x=>0≤x.1∧x.1≤x.2∧x.2≤67108864∧(∀m,0≤m→m<x.1→m*m<n)∧(x.2=67108864∨n≤x.2*x.2)) (fun x=>(x.2 - x.1).toNat)
    (fun y=>0≤y∧y≤67108864∧(∀m,0≤m→m<y→m*m<n)∧(y=67108864∨n≤y*y)) (by
      rintro ⟨lo,hi⟩ ⟨h1,h2,h3,h4,h5⟩
      dsimp only at h1 h2 h3 h4 h5
      unfold A3u
      dsimp only
      by_cases hlt:lo<hi
      ·have e1:w64 (lo+hi)=lo+hi:=I9 (by omega)
       have e2:w64 ((lo+hi).tdiv 2)=(lo+hi) / 2:=by rw [Int.tdiv_eq_ediv_of_nonneg (by omega)];exact I9 (by omega)
       have hm:lo≤(lo+hi) / 2∧(lo+hi) / 2<hi:=by omega
       generalize hmid:(lo+hi) / 2=mid at*
       have hmm:mid*mid≤67108864*67108864:=D61 (by omega) (by omega)
       have hmm0:=B3c mid
       have e3:w64 (mid*mid)=mid*mid:=I9 (by omega)
       have e4:w64 (mid+1)=mid+1:=I9 (by omega)
       simp only [e1,e2,e3,e4,hlt,decide_true,cond_true]
       by_cases hc:mid*mid<n
       ·simp only [hc,decide_true,cond_true]
        refine ⟨_,rfl,⟨by omega,by omega,h3,fun m hm0 hm1=> ?_,h5⟩,by dsimp only;omega⟩
        rcases Int.lt_or_le m mid with q|q
        ·have:=Int.mul_le_mul (show m≤mid by omega) (show m≤mid by omega) hm0 (by omega);omega
        ·have:m=mid:=by dsimp only at hm1;omega
         subst this;exact hc
       ·simp only [hc,decide_false,cond_false]
        exact ⟨_,rfl,⟨h1,by dsimp only;omega,by dsimp only;omega,h4, .inr (by dsimp only;omega)⟩,by dsimp only;omega⟩
      ·simp only [hlt,decide_false,cond_false]
       obtain rfl:lo=hi:=by omega
       exact ⟨_,rfl,h1,h3,h4,h5⟩) (0,67108864) ⟨by decide,by decide,by decide,fun m h1 h2=>by dsimp only at h2;omega, .inl rfl⟩
  obtain ⟨y,hy,h1,h2,h3,h4⟩:=key
  refine ⟨y,?_,h1,h2,h3,h4⟩
  have hmm:y*y≤67108864*67108864:=D61 (by omega) (by omega)
  have hmm0:=B3c y
  unfold A5w
  rw [hy,Option.bind_some,I9 (by omega)]
/-- The least number whose square is not less. -/
noncomputable def rt (n:Int):Int:=(A5t n).choose
theorem B8f (n:Int):A5w n=some (rt n,rt n*rt n==n):=(A5t n).choose_spec.1
theorem C24 (n:Int):0≤rt n:=(A5t n).choose_spec.2.1
theorem E14 (n m:Int)(h1:0≤m)(h2:m<rt n):m*m<n:=(A5t n).choose_spec.2.2.2.1 m h1 h2
theorem E15 (n:Int):rt n=67108864∨n≤rt n*rt n:=(A5t n).choose_spec.2.2.2.2
theorem D97 {l:Int}(h0:0≤l)(h1:l≤67108864):rt (l*l)=l:=by
  rcases Int.lt_trichotomy (rt (l*l)) l with q|q|q
  ·rcases E15 (l*l)with h|h
   ·omega
   ·have h2:=C24 (l*l)
    have:=Int.mul_lt_mul' (show rt (l*l)≤l by omega) q h2 (by omega);omega
  ·exact q
  ·have:=E14 (l*l) l h0 q;omega
theorem C25 (n:Int)(h0:0≤n)(h1:n<18014398509481984): ∃r,A7f n=some r∧0≤r∧r<134217728∧r*r≤n∧n< (r+1)* (r+1):=by
  have key:=C9e (f:=A86 n) (fun x=>0≤x.1∧x.1*x.1≤n∧((∃k:Nat,k≤26∧x.2=2^k∧x.1+2*2^k≤134217728∧n< (x.1+2*2^k)* (x.1+2*2^k))∨(x.2=0∧x.1<134217728∧n< (x.1+1)* (x.1+1)))) (fun x=>x.2.toNat)
    (fun r=>0≤r∧r<134217728∧r*r≤n∧n< (r+1)* (r+1)) (by
      rintro ⟨r,bit⟩ ⟨q1,q2,q3⟩
      dsimp only at q1 q2 q3
      unfold A86
      dsimp only
      rcases q3 with ⟨k,hk,rfl,q4,q5⟩|⟨rfl,q4,q5⟩
      ·have hp:(0:Int)<2^k:=Int.pow_pos (by decide)
       generalize hb:(2:Int)^k=b at*
       have e1:w64 (r+b)=r+b:=I9 (by omega)
       have hmm:(r+b)* (r+b)≤134217728*134217728:=D61 (by omega) (by omega)
       have hmm0:=B3c (r+b)
       have e2:w64 ((r+b)* (r+b))=(r+b)* (r+b):=I9 (by omega)
       have e3:w64 (b.tdiv 2)=b / 2:=by rw [Int.tdiv_eq_ediv_of_nonneg (by omega)];exact I9 (by omega)
       have hb0:b>0:=by omega
       simp only [e1,e2,e3,hb0,decide_true,cond_true]
       have hnext: ∀r',0≤r'→r'*r'≤n→r'+b≤134217728→n< (r'+b)* (r'+b)→(∃j:Nat,j≤26∧b / 2=2^j∧r'+2*2^j≤134217728∧n< (r'+2*2^j)* (r'+2*2^j))∨(b / 2=0∧r'<134217728∧n< (r'+1)* (r'+1)):=by
         intro r' a1 a2 a3 a4
         cases k with
         |zero=>
          have:b=1:=by rw [← hb];rfl
          subst this
          exact .inr ⟨by decide,by omega,a4⟩
         |succ j=>
          have hj:b=2*2^j:=by rw [← hb,Int.pow_succ];omega
          refine .inl ⟨j,by omega,by omega,by omega,by rw [← hj];exact a4⟩
       by_cases hc:(r+b)* (r+b)≤n
       ·simp only [hc,decide_true,cond_true]
        refine ⟨_,rfl,⟨by dsimp only;omega,hc,hnext (r+b) (by omega) hc (by omega) (by rw [show r+b+b=r+2*b by omega];exact q5)⟩,by dsimp only;omega⟩
       ·simp only [hc,decide_false,cond_false]
        exact ⟨_,rfl,⟨q1,q2,hnext r q1 q2 (by omega) (by omega)⟩,by dsimp only;omega⟩
      ·simp only [show ¬(0:Int)>0 by decide,decide_false,cond_false]
       exact ⟨_,rfl,q1,q4,q2,q5⟩) (0,67108864) ⟨by decide,by dsimp only;omega, .inl ⟨26,by decide,by decide,by decide,by dsimp only;omega⟩⟩
  obtain ⟨r,hr,a⟩:=key
  exact ⟨r,by unfold A7f;rw [hr];rfl,a⟩
theorem C58 {n:Int}(h0:0≤n)(h1:n≤4503599627370496): ∃r,A7f n=some r∧0≤r∧r<134217728∧(r*r=n↔rt n*rt n=n)∧(r*r=n→r=rt n):=by
  obtain ⟨r,hr,a1,a2,a3,a4⟩:=C25 n h0 (by omega)
  have hr26:r≤67108864:=by
    rcases Int.lt_or_le r 67108865 with q|q
    ·omega
    ·have:=Int.mul_le_mul q q (by decide) (by omega);omega
  refine ⟨r,hr,a1,a2,⟨fun h=> ?_,fun h=> ?_⟩,fun h=> ?_⟩
  ·rw [← h,D97 a1 hr26]
  ·rcases Int.lt_trichotomy r (rt n)with q|q|q
   ·have:=Int.mul_le_mul (show r+1≤rt n by omega) (show r+1≤rt n by omega) (by omega) (C24 n);omega
   ·rw [q];exact h
   ·have h2:=C24 n
    have:=Int.mul_lt_mul' (show rt n≤r by omega) q h2 (by omega);omega
  ·rw [← h,D97 a1 hr26]
end Go.Abs.World
namespace Go.Abs.World
open Go Go.Abs
def okS (p:Spot):Bool:=decide (-16777216≤p.X)&&decide (p.X≤16777216)&&decide (-16777216≤p.Y)&&decide (p.Y≤16777216)
theorem okS_iff {p:Spot}:okS p=true↔ -16777216≤p.X∧p.X≤16777216∧ -16777216≤p.Y∧p.Y≤16777216:=by simp [okS,and_assoc]
theorem D3o (p:Spot):((decide ((mm2 false p.X p.Y)< (-16777216)))||(decide ((mm2 true p.X p.Y)>16777216)))= !okS p:=by
  rw [A6f,B3s]
  cases h:okS p with
  |true=>have:=okS_iff.1 h;simp;omega
  |false=>
   have: ¬(-16777216≤p.X∧p.X≤16777216∧ -16777216≤p.Y∧p.Y≤16777216):=fun q=>by rw [okS_iff.2 q]at h;cases h
   simp;omega
theorem C59 (l:List Spot)(hl:l.length≤1000000): ∀(r:List Spot) (i:Nat),l.drop i=r→loop (A17 l) (i:Int)=some (if r.all okS then .inl ()else .inr false):=by
  intro r
  induction r with
  |nil=>
   intro i hi
   have:=U4 hi
   refine D5 ?_
   unfold A17
   simp only [show ¬(i:Int)<l.length by omega,decide_false,cond_false,List.all_nil,if_true]
  |cons p r ih=>
   intro i hi
   have hlt:=V5 hi
   have hstep:A17 l (i:Int)=if okS p then some (.go ((i+1:Nat):Int))else some (.out (.inr false)):=by
     unfold A17
     simp only [show (i:Int)<l.length by omega,decide_true,cond_true,A2b hi,Option.bind_some,D3o]
     cases h:okS p with
     |true=>simp only [Bool.not_true,cond_false,if_true];rw [I9 (by omega)];rfl
     |false=>simp
   cases h:okS p with
   |true=>
    rw [h,if_pos rfl]at hstep
    rw [P2 hstep,ih (i+1) (L0 hi)]
    simp [h]
   |false=>
    rw [h]at hstep
    rw [D5 hstep]
    simp [h]
theorem C5a (l:List Spot)(hl:l.length≤1000000):A8p l=some (l.all okS):=by
  unfold A8p
  have:=C59 l hl l 0 (by simp)
  rw [show ((0:Nat):Int)=0 from rfl]at this
  rw [this]
  cases l.all okS<;>rfl
theorem C36 (p:Spot):B18 p=some (okS p):=by
  unfold B18 okS;rfl
def vec (p q:Spot):CurveVector:=⟨q.X - p.X,q.Y - p.Y⟩
def A05 (v w:CurveVector):Int:=v.x*w.x+v.y*w.y
/-- A vector between valid spots. -/
def okV (v:CurveVector):Prop:= -33554432≤v.x∧v.x≤33554432∧ -33554432≤v.y∧v.y≤33554432
theorem C26 {p q:Spot}(hp:okS p=true)(hq:okS q=true):okV (vec p q):=by
  have:=okS_iff.1 hp;have:=okS_iff.1 hq
  unfold okV vec;dsimp only;omega
theorem B8g {p q:Spot}(hp:okS p=true)(hq:okS q=true):A7c p q=some (vec p q):=by
  have:=okS_iff.1 hp;have:=okS_iff.1 hq
  unfold A7c vec
  rw [I9 (by omega),I9 (by omega)]
theorem D3p {v w:CurveVector}(hv:okV v)(hw:okV w): -2251799813685248≤A05 v w∧A05 v w≤2251799813685248∧(-1125899906842624≤v.x*w.x∧v.x*w.x≤1125899906842624)∧ -1125899906842624≤v.y*w.y∧v.y*w.y≤1125899906842624:=by
  obtain ⟨a1,a2,a3,a4⟩:=hv
  obtain ⟨b1,b2,b3,b4⟩:=hw
  have h1:=D7h ⟨a1,a2⟩ ⟨b1,b2⟩
  have h2:=D7h ⟨a3,a4⟩ ⟨b3,b4⟩
  unfold A05
  omega
theorem B58 {v w:CurveVector}(hv:okV v)(hw:okV w):X6 v w=some (A05 v w):=by
  have h:=D3p hv hw
  unfold X6
  rw [I9 (n:=v.x*w.x) (by omega),I9 (n:=v.y*w.y) (by omega),I9 (by unfold A05 at h;omega)]
  rfl
theorem D18 (v:CurveVector):0≤A05 v v:=by have:=B3c v.x;have:=B3c v.y;unfold A05;omega
def vs (v:CurveVector):Spot:=⟨v.x,v.y⟩
theorem B32 {p q:Spot}(hp:okS p=true)(hq:okS q=true):A72 q p=some (vs (vec p q)):=by
  have:=okS_iff.1 hp;have:=okS_iff.1 hq
  unfold A72 vec vs
  rw [I9 (by omega),I9 (by omega)]
theorem B59 {v w:CurveVector}(hv:okV v)(hw:okV w):A9e (vs v) (vs w)=some (A05 v w):=by
  have h:=D3p hv hw
  unfold A9e vs
  dsimp only
  rw [I9 (n:=v.x*w.x) (by omega),I9 (n:=v.y*w.y) (by omega),I9 (by unfold A05 at h;omega)]
  rfl
/-- The error of a chain of points, from a piece on; the piece ahead of it. -/
noncomputable def goM:Option CurveVector→List Spot→Int
  |last,p::q::r=>
   if rt (A05 (vec p q) (vec p q))*rt (A05 (vec p q) (vec p q))≠A05 (vec p q) (vec p q)then 3
   else if rt (A05 (vec p q) (vec p q))<1000∨rt (A05 (vec p q) (vec p q))>1048576 then 2
   else match last with
     |some u=>if A05 u (vec p q)≤0 then 12 else goM (some (vec p q)) (q::r)
     |none=>goM (some (vec p q)) (q::r)
  |_,_=>0
theorem C0p (last:Option CurveVector)(p q:Spot)(r:List Spot):goM last (p::q::r)=
    if rt (A05 (vec p q) (vec p q))*rt (A05 (vec p q) (vec p q))≠A05 (vec p q) (vec p q)then 3
    else if rt (A05 (vec p q) (vec p q))<1000∨rt (A05 (vec p q) (vec p q))>1048576 then 2
    else match last with
      |some u=>if A05 u (vec p q)≤0 then 12 else goM (some (vec p q)) (q::r)
      |none=>goM (some (vec p q)) (q::r):=by
  conv=>lhs;unfold goM
noncomputable def A4f (l:List Spot):Int:=if l.length<2 then 6 else if l.length>16 then 5 else if l.all okS then goM none l else 2
theorem C37 (c:Curve)(hl:c.Pts.length≤1000000)(hok:c.Pts.all okS=true): ∀(r:List Spot) (p:Spot) (i:Nat) (last:CurveVector),c.Pts.drop i=p::r→okV last→
    loop (A0f c) ((i:Int),last)=some (if goM (if i=0 then none else some last) (p::r)=0 then .inl ()else .inr (goM (if i=0 then none else some last) (p::r))):=by
  intro r
  induction r with
  |nil=>
   intro p i last hi hlast
   have hlt:=V5 hi
   have:=U4 (L0 hi)
   refine D5 ?_
   unfold A0f
   dsimp only
   rw [I9 (n:=(c.Pts.length:Int) - 1) (by omega)]
   simp only [show ¬(i:Int)< (c.Pts.length:Int) - 1 by omega,decide_false,cond_false,goM,if_true]
  |cons q r ih=>
   intro p i last hi hlast
   have hlt:=V5 hi
   have hi1:=L0 hi
   have hlt1:=V5 hi1
   have hp:okS p=true:=List.all_eq_true.1 hok p (List.mem_of_mem_drop (i:=i) (by rw [hi];simp))
   have hq:okS q=true:=List.all_eq_true.1 hok q (List.mem_of_mem_drop (i:=i) (by rw [hi];simp))
   have hv:=C26 hp hq
   have hg1:D4 c.Pts ((i:Int)+1)=some q:=by have:=A2b hi1;simpa using this
   have hstep:A0f c ((i:Int),last)=
    if rt (A05 (vec p q) (vec p q))*rt (A05 (vec p q) (vec p q))≠A05 (vec p q) (vec p q)then some (.out (.inr 3))
    else if rt (A05 (vec p q) (vec p q))<1000∨rt (A05 (vec p q) (vec p q))>1048576 then some (.out (.inr 2))
    else if i≠0∧A05 last (vec p q)≤0 then some (.out (.inr 12))else some (.go (((i+1:Nat):Int),vec p q)):=by
     unfold A0f
     dsimp only
     rw [I9 (n:=(c.Pts.length:Int) - 1) (by omega),I9 (n:=(i:Int)+1) (by omega)]
     simp only [show (i:Int)< (c.Pts.length:Int) - 1 by omega,decide_true,cond_true,A2b hi,hg1,Option.bind_some,B8g hp hq,B58 hv hv,B8f]
     by_cases h1:rt (A05 (vec p q) (vec p q))*rt (A05 (vec p q) (vec p q))=A05 (vec p q) (vec p q)
     ·simp only [h1,beq_self_eq_true,Bool.not_true,cond_false,ne_eq,not_true_eq_false,if_false]
      by_cases h2:rt (A05 (vec p q) (vec p q))<1000∨rt (A05 (vec p q) (vec p q))>1048576
      ·rw [if_pos h2]
       have:(decide (rt (A05 (vec p q) (vec p q))<1000)||decide (rt (A05 (vec p q) (vec p q))>1048576))=true:=by simpa using h2
       rw [this];rfl
      ·rw [if_neg h2]
       have:(decide (rt (A05 (vec p q) (vec p q))<1000)||decide (rt (A05 (vec p q) (vec p q))>1048576))=false:=by simpa using h2
       rw [this]
       simp only [cond_false]
       by_cases h3:i=0
       ·subst h3
        simp only [Int.natCast_zero,gt_iff_lt,Int.lt_irrefl,decide_false,cond_false,Bool.false_and,Option.bind_some,not_true_eq_false,false_and,if_false]
        rfl
       ·have h4:(i:Int)>0:=by omega
        simp only [h4,decide_true,cond_true,B58 hlast hv,Option.bind_some,Bool.true_and,h3,not_false_eq_true,true_and]
        by_cases h5:A05 last (vec p q)≤0<;>simp [h5]
     ·have:(rt (A05 (vec p q) (vec p q))*rt (A05 (vec p q) (vec p q))==A05 (vec p q) (vec p q))=false:=by simpa using h1
      simp only [this,Bool.not_false,cond_true,ne_eq,h1,not_false_eq_true,if_true]
   rw [C0p]
   by_cases h1:rt (A05 (vec p q) (vec p q))*rt (A05 (vec p q) (vec p q))≠A05 (vec p q) (vec p q)
   ·rw [if_pos h1]at hstep
    rw [D5 hstep,if_pos h1];rfl
   ·rw [if_neg h1]at hstep ⊢
    by_cases h2:rt (A05 (vec p q) (vec p q))<1000∨rt (A05 (vec p q) (vec p q))>1048576
    ·rw [if_pos h2]at hstep
     rw [D5 hstep,if_pos h2];rfl
    ·rw [if_neg h2]at hstep ⊢
     by_cases h3:i=0
     ·subst h3
      rw [if_neg (by simp)]at hstep
      rw [P2 hstep,ih q (0+1) (vec p q) hi1 hv]
      simp
     ·by_cases h5:A05 last (vec p q)≤0
      ·rw [if_pos ⟨h3,h5⟩]at hstep
       rw [D5 hstep]
       simp [h3,h5]
      ·rw [if_neg (fun h=>h5 h.2)]at hstep
       rw [P2 hstep,ih q (i+1) (vec p q) hi1 hv]
       simp [h3,h5]
theorem B6g (c:Curve)(hl:c.Pts.length≤1000000):A55 c=some (A4f c.Pts):=by
  unfold A55 A4f
  by_cases h1:c.Pts.length<2
  ·rw [if_pos h1,show decide ((c.Pts.length:Int)<2)=true by simp;omega];rfl
  ·rw [if_neg h1,show decide ((c.Pts.length:Int)<2)=false by simp;omega]
   simp only [cond_false]
   by_cases h2:c.Pts.length>16
   ·rw [if_pos h2,show decide ((c.Pts.length:Int)>16)=true by simp;omega];rfl
   ·rw [if_neg h2,show decide ((c.Pts.length:Int)>16)=false by simp;omega]
    simp only [cond_false,C5a c.Pts hl,Option.bind_some]
    cases h3:c.Pts.all okS with
    |false=>rfl
    |true=>
     simp only [Bool.not_true,cond_false,if_true]
     cases hp:c.Pts with
     |nil=>rw [hp]at h1;simp at h1
     |cons p r=>
      have:=C37 c hl h3 r p 0 ⟨0,0⟩ (by rw [hp];rfl) ⟨by decide,by decide,by decide,by decide⟩
      rw [if_pos rfl,show ((0:Nat):Int)=0 from rfl]at this
      rw [this]
      by_cases h4:goM none (p::r)=0
      ·rw [if_pos h4,h4];rfl
      ·rw [if_neg h4];rfl
end Go.Abs.World
namespace Go.Abs.World
open Go Go.Abs
theorem D3q (v w:CurveVector):A05 v w=A05 w v:=by unfold A05;rw [Int.mul_comm v.x,Int.mul_comm v.y]
theorem C27 (c:Curve)(hl:c.Pts.length≤1000000): ∀(r:List Spot) (i:Nat),c.Pts.drop i=r→loop (A2y c) (i:Int)=some (if r.all okS then .inl ()else .inr 2):=by
  intro r
  induction r with
  |nil=>
   intro i hi
   have:=U4 hi
   refine D5 ?_
   unfold A2y
   simp only [show ¬(i:Int)<c.Pts.length by omega,decide_false,cond_false,List.all_nil,if_true]
  |cons p r ih=>
   intro i hi
   have hlt:=V5 hi
   have hstep:A2y c (i:Int)=if okS p then some (.go ((i+1:Nat):Int))else some (.out (.inr 2)):=by
     unfold A2y
     simp only [show (i:Int)<c.Pts.length by omega,decide_true,cond_true,A2b hi,Option.bind_some,C36]
     cases h:okS p with
     |true=>simp only [Bool.not_true,cond_false,if_true];rw [I9 (by omega)];rfl
     |false=>simp
   cases h:okS p with
   |true=>
    rw [h,if_pos rfl]at hstep
    rw [P2 hstep,ih (i+1) (L0 hi)]
    simp [h]
   |false=>
    rw [h]at hstep
    rw [D5 hstep]
    simp [h]
theorem D7m {v:CurveVector}(hv:okV v): ∃l,A7f (A05 v v)=some l∧(w64 (l*l) !=A05 v v)= !(rt (A05 v v)*rt (A05 v v)==A05 v v)∧(rt (A05 v v)*rt (A05 v v)=A05 v v→l=rt (A05 v v)):=by
  have hb:=D3p hv hv
  obtain ⟨l,h1,h2,h3,h4,h5⟩:=C58 (D18 v) (by omega)
  have hmm:l*l≤134217728*134217728:=D61 (by omega) (by omega)
  have hmm0:=B3c l
  refine ⟨l,h1,?_,fun h=>h5 (h4.2 h)⟩
  rw [I9 (by omega)]
  by_cases h:l*l=A05 v v
  ·simp [h,h4.1 h]
  ·have h': ¬rt (A05 v v)*rt (A05 v v)=A05 v v:=fun q=>h (h4.2 q)
   have e1:(l*l !=A05 v v)=true:=bne_iff_ne.2 h
   have e2:(rt (A05 v v)*rt (A05 v v)==A05 v v)=false:=beq_eq_false_iff_ne.2 h'
   rw [e1,e2];rfl
theorem C28 (c:Curve)(hl:c.Pts.length≤1000000)(hok:c.Pts.all okS=true): ∀(r:List Spot) (p:Spot) (i:Nat) (last:Option CurveVector),c.Pts.drop i=p::r→
    (i=0∧last=none∨∃j a,i=j+1∧c.Pts.drop j=a::p::r∧last=some (vec a p))→
    loop (A2x c) (i:Int)=some (if goM last (p::r)=0 then .inl ()else .inr (goM last (p::r))):=by
  intro r
  induction r with
  |nil=>
   intro p i last hi hlast
   have hlt:=V5 hi
   have:=U4 (L0 hi)
   refine D5 ?_
   unfold A2x
   rw [I9 (n:=(i:Int)+1) (by omega)]
   simp only [show ¬(i:Int)+1< (c.Pts.length:Int) by omega,decide_false,cond_false,goM,if_true]
  |cons q r ih=>
   intro p i last hi hlast
   have hlt:=V5 hi
   have hi1:=L0 hi
   have hlt1:=V5 hi1
   have hp:okS p=true:=List.all_eq_true.1 hok p (List.mem_of_mem_drop (i:=i) (by rw [hi];simp))
   have hq:okS q=true:=List.all_eq_true.1 hok q (List.mem_of_mem_drop (i:=i) (by rw [hi];simp))
   have hv:=C26 hp hq
   have hg1:D4 c.Pts ((i:Int)+1)=some q:=by have:=A2b hi1;simpa using this
   obtain ⟨l,hl1,hl2,hl3⟩:=D7m hv
   have hstep:A2x c (i:Int)=
    if rt (A05 (vec p q) (vec p q))*rt (A05 (vec p q) (vec p q))≠A05 (vec p q) (vec p q)then some (.out (.inr 3))
    else if rt (A05 (vec p q) (vec p q))<1000∨rt (A05 (vec p q) (vec p q))>1048576 then some (.out (.inr 2))
    else match last with
      |some u=>if A05 u (vec p q)≤0 then some (.out (.inr 12))else some (.go ((i+1:Nat):Int))
      |none=>some (.go ((i+1:Nat):Int)):=by
     unfold A2x
     rw [I9 (n:=(i:Int)+1) (by omega)]
     simp only [show (i:Int)+1< (c.Pts.length:Int) by omega,decide_true,cond_true,A2b hi,hg1,Option.bind_some,B32 hp hq,B59 hv hv,hl1,hl2]
     by_cases h1:rt (A05 (vec p q) (vec p q))*rt (A05 (vec p q) (vec p q))=A05 (vec p q) (vec p q)
     ·simp only [h1,beq_self_eq_true,Bool.not_true,cond_false,ne_eq,not_true_eq_false,if_false,hl3 h1]
      by_cases h2:rt (A05 (vec p q) (vec p q))<1000∨rt (A05 (vec p q) (vec p q))>1048576
      ·rw [if_pos h2]
       have:(decide (rt (A05 (vec p q) (vec p q))<1000)||decide (rt (A05 (vec p q) (vec p q))>1048576))=true:=by simpa using h2
       rw [this];rfl
      ·rw [if_neg h2]
       have:(decide (rt (A05 (vec p q) (vec p q))<1000)||decide (rt (A05 (vec p q) (vec p q))>1048576))=false:=by simpa using h2
       rw [this]
       simp only [cond_false]
       rcases hlast with ⟨rfl,rfl⟩|⟨j,a,rfl,hj,rfl⟩
       ·simp only [Int.natCast_zero,gt_iff_lt,Int.lt_irrefl,decide_false,cond_false,Bool.false_and,Option.bind_some]
        rfl
       ·have h4:(((j+1:Nat):Int))>0:=by omega
        have ha:okS a=true:=List.all_eq_true.1 hok a (List.mem_of_mem_drop (i:=j) (by rw [hj];simp))
        have hva:=C26 ha hp
        have hgj:D4 c.Pts (w64 (((j+1:Nat):Int) - 1))=some a:=by
          rw [I9 (by omega),show (((j+1:Nat):Int) - 1)=(j:Int) by omega]
          exact A2b hj
        simp only [h4,decide_true,cond_true,hgj,Option.bind_some,B32 ha hp,B59 hv hva,Bool.true_and]
        rw [D3q (vec p q) (vec a p)]
        by_cases h5:A05 (vec a p) (vec p q)≤0
        ·simp [h5]
        ·simp [h5]
     ·have:(rt (A05 (vec p q) (vec p q))*rt (A05 (vec p q) (vec p q))==A05 (vec p q) (vec p q))=false:=by simpa using h1
      simp only [this,Bool.not_false,cond_true,ne_eq,h1,not_false_eq_true,if_true]
   rw [C0p]
   have hrec:=ih q (i+1) (some (vec p q)) hi1 (.inr ⟨i,p,rfl,hi,rfl⟩)
   by_cases h1:rt (A05 (vec p q) (vec p q))*rt (A05 (vec p q) (vec p q))≠A05 (vec p q) (vec p q)
   ·rw [if_pos h1]at hstep
    rw [D5 hstep,if_pos h1];rfl
   ·rw [if_neg h1]at hstep ⊢
    by_cases h2:rt (A05 (vec p q) (vec p q))<1000∨rt (A05 (vec p q) (vec p q))>1048576
    ·rw [if_pos h2]at hstep
     rw [D5 hstep,if_pos h2];rfl
    ·rw [if_neg h2]at hstep ⊢
     cases last with
     |none=>rw [P2 hstep,hrec]
     |some u=>
      dsimp only at hstep ⊢
      by_cases h5:A05 u (vec p q)≤0
      ·rw [if_pos h5]at hstep
       rw [D5 hstep];simp [h5]
      ·rw [if_neg h5]at hstep
       rw [P2 hstep,hrec];simp [h5]
theorem B6h (c:Curve)(hl:c.Pts.length≤1000000):A8r c=some (A4f c.Pts):=by
  unfold A8r A4f
  by_cases h1:c.Pts.length<2
  ·rw [if_pos h1,show decide ((c.Pts.length:Int)<2)=true by simp;omega];rfl
  ·rw [if_neg h1,show decide ((c.Pts.length:Int)<2)=false by simp;omega]
   simp only [cond_false]
   by_cases h2:c.Pts.length>16
   ·rw [if_pos h2,show decide ((c.Pts.length:Int)>16)=true by simp;omega];rfl
   ·rw [if_neg h2,show decide ((c.Pts.length:Int)>16)=false by simp;omega]
    have hg:=C27 c hl c.Pts 0 (by simp)
    rw [show ((0:Nat):Int)=0 from rfl]at hg
    simp only [cond_false,hg]
    cases h3:c.Pts.all okS with
    |false=>rfl
    |true=>
     simp only [if_true,thenS]
     cases hp:c.Pts with
     |nil=>rw [hp]at h1;simp at h1
     |cons p r=>
      have:=C28 c hl h3 r p 0 none (by rw [hp];rfl) (.inl ⟨rfl,rfl⟩)
      rw [show ((0:Nat):Int)=0 from rfl]at this
      rw [this]
      by_cases h4:goM none (p::r)=0
      ·rw [if_pos h4,h4]
      ·rw [if_neg h4]
/-- What a valid chain is. -/
inductive Good:Option CurveVector→List Spot→Prop
  |one (last:Option CurveVector) (p:Spot):Good last [p]
  |cons (last:Option CurveVector) (p q:Spot) (r:List Spot) (h1:rt (A05 (vec p q) (vec p q))*rt (A05 (vec p q) (vec p q))=A05 (vec p q) (vec p q)) (h2:1000≤rt (A05 (vec p q) (vec p q))) (h3:rt (A05 (vec p q) (vec p q))≤1048576)
     (h4: ∀u,last=some u→0<A05 u (vec p q)) (h:Good (some (vec p q)) (q::r)):Good last (p::q::r)
theorem C8a: ∀(r:List Spot) (p:Spot) (last:Option CurveVector),goM last (p::r)=0→Good last (p::r):=by
  intro r
  induction r with
  |nil=>intro p last _;exact .one _ _
  |cons q r ih=>
   intro p last h
   rw [C0p]at h
   split at h
   ·cases h
   ·rename_i h1
    split at h
    ·cases h
    ·rename_i h2
     have h1:rt (A05 (vec p q) (vec p q))*rt (A05 (vec p q) (vec p q))=A05 (vec p q) (vec p q):=by simpa using h1
     cases last with
     |none=>exact .cons _ _ _ _ h1 (by omega) (by omega) (fun u hu=>by cases hu) (ih q _ h)
     |some u=>
      dsimp only at h
      split at h
      ·cases h
      ·exact .cons _ _ _ _ h1 (by omega) (by omega) (fun u' hu=>by cases hu;omega) (ih q _ h)
theorem C8b {last:Option CurveVector}{l:List Spot}(h:Good last l):goM last l=0:=by
  induction h with
  |one=>rfl
  |cons last p q r h1 h2 h3 h4 h ih=>
   rw [C0p,if_neg (by simpa using h1),if_neg (by omega)]
   cases last with
   |none=>exact ih
   |some u=>dsimp only;rw [if_neg (by have:=h4 u rfl;omega)];exact ih
structure Valid (l:List Spot):Prop where
  two:2≤l.length
  most:l.length≤16
  ok:l.all okS=true
  good:Good none l
theorem checkM_zero {l:List Spot}:A4f l=0↔Valid l:=by
  unfold A4f
  constructor
  ·intro h
   split at h
   ·cases h
   ·rename_i h1
    split at h
    ·cases h
    ·rename_i h2
     split at h
     ·rename_i h3
      cases l with
      |nil=>simp at h1
      |cons p r=>exact ⟨by omega,by omega,h3,C8a r p none h⟩
     ·cases h
  ·rintro ⟨h1,h2,h3,h4⟩
   rw [if_neg (by omega),if_neg (by omega),if_pos h3]
   exact C8b h4
end Go.Abs.World
namespace Go.Abs.World
open Go Go.Abs
/-- The pieces of a chain: the number, the piece. -/
noncomputable def B74:Nat→Int→List Spot→List (Int×CurvePiece)
  |i,s,p::q::r=>((i:Int),⟨p,vec p q,rt (A05 (vec p q) (vec p q)),s⟩)::B74 (i+1) (w64 (s+rt (A05 (vec p q) (vec p q)))) (q::r)
  |_,_,_=> []
theorem B9v (i:Nat)(s:Int)(p q:Spot)(r:List Spot):B74 i s (p::q::r)=((i:Int),⟨p,vec p q,rt (A05 (vec p q) (vec p q)),s⟩)::B74 (i+1) (w64 (s+rt (A05 (vec p q) (vec p q)))) (q::r):=by conv=>lhs;unfold B74
theorem C8c (pts:List Spot)(hok:pts.all okS=true): ∀(r:List Spot) (p:Spot) (i:Nat) (s:Int),pts.drop i=p::r→A7w pts r.length i s=some (B74 i s (p::r)):=by
  intro r
  induction r with
  |nil=>intro p i s _;rfl
  |cons q r ih=>
   intro p i s hi
   have hi1:=L0 hi
   have hp:okS p=true:=List.all_eq_true.1 hok p (List.mem_of_mem_drop (i:=i) (by rw [hi];simp))
   have hq:okS q=true:=List.all_eq_true.1 hok q (List.mem_of_mem_drop (i:=i) (by rw [hi];simp))
   have hv:=C26 hp hq
   have h0:pts[i]? =some p:=by have:=congrArg (fun z=>z[0]?) hi;simpa using this
   have h1:pts[i+1]? =some q:=by have:=congrArg (fun z=>z[0]?) hi1;simpa using this
   rw [List.length_cons,A7w,h0,h1]
   simp only [Option.bind_some,B8g hp hq,B58 hv hv,B8f]
   rw [ih q (i+1) _ hi1,B9v]
   rfl
theorem D19 {pts:List Spot}(h:Valid pts):B6t pts=some (B74 0 0 pts):=by
  unfold B6t
  have:=h.most
  rw [if_pos (by omega)]
  cases hp:pts with
  |nil=>have:=h.two;rw [hp]at this;simp at this
  |cons p r=>exact C8c (p::r) (by rw [← hp];exact h.ok) r p 0 0 rfl
/-- The lengths. -/
noncomputable def C7b:List Spot→List Int
  |p::q::r=>rt (A05 (vec p q) (vec p q))::C7b (q::r)
  |_=> []
theorem B5a (p q:Spot)(r:List Spot):C7b (p::q::r)=rt (A05 (vec p q) (vec p q))::C7b (q::r):=by conv=>lhs;unfold C7b
theorem B4g: ∀(r:List Spot) (p:Spot),(C7b (p::r)).length=r.length
  | [],_=>rfl
  |q::r,p=>by rw [B5a,List.length_cons,B4g r q,List.length_cons]
theorem B9w: ∀(r:List Spot) (p:Spot) (i:Nat) (s:Int),(B74 i s (p::r)).map (·.2.l)=C7b (p::r)
  | [],_,_,_=>rfl
  |q::r,p,i,s=>by rw [B9v,B5a,List.map_cons,B9w r q]
theorem C8d: ∀(L:List (Int×CurvePiece)) (out:List Int),out.length+L.length≤1000000000→loopL A0n (fun x=>x) L out=some (out++L.map (·.2.l)):=by
  intro L
  induction L with
  |nil=>intro out _;simp [loopL]
  |cons a L ih=>
   intro out h
   simp only [List.length_cons]at h
   have:A0n out a=some (.go (out++ [a.2.l])):=by
     unfold A0n
     rw [A9p (by simp;omega)];rfl
   rw [loopL,this]
   dsimp only
   rw [ih _ (by simp;omega)]
   simp
theorem C29 (c:Curve)(hl:c.Pts.length≤1000000):A56 c=some (if A4f c.Pts=0 then C7b c.Pts else []):=by
  unfold A56
  rw [B6g c hl,Option.bind_some]
  by_cases h:A4f c.Pts=0
  ·rw [if_pos h,h]
   have hv:=checkM_zero.1 h
   have:=hv.most
   simp only [bne_self_eq_false,cond_false,D19 hv,Option.bind_some]
   cases hp:c.Pts with
   |nil=>have:=hv.two;rw [hp]at this;simp at this
   |cons p r=>
    have e:=B9w r p 0 0
    rw [C8d _ _ (by
     have:=congrArg List.length e
     rw [List.length_map,B4g]at this
     rw [this];rw [hp]at hl;simp at hl ⊢;omega)]
    rw [e];rfl
  ·rw [if_neg h,show (A4f c.Pts !=0)=true from bne_iff_ne.2 h];rfl
theorem B9f (c:Curve)(hl:c.Pts.length≤1000000)(hok:c.Pts.all okS=true): ∀(r:List Spot) (p:Spot) (i:Nat) (out:List Int) (last:Option CurveVector),c.Pts.drop i=p::r→Good last (p::r)→out.length+r.length≤1000000→
    loop (A1v c) (out,(i:Int))=some (out++C7b (p::r)):=by
  intro r
  induction r with
  |nil=>
   intro p i out last hi _ _
   have hlt:=V5 hi
   have:=U4 (L0 hi)
   refine D5 ?_
   unfold A1v
   dsimp only
   rw [I9 (n:=(i:Int)+1) (by omega)]
   simp only [show ¬(i:Int)+1< (c.Pts.length:Int) by omega,decide_false,cond_false,C7b,List.append_nil]
  |cons q r ih=>
   intro p i out last hi hg ho
   have hlt:=V5 hi
   have hi1:=L0 hi
   have hlt1:=V5 hi1
   have hp:okS p=true:=List.all_eq_true.1 hok p (List.mem_of_mem_drop (i:=i) (by rw [hi];simp))
   have hq:okS q=true:=List.all_eq_true.1 hok q (List.mem_of_mem_drop (i:=i) (by rw [hi];simp))
   have hv:=C26 hp hq
   have hg1:D4 c.Pts ((i:Int)+1)=some q:=by have:=A2b hi1;simpa using this
   obtain ⟨l,hl1,hl2,hl3⟩:=D7m hv
   cases hg with
   |cons _ _ _ _ h1 h2 h3 h4 hg=>
    have hll:=hl3 h1
    subst hll
    simp only [List.length_cons]at ho
    have hstep:A1v c (out,(i:Int))=some (.go (out++ [rt (A05 (vec p q) (vec p q))],((i+1:Nat):Int))):=by
      unfold A1v
      dsimp only
      rw [I9 (n:=(i:Int)+1) (by omega)]
      simp only [show (i:Int)+1< (c.Pts.length:Int) by omega,decide_true,cond_true,A2b hi,hg1,Option.bind_some,B32 hp hq,B59 hv hv,hl1]
      rw [A9p (by simp;omega)]
      rfl
    rw [P2 hstep,ih q (i+1) _ _ hi1 hg (by simp;omega),B5a]
    simp
theorem C2a (c:Curve)(hl:c.Pts.length≤1000000):A9f c=some (if A4f c.Pts=0 then C7b c.Pts else []):=by
  unfold A9f
  rw [B6h c hl,Option.bind_some]
  by_cases h:A4f c.Pts=0
  ·rw [if_pos h,h]
   have hv:=checkM_zero.1 h
   simp only [bne_self_eq_false,cond_false]
   cases hp:c.Pts with
   |nil=>have:=hv.two;rw [hp]at this;simp at this
   |cons p r=>
    have:=B9f c hl hv.ok r p 0 [] none (by rw [hp];rfl) (by rw [← hp];exact hv.good) (by rw [hp]at hl;simp at hl ⊢;omega)
    rw [show ((0:Nat):Int)=0 from rfl]at this
    rw [this];rfl
  ·rw [if_neg h,show (A4f c.Pts !=0)=true from bne_iff_ne.2 h];rfl
/-- A sum, as the programs take it. -/
def C8e:Int→List Int→Int
  |s,[]=>s
  |s,a::l=>C8e (w64 (s+a)) l
theorem B9g (l:List Int)(hl:l.length≤1000000): ∀(r:List Int) (i:Nat) (s:Int),l.drop i=r→loop (W8 l) (s,(i:Int))=some (C8e s r):=by
  intro r
  induction r with
  |nil=>
   intro i s hi
   have:=U4 hi
   refine D5 ?_
   unfold W8
   simp only [show ¬(i:Int)<l.length by omega,decide_false,cond_false,C8e]
  |cons a r ih=>
   intro i s hi
   have hlt:=V5 hi
   have hstep:W8 l (s,(i:Int))=some (.go (w64 (s+a),((i+1:Nat):Int))):=by
     unfold W8
     simp only [show (i:Int)<l.length by omega,decide_true,cond_true,A2b hi,Option.bind_some]
     rw [I9 (n:=(i:Int)+1) (by omega)];rfl
   rw [P2 hstep,ih (i+1) _ (L0 hi),C8e]
theorem B9h (l:List Int)(hl:l.length≤1000000): ∀(r:List Int) (i:Nat) (s:Int),l.drop i=r→loop (A0p l) (s,(i:Int))=some (C8e s r):=by
  intro r
  induction r with
  |nil=>
   intro i s hi
   have:=U4 hi
   refine D5 ?_
   unfold A0p
   simp only [show ¬(i:Int)<l.length by omega,decide_false,cond_false,C8e]
  |cons a r ih=>
   intro i s hi
   have hlt:=V5 hi
   have hstep:A0p l (s,(i:Int))=some (.go (w64 (s+a),((i+1:Nat):Int))):=by
     unfold A0p
     simp only [show (i:Int)<l.length by omega,decide_true,cond_true,A2b hi,Option.bind_some]
     rw [I9 (n:=(i:Int)+1) (by omega)];rfl
   rw [P2 hstep,ih (i+1) _ (L0 hi),C8e]
noncomputable def B02 (c:Curve):List Int:=if A4f c.Pts=0 then C7b c.Pts else []
theorem D98: ∀l:List Spot,(C7b l).length≤l.length
  | []=>by simp [C7b]
  |p::r=>by rw [B4g];simp
theorem C3q (c:Curve):(B02 c).length≤c.Pts.length:=by
  unfold B02
  split
  ·exact D98 _
  ·simp
theorem B5b (c:Curve)(hl:c.Pts.length≤1000000):A57 c=some (C8e 0 (B02 c)):=by
  unfold A57
  rw [C29 c hl,Option.bind_some]
  have:=C3q c
  have h:=B9g (B02 c) (by omega) (B02 c) 0 0 (by simp)
  rw [show ((0:Nat):Int)=0 from rfl]at h
  show (loop (W8 (B02 c)) (0,0)).bind _=_
  rw [h];rfl
theorem C2b (c:Curve)(hl:c.Pts.length≤1000000):A3s c=some (C8e 0 (B02 c)):=by
  unfold A3s
  rw [C2a c hl,Option.bind_some]
  have:=C3q c
  have h:=B9h (B02 c) (by omega) (B02 c) 0 0 (by simp)
  rw [show ((0:Nat):Int)=0 from rfl]at h
  show (loop (A0p (B02 c)) (0,0)).bind _=_
  rw [h];rfl
end Go.Abs.World
namespace Go.Abs.World
open Go Go.Abs
/-- A quarter turn, so many times. -/
def D9z:Nat→CurveVector→CurveVector
  |0,v=>v
  |n+1,v=>D9z n ⟨-v.y,v.x⟩
theorem C8f: ∀(n:Nat) (v w:CurveVector),A05 (D9z n v) (D9z n w)=A05 v w
  |0,_,_=>rfl
  |n+1,v,w=>by rw [D9z,D9z,C8f n];unfold A05;grind
/-- A piece's vector, made of numbers: in one quadrant. -/
def E24 (n:Nat)(v:CurveVector):Prop:= ∃x y L:Int,v=D9z n ⟨x,y⟩∧0<x∧0≤y∧x*x+y*y=L*L∧1000≤L∧L≤3029∧x≤L∧y≤L
inductive Ch (Q:CurveVector→Prop):List Spot→Prop
  |one (p:Spot):Ch Q [p]
  |cons (p q:Spot) (r:List Spot) (h:Q (vec p q)) (hr:Ch Q (q::r)):Ch Q (p::q::r)
theorem C3r {n:Nat}: ∀(r:List Spot) (p:Spot) (last:Option CurveVector),Ch (E24 n) (p::r)→(∀u,last=some u→E24 n u)→Good last (p::r)
  | [],p,last,_,_=> .one _ _
  |q::r,p,last,hc,hl=>by
   cases hc with
   |cons _ _ _ h1 h2=>
    have hq:=h1
    obtain ⟨x,y,L,hv,hx,hy,hsq,hL1,hL2,hxL,hyL⟩:=h1
    have hd:A05 (vec p q) (vec p q)=L*L:=by rw [hv,C8f];unfold A05;exact hsq
    have hrt:rt (A05 (vec p q) (vec p q))=L:=by rw [hd];exact D97 (by omega) (by omega)
    refine .cons _ _ _ _ (by rw [hrt,hd]) (by rw [hrt];exact hL1) (by rw [hrt];omega) (fun u hu=> ?_) (C3r r q _ h2 (fun u hu=>by cases hu;exact hq))
    obtain ⟨x',y',L',hv',hx',hy',_⟩:=hl u hu
    rw [hv,hv',C8f]
    unfold A05
    have:=Int.mul_pos hx' hx
    have:=Int.mul_nonneg hy' hy
    dsimp only
    omega
/-- What the curves made of numbers are like. -/
structure Made (l:List Spot):Prop where
  two:2≤l.length
  six:l.length≤6
  ch: ∃n,Ch (E24 n) l
  bd: ∀p∈l, -50000≤p.X∧p.X≤50000∧ -50000≤p.Y∧p.Y≤50000
theorem Made.valid {l:List Spot}(h:Made l):Valid l:=by
  obtain ⟨n,hc⟩:=h.ch
  have:=h.two;have:=h.six
  refine ⟨h.two,by omega,List.all_eq_true.2 fun p hp=>okS_iff.2 (by have:=h.bd p hp;omega),?_⟩
  match l,h,hc with
  |p::r,_,hc=>exact C3r r p none hc (fun u hu=>by cases hu)
  | [],h,_=>exact absurd h.two (by simp)
end Go.Abs.World
namespace Go.Abs.World
open Go Go.Abs
/-! ### Loops that look for the first error -/
def J7 {α β:Type}(g:Nat→α→Option β):Nat→List α→Option β
  |_,[]=>none
  |i,a::r=>match g i a with
   |some e=>some e
   |none=>J7 g (i+1) r
def D1w {β:Type}:Option β→Sum Unit β
  |some e=> .inr e
  |none=> .inl ()
theorem Y6 {α β:Type}(l:List α)(F:Int→Option (Stp Int (Sum Unit β)))(g:Nat→α→Option β)(hF: ∀(i:Nat) a,l[i]? =some a→F (i:Int)=some (match g i a with|some e=> .out (.inr e)|none=> .go ((i+1:Nat):Int)))(h0:F (l.length:Int)=some (.out (.inl ()))):
    loop F 0=some (D1w (J7 g 0 l)):=by
  have key: ∀(r:List α) (i:Nat),l.drop i=r→i≤l.length→loop F (i:Int)=some (D1w (J7 g i r)):=by
    intro r
    induction r with
    |nil=>
     intro i hi hil
     have:i=l.length:=by have:=List.drop_eq_nil_iff.1 hi;omega
     subst this
     exact D5 h0
    |cons a r ih=>
     intro i hi hil
     have hlt:i<l.length:=by
       rcases Nat.lt_or_ge i l.length with q|q
       ·exact q
       ·rw [List.drop_eq_nil_of_le q]at hi;cases hi
     have ha:l[i]? =some a:=by have:=congrArg (fun z=>z[0]?) hi;simpa using this
     have hr:l.drop (i+1)=r:=by have:=congrArg (fun z=>z.drop 1) hi;simpa using this
     have hs:=hF i a ha
     unfold J7
     cases hg:g i a with
     |some e=>rw [hg]at hs;exact D5 hs
     |none=>rw [hg]at hs;rw [P2 hs];exact ih (i+1) hr (by omega)
  have:=key l 0 rfl (by omega)
  exact this
theorem firstE_none {α β:Type}{g:Nat→α→Option β}: ∀{l:List α} {i:Nat},J7 g i l=none↔∀(j:Nat) a,l[j]? =some a→g (i+j) a=none
  | [],i=>by simp [J7]
  |a::r,i=>by
   unfold J7
   cases h:g i a with
   |some e=>
    constructor
    ·intro h';cases h'
    ·intro h';have:=h' 0 a rfl;rw [Nat.add_zero,h]at this;cases this
   |none=>
    dsimp only
    rw [firstE_none (l:=r)]
    constructor
    ·intro h' j b hj
     cases j with
     |zero=>cases hj;exact h
     |succ j=>have:=h' j b hj;rwa [show i+1+j=i+ (j+1) by omega]at this
    ·intro h' j b hj
     have:=h' (j+1) b hj
     rwa [show i+ (j+1)=i+1+j by omega]at this
/-! ### Numbers -/
def inR (n a b:Int):Bool:=decide (a≤n)&&decide (n≤b)
theorem B3m (n a b:Int):A0l n a b=some (inR n a b):=rfl
theorem B3n (n a b:Int):A2k n a b=some (inR n a b):=rfl
def A77 (kind:Int):Int×Int×Int:=if kind=1 then (2000,30,90)else if kind=2 then (1000,20,60)else if kind=3 then (300,100,300)else (0,0,0)
theorem B5c (k:Int):A1a k=some (A77 k):=by
  unfold A1a A77
  by_cases h:k<0∨k≥4
  ·rw [show ((decide (k<0))||(decide (k≥4)))=true by simpa using h,cond_true,if_neg (by omega),if_neg (by omega),if_neg (by omega)]
  ·rw [show ((decide (k<0))||(decide (k≥4)))=false by rw [Bool.eq_false_iff];simpa using h,cond_false]
   obtain ⟨h1,h2⟩:=not_or.1 h
   rcases (show k=0∨k=1∨k=2∨k=3 by omega)with rfl|rfl|rfl|rfl<;>rfl
theorem B3o (k:Int):A3r k=some (A77 k):=by
  unfold A3r A77
  by_cases h1:k=1
  ·subst h1;rfl
  ·by_cases h2:k=2
   ·subst h2;rfl
   ·by_cases h3:k=3
    ·subst h3;rfl
    ·rw [if_neg h1,if_neg h2,if_neg h3]
     rw [show (k==1)=false by simpa using h1,show (k==2)=false by simpa using h2,show (k==3)=false by simpa using h3];rfl
end Go.Abs.World
namespace Go.Abs.World
open Go Go.Abs
theorem wid {n:Int}(h: -9223372036854775808≤n∧n≤9223372036854775807):w64 n=n:=Go.IntWalk.i64_in n h
theorem E6 {α:Type}{l:List α}{i:Nat}{a:α}(h:l[i]? =some a):D4 l (i:Int)=some a:=by
  unfold D4;rw [if_pos (by omega),Int.toNat_natCast];exact h
theorem U2 {α:Type}{l:List α}{i:Nat}{a:α}(h:l[i]? =some a):i<l.length:=(List.getElem?_eq_some_iff.1 h).1
theorem C5b {α:Type}(c:Bool)(a b:α):cond c (some a) (some b)=some (cond c a b):=by cases c<;>rfl
def A6b (high:Int):Int→List Int→Bool
  |_,[]=>true
  |low,n::r=>decide (low≤n)&&decide (n<high)&&A6b high (n+1) r
theorem C2c (l:List Int)(low high:Int)(hl:l.length≤1000000)(hh:high≤1000000000)(h0:0≤low):A2d l low high=some (A6b high low l):=by
  have key: ∀(r:List Int) (i:Nat) (lo:Int),0≤lo→l.drop i=r→i≤l.length→loop (Z5 l high) (lo,(i:Int))=some (if A6b high lo r then .inl ()else .inr false):=by
    intro r
    induction r with
    |nil=>
     intro i lo _ hi hil
     have:=U4 hi
     refine D5 ?_
     unfold Z5
     dsimp only
     rw [show decide ((i:Int)< (l.length:Int))=false from decide_eq_false (by omega)];rfl
    |cons n r ih=>
     intro i lo hlo hi hil
     have hlt:=V5 hi
     have hs:Z5 l high (lo,(i:Int))=some (if decide (lo≤n)&&decide (n<high)then .go (n+1,((i+1:Nat):Int))else .out (.inr false)):=by
       unfold Z5
       dsimp only
       rw [show decide ((i:Int)< (l.length:Int))=true from decide_eq_true (by omega),A2b hi,cond_true,Option.bind_some,wid (n:=(i:Int)+1) (by omega)]
       by_cases q:lo≤n∧n<high
       ·rw [show ((decide (n<lo))||(decide (n≥high)))=false by rw [Bool.eq_false_iff];simp;omega,cond_false,wid (n:=n+1) (by omega),if_pos (by simpa using q)];rfl
       ·rw [show ((decide (n<lo))||(decide (n≥high)))=true by simp;omega,cond_true,if_neg (by simpa using q)]
     unfold A6b
     cases q:(decide (lo≤n)&&decide (n<high))
     ·rw [q]at hs;rw [D5 hs];rfl
     ·rw [q]at hs
      simp only [Bool.and_eq_true,decide_eq_true_eq]at q
      rw [P2 hs,ih (i+1) (n+1) (by omega) (L0 hi) (by omega)];rfl
  unfold A2d
  have:=key l 0 low h0 rfl (by omega)
  rw [show ((0:Nat):Int)=0 from rfl]at this
  rw [this]
  cases A6b high low l<;>rfl
theorem B9i (l:List Int)(low high:Int)(hl:l.length≤1000000):A43 l low high=some (A6b high low l):=by
  have key: ∀(r:List Int) (i:Nat) (lo:Int),low≤lo→(i=0→lo=low)→(0<i→l[i - 1]? =some (lo - 1))→l.drop i=r→i≤l.length→loop (A11 l low high) (i:Int)=some (if A6b high lo r then .inl ()else .inr false):=by
    intro r
    induction r with
    |nil=>
     intro i lo _ _ _ hi hil
     have:=U4 hi
     refine D5 ?_
     unfold A11
     rw [show decide ((i:Int)< (l.length:Int))=false from decide_eq_false (by omega)];rfl
    |cons n r ih=>
     intro i lo hlo h0 h1 hi hil
     have hlt:=V5 hi
     have hn:l[i]? =some n:=by have:=congrArg (fun z=>z[0]?) hi;simpa using this
     have hs:A11 l low high (i:Int)=some (if decide (lo≤n)&&decide (n<high)then .go ((i+1:Nat):Int)else .out (.inr false)):=by
       unfold A11
       rw [show decide ((i:Int)< (l.length:Int))=true from decide_eq_true (by omega),A2b hi,cond_true,Option.bind_some,C5b,Option.bind_some,C5b,Option.bind_some,wid (n:=(i:Int)+1) (by omega)]
       by_cases q1:n<low
       ·rw [decide_eq_true q1,if_neg (by simp;omega)];rfl
       ·rw [decide_eq_false q1]
        simp only [Bool.not_false,cond_true,Bool.false_or]
        by_cases q2:n≥high
        ·rw [decide_eq_true q2,if_neg (by simp;omega)];rfl
        ·rw [decide_eq_false q2]
         simp only [Bool.not_false,Bool.true_and,Bool.false_or]
         by_cases q3:(i:Int)>0
         ·have e:D4 l (w64 ((i:Int) - 1))=some (lo - 1):=by
            rw [wid (n:=(i:Int) - 1) (by omega),show (i:Int) - 1=((i - 1:Nat):Int) by omega]
            exact E6 (h1 (by omega))
          rw [decide_eq_true q3,cond_true,cond_true,e,Option.bind_some,Bool.true_and]
          by_cases q4:n≤lo - 1
          ·rw [decide_eq_true q4,if_neg (by simp;omega)];rfl
          ·rw [decide_eq_false q4,if_pos (by simp;omega)];rfl
         ·have:lo=low:=h0 (by omega)
          rw [decide_eq_false q3,cond_false,Option.bind_some,Bool.false_and,if_pos (by simp;omega)];rfl
     unfold A6b
     cases q:(decide (lo≤n)&&decide (n<high))
     ·rw [q]at hs;rw [D5 hs];rfl
     ·rw [q]at hs
      simp only [Bool.and_eq_true,decide_eq_true_eq]at q
      rw [P2 hs,ih (i+1) (n+1) (by omega) (fun z=>by omega) (fun _=>by rw [Nat.add_sub_cancel,hn];congr 1;omega) (L0 hi) (by omega)];rfl
  unfold A43
  have:=key l 0 low (Int.le_refl _) (fun _=>rfl) (fun z=>by omega) rfl (by omega)
  rw [show ((0:Nat):Int)=0 from rfl]at this
  rw [this]
  cases A6b high low l<;>rfl
end Go.Abs.World
namespace Go.Abs.World
open Go Go.Abs
noncomputable def C0q (c:Curve):Int:=C8e 0 (B02 c)
theorem D99 {m:Map}{i:Nat}{l:Lane}(h:m.Lanes[i]? =some l)(hl:l.Curve_.Pts.length≤1000000):A3d m (i:Int)=some (C0q l.Curve_):=by
  unfold A3d
  rw [E6 h,Option.bind_some,B5b _ hl];rfl
/-- The lists of a map are of bearable lengths. -/
structure Bear (m:Map):Prop where
  lanes:m.Lanes.length≤1000000
  pts: ∀l∈m.Lanes,l.Curve_.Pts.length≤1000000∧l.Next.length≤1000000
noncomputable def laneE (n:Nat)(i:Nat)(l:Lane):Option Int:=
  if (A77 l.Kind).1=0 then some 4
  else if A4f l.Curve_.Pts≠0 then some (A4f l.Curve_.Pts)
  else if (inR l.Half 200 4000&&inR l.Limit 1 (A77 l.Kind).1)=false then some 2
  else if 3<l.Next.length then some 8
  else if A6b n (i+1) l.Next=false then some 11 else none
theorem D6c {m:Map}(B:Bear m):X9 ⟨m⟩=some ((J7 (laneE m.Lanes.length) 0 m.Lanes).getD 0):=by
  have h:=Y6 m.Lanes (S7 ⟨m⟩) (laneE m.Lanes.length) (fun i l hl=>by
    have hi:=U2 hl
    have hb:=B.lanes
    obtain ⟨p1,p2⟩:=B.pts l (List.mem_of_getElem? hl)
    unfold S7 laneE
    dsimp only
    rw [show decide ((i:Int)< (m.Lanes.length:Int))=true from decide_eq_true (by omega),E6 hl,cond_true,Option.bind_some,B5c,Option.bind_some,B6g _ p1,Option.bind_some,B3m,B3m,Option.bind_some,C5b,Option.bind_some,wid (n:=(i:Int)+1) (by omega),C2c _ _ _ p2 (by omega) (by omega),Option.bind_some]
    by_cases h1:(A77 l.Kind).1=0
    ·rw [if_pos h1,show ((A77 l.Kind).1==0)=true by simpa using h1];rfl
    ·rw [if_neg h1,show ((A77 l.Kind).1==0)=false by simpa using h1,cond_false]
     by_cases h2:A4f l.Curve_.Pts≠0
     ·rw [if_pos h2,show (A4f l.Curve_.Pts !=0)=true by simpa using h2];rfl
     ·rw [if_neg h2,show (A4f l.Curve_.Pts !=0)=false by simpa using h2,cond_false]
      cases inR l.Half 200 4000
      ·rfl
      ·cases inR l.Limit 1 (A77 l.Kind).1
       ·rfl
       ·simp only [Bool.not_true,Bool.not_false,cond_true,cond_false,Bool.false_or,Bool.and_self]
        rw [if_neg (by decide)]
        by_cases h3:3<l.Next.length
        ·rw [if_pos h3,show decide ((l.Next.length:Int)>3)=true from decide_eq_true (by omega)];rfl
        ·rw [if_neg h3,show decide ((l.Next.length:Int)>3)=false from decide_eq_false (by omega),cond_false]
         cases A6b (m.Lanes.length:Int) ((i:Int)+1) l.Next<;>rfl) (by
    unfold S7
    dsimp only
    rw [show decide ((m.Lanes.length:Int)< (m.Lanes.length:Int))=false from decide_eq_false (by omega)];rfl)
  unfold X9
  rw [h]
  cases J7 (laneE m.Lanes.length) 0 m.Lanes<;>rfl
end Go.Abs.World
namespace Go.Abs.World
open Go Go.Abs
theorem D6d (k:Int):((decide (k<1))||(decide (k>3)))=decide ((A77 k).1=0):=by
  unfold A77
  by_cases h1:k=1
  ·subst h1;rfl
  ·by_cases h2:k=2
   ·subst h2;rfl
   ·by_cases h3:k=3
    ·subst h3;rfl
    ·rw [if_neg h1,if_neg h2,if_neg h3]
     simp only [decide_true,Bool.or_eq_true,decide_eq_true_eq]
     omega
theorem D6e {m:Map}(B:Bear m){i:Nat}{l:Lane}(hl:m.Lanes[i]? =some l):A5f m (i:Int)=some ((laneE m.Lanes.length i l).getD 0):=by
  have hi:=U2 hl
  have hb:=B.lanes
  obtain ⟨p1,p2⟩:=B.pts l (List.mem_of_getElem? hl)
  unfold A5f laneE
  rw [E6 hl,Option.bind_some,D6d,B6h _ p1,Option.bind_some,B3o,Option.bind_some,B3n,B3n,Option.bind_some,C5b,Option.bind_some,wid (n:=(i:Int)+1) (by omega),B9i _ _ _ p2,Option.bind_some]
  by_cases h1:(A77 l.Kind).1=0
  ·rw [if_pos h1,decide_eq_true h1];rfl
  ·rw [if_neg h1,decide_eq_false h1,cond_false]
   by_cases h2:A4f l.Curve_.Pts≠0
   ·rw [if_pos h2,show (A4f l.Curve_.Pts !=0)=true by simpa using h2];rfl
   ·rw [if_neg h2,show (A4f l.Curve_.Pts !=0)=false by simpa using h2,cond_false]
    cases inR l.Half 200 4000
    ·rfl
    ·cases inR l.Limit 1 (A77 l.Kind).1
     ·rfl
     ·simp only [Bool.not_true,Bool.not_false,cond_true,cond_false,Bool.false_or,Bool.and_self]
      rw [if_neg (by decide)]
      by_cases h3:3<l.Next.length
      ·rw [if_pos h3,show decide ((l.Next.length:Int)>3)=true from decide_eq_true (by omega)];rfl
      ·rw [if_neg h3,show decide ((l.Next.length:Int)>3)=false from decide_eq_false (by omega),cond_false]
       cases A6b (m.Lanes.length:Int) ((i:Int)+1) l.Next<;>rfl
theorem C5c {n i:Nat}{l:Lane}{e:Int}(h:laneE n i l=some e):e≠0:=by
  unfold laneE at h
  split at h
  ·cases h;decide
  ·split at h
   ·rename_i h2;cases h;exact h2
   ·split at h
    ·cases h;decide
    ·split at h
     ·cases h;decide
     ·split at h
      ·cases h;decide
      ·cases h
theorem C8g {m:Map}(B:Bear m):loop (A2z m) 0=some (D1w (J7 (laneE m.Lanes.length) 0 m.Lanes)):=
  Y6 m.Lanes (A2z m) (laneE m.Lanes.length) (fun i l hl=>by
   have hi:=U2 hl
   have hb:=B.lanes
   unfold A2z
   rw [show decide ((i:Int)< (m.Lanes.length:Int))=true from decide_eq_true (by omega),D6e B hl,cond_true,Option.bind_some,wid (n:=(i:Int)+1) (by omega)]
   cases h:laneE m.Lanes.length i l with
   |none=>rfl
   |some e=>
    rw [Option.getD_some,show (e !=0)=true by simpa using C5c h];rfl) (by
   unfold A2z
   rw [show decide ((m.Lanes.length:Int)< (m.Lanes.length:Int))=false from decide_eq_false (by omega)];rfl)
end Go.Abs.World
namespace Go.Abs.World
open Go Go.Abs
theorem B1x {high:Int}: ∀{l:List Int} {low:Int},A6b high low l=true→∀k∈l,low≤k∧k<high
  | [],_,_,k,hk=>by cases hk
  |n::r,low,h,k,hk=>by
   unfold A6b at h
   simp only [Bool.and_eq_true,decide_eq_true_eq]at h
   rcases List.mem_cons.1 hk with rfl|hk
   ·exact h.1
   ·have:=B1x h.2 k hk
    omega
/-- What a lane is that has no error of its own. -/
structure LaneOK (n i:Nat)(l:Lane):Prop where
  kind:(A77 l.Kind).1≠0
  curve:A4f l.Curve_.Pts=0
  half:inR l.Half 200 4000=true
  limit:inR l.Limit 1 (A77 l.Kind).1=true
  few:l.Next.length≤3
  next:A6b n (i+1) l.Next=true
theorem D1a {n i:Nat}{l:Lane}(h:laneE n i l=none):LaneOK n i l:=by
  unfold laneE at h
  split at h
  ·cases h
  ·rename_i h1
   split at h
   ·cases h
   ·rename_i h2
    split at h
    ·cases h
    ·rename_i h3
     split at h
     ·cases h
     ·rename_i h4
      split at h
      ·cases h
      ·rename_i h5
       simp only [Bool.not_eq_false,Bool.and_eq_true]at h3
       exact ⟨h1,Decidable.not_not.1 h2,h3.1,h3.2,by omega,by simpa using h5⟩
theorem B8h {m:Map}(h:J7 (laneE m.Lanes.length) 0 m.Lanes=none){i:Nat}{l:Lane}(hl:m.Lanes[i]? =some l):LaneOK m.Lanes.length i l:=by
  have:=firstE_none.1 h i l hl
  rw [Nat.zero_add]at this
  exact D1a this
end Go.Abs.World
namespace Go.Abs.World
open Go Go.Abs
theorem C2d {l:List Spot}(h:A4f l=0):2≤l.length:=by
  unfold A4f at h
  split at h
  ·cases h
  ·omega
def C38 (l:List Spot):Spot:=l.headD ⟨0,0⟩
def C08 (l:List Spot):Spot:=l.getLastD ⟨0,0⟩
theorem C6u {l:List Spot}(h:2≤l.length):D4 l 0=some (C38 l):=by
  cases l with
  |nil=>simp at h
  |cons a r=>rfl
theorem C6v {l:List Spot}(h:2≤l.length)(hl:l.length≤1000000):D4 l (w64 ((l.length:Int) - 1))=some (C08 l):=by
  rw [wid (by omega),show (l.length:Int) - 1=((l.length - 1:Nat):Int) by omega]
  refine E6 ?_
  unfold C08
  rw [List.getLastD_eq_getLast?,List.getLast?_eq_getElem?]
  rw [List.getElem?_eq_getElem (by omega)];rfl
def D3r (a b:Spot):Bool:=a.X==b.X&& (a.Y==b.Y&&true)
def C2e (m:Map)(l:Lane)(_:Nat)(k:Int):Option Int:=
  match m.Lanes[k.toNat]? with
  |some n=>if n.Kind≠l.Kind then some 4 else if D3r (C38 n.Curve_.Pts) (C08 l.Curve_.Pts)=false then some 3 else none
  |none=>none
def nextE (m:Map)(_:Nat)(l:Lane):Option Int:=J7 (C2e m l) 0 l.Next
theorem C3s {m:Map}(B:Bear m)(H:J7 (laneE m.Lanes.length) 0 m.Lanes=none){i:Nat}{l:Lane}(hl:m.Lanes[i]? =some l){j:Nat}{k:Int}(hk:l.Next[j]? =some k):
    ∃n,D4 m.Lanes k=some n∧m.Lanes[k.toNat]? =some n∧2≤n.Curve_.Pts.length∧n.Curve_.Pts.length≤1000000:=by
  have L:=B8h H hl
  have hb:=B1x L.next k (List.mem_of_getElem? hk)
  have hlt:k.toNat<m.Lanes.length:=by omega
  refine ⟨m.Lanes[k.toNat],?_,List.getElem?_eq_getElem hlt,C2d (B8h H (List.getElem?_eq_getElem hlt)).curve,(B.pts _ (List.getElem_mem hlt)).1⟩
  unfold D4
  rw [if_pos (by omega),List.getElem?_eq_getElem hlt]
end Go.Abs.World
namespace Go.Abs.World
open Go Go.Abs
theorem D3s {m:Map}{l:Lane}{j:Nat}{k e:Int}(h:C2e m l j k=some e):e≠0:=by
  unfold C2e at h
  split at h
  ·split at h
   ·cases h;decide
   ·split at h
    ·cases h;decide
    ·cases h
  ·cases h
theorem C6w {m:Map}(B:Bear m)(H:J7 (laneE m.Lanes.length) 0 m.Lanes=none){i:Nat}{l:Lane}(hl:m.Lanes[i]? =some l):
    loop (R2 ⟨m⟩ l (C08 l.Curve_.Pts)) 0=some (D1w (nextE m i l))∧loop (A0w m l) 0=some (D1w (nextE m i l)):=by
  have L:=B8h H hl
  obtain ⟨p1,p2⟩:=B.pts l (List.mem_of_getElem? hl)
  constructor
  ·refine Y6 l.Next _ (C2e m l) (fun j k hk=> ?_) ?_
   ·have hj:=U2 hk
    obtain ⟨n,g1,g2,g3,g4⟩:=C3s B H hl hk
    unfold R2 C2e
    dsimp only
    rw [show decide ((j:Int)< (l.Next.length:Int))=true from decide_eq_true (by omega),E6 hk,cond_true,Option.bind_some,g1,Option.bind_some,Option.bind_some,C6u g3,Option.bind_some,wid (n:=(j:Int)+1) (by omega),g2]
    dsimp only
    rw [show ((C38 n.Curve_.Pts).X==(C08 l.Curve_.Pts).X&& ((C38 n.Curve_.Pts).Y==(C08 l.Curve_.Pts).Y&&true))=D3r (C38 n.Curve_.Pts) (C08 l.Curve_.Pts) from rfl]
    by_cases h1:n.Kind≠l.Kind
    ·rw [if_pos h1,show (n.Kind !=l.Kind)=true by simpa using h1];rfl
    ·rw [if_neg h1,show (n.Kind !=l.Kind)=false by simpa using h1]
     cases D3r (C38 n.Curve_.Pts) (C08 l.Curve_.Pts)<;>rfl
   ·unfold R2
    rw [show decide ((l.Next.length:Int)< (l.Next.length:Int))=false from decide_eq_false (by omega)];rfl
  ·refine Y6 l.Next _ (C2e m l) (fun j k hk=> ?_) ?_
   ·have hj:=U2 hk
    obtain ⟨n,g1,g2,g3,g4⟩:=C3s B H hl hk
    unfold A0w C2e
    rw [show decide ((j:Int)< (l.Next.length:Int))=true from decide_eq_true (by omega),E6 hk,cond_true,Option.bind_some,g1,Option.bind_some,C6u g3,Option.bind_some,C6v (C2d L.curve) p1,Option.bind_some,wid (n:=(j:Int)+1) (by omega),g2]
    dsimp only
    rw [show ((C38 n.Curve_.Pts).X==(C08 l.Curve_.Pts).X&& ((C38 n.Curve_.Pts).Y==(C08 l.Curve_.Pts).Y&&true))=D3r (C38 n.Curve_.Pts) (C08 l.Curve_.Pts) from rfl]
    by_cases h1:n.Kind≠l.Kind
    ·rw [if_pos h1,show (n.Kind !=l.Kind)=true by simpa using h1];rfl
    ·rw [if_neg h1,show (n.Kind !=l.Kind)=false by simpa using h1]
     cases D3r (C38 n.Curve_.Pts) (C08 l.Curve_.Pts)<;>rfl
   ·unfold A0w
    rw [show decide ((l.Next.length:Int)< (l.Next.length:Int))=false from decide_eq_false (by omega)];rfl
end Go.Abs.World
namespace Go.Abs.World
open Go Go.Abs
theorem C6x {m:Map}(B:Bear m)(H:J7 (laneE m.Lanes.length) 0 m.Lanes=none):
    W5 ⟨m⟩=some ((J7 (nextE m) 0 m.Lanes).getD 0)∧A5g m=some ((J7 (nextE m) 0 m.Lanes).getD 0):=by
  have hb:=B.lanes
  constructor
  ·have h:=Y6 m.Lanes (R3 ⟨m⟩) (nextE m) (fun i l hl=>by
     have hi:=U2 hl
     have L:=B8h H hl
     obtain ⟨p1,p2⟩:=B.pts l (List.mem_of_getElem? hl)
     unfold R3
     dsimp only
     rw [show decide ((i:Int)< (m.Lanes.length:Int))=true from decide_eq_true (by omega),E6 hl,cond_true,Option.bind_some,C6v (C2d L.curve) p1,Option.bind_some,(C6w B H hl).1,wid (n:=(i:Int)+1) (by omega)]
     cases nextE m i l<;>rfl) (by
     unfold R3
     dsimp only
     rw [show decide ((m.Lanes.length:Int)< (m.Lanes.length:Int))=false from decide_eq_false (by omega)];rfl)
   unfold W5
   rw [h]
   cases J7 (nextE m) 0 m.Lanes<;>rfl
  ·have h:=Y6 m.Lanes (A0x m) (nextE m) (fun i l hl=>by
     have hi:=U2 hl
     unfold A0x
     rw [show decide ((i:Int)< (m.Lanes.length:Int))=true from decide_eq_true (by omega),E6 hl,cond_true,Option.bind_some,(C6w B H hl).2,wid (n:=(i:Int)+1) (by omega)]
     cases nextE m i l<;>rfl) (by
     unfold A0x
     rw [show decide ((m.Lanes.length:Int)< (m.Lanes.length:Int))=false from decide_eq_false (by omega)];rfl)
   unfold A5g
   rw [h]
   cases J7 (nextE m) 0 m.Lanes<;>rfl
end Go.Abs.World
namespace Go.Abs.World
open Go Go.Abs
/-- The place of the first element with a property. -/
theorem C3t {α:Type}{f:Int→Option (Stp Int (Sum Unit Int))}(l:List α)(P:α→Bool)(hl:l.length≤1000000000)(hf: ∀(i:Nat) a,l[i]? =some a→f (i:Int)=some (if P a then .out (.inr (i:Int))else .go (w64 ((i:Int)+1))))(he:f (l.length:Int)=some (.out (.inl ()))):
    loop f 0=some (match l.findIdx? P with|some i=> .inr (i:Int)|none=> .inl ()):=by
  have key: ∀(r:List α) (i:Nat),l.drop i=r→i≤l.length→loop f (i:Int)=some (match r.findIdx? P with|some j=> .inr ((i+j:Nat):Int)|none=> .inl ()):=by
    intro r
    induction r with
    |nil=>
     intro i hi hil
     have:=U4 hi
     obtain rfl:i=l.length:=by omega
     rw [D5 he];rfl
    |cons a r ih=>
     intro i hi _
     have hlt:=V5 hi
     have h0:l[i]? =some a:=by have:=congrArg (fun z=>z[0]?) hi;simpa using this
     have hs:=hf i a h0
     rw [List.findIdx?_cons]
     by_cases hp:P a=true
     ·rw [if_pos hp]at hs
      rw [D5 hs,if_pos hp];simp
     ·rw [if_neg hp]at hs
      rw [I9 (by omega)]at hs
      rw [P2 hs,show ((i:Int)+1)=((i+1:Nat):Int) by omega,ih (i+1) (L0 hi) (by omega),if_neg hp]
      cases r.findIdx? P with
      |none=>rfl
      |some j=>simp only [Option.map_some];congr 3;omega
  have:=key l 0 rfl (by omega)
  rw [show ((0:Nat):Int)=0 from rfl]at this
  rw [this]
  cases l.findIdx? P<;>simp
/-- -1, or the place. -/
def E16 {α:Type}(P:α→Bool)(l:List α):Int:=match l.findIdx? P with|some i=>(i:Int)|none=> -1
theorem C0r {α:Type}(P:α→Bool)(l:List α):decide (E16 P l≥0)=l.any P:=by
  unfold E16
  cases h:l.findIdx? P with
  |none=>
   have:=List.findIdx?_eq_none_iff.1 h
   rw [show l.any P=false by rw [List.any_eq_false];intro x hx;simpa using this x hx]
   decide
  |some i=>
   have:=List.findIdx?_isSome (xs:=l) (p:=P)
   rw [h]at this
   rw [← this]
   simp
/-- What both twins compute of a list. -/
theorem C5d {α:Type}{f:Int→Option (Stp Int (Sum Unit Int))}(l:List α)(P:α→Bool)(hl:l.length≤1000000000)(hf: ∀(i:Nat) a,l[i]? =some a→f (i:Int)=some (if P a then .out (.inr (i:Int))else .go (w64 ((i:Int)+1))))(he:f (l.length:Int)=some (.out (.inl ()))):
    thenS (loop f 0) (fun _=>some (-1)) (fun r=>some r)=some (E16 P l):=by
  rw [C3t l P hl hf he]
  unfold E16
  cases l.findIdx? P<;>rfl
end Go.Abs.World
namespace Go.Abs.World
open Go Go.Abs
theorem D3t (l:List Phase)(hl:l.length≤1000000):C7 l=some (l.any fun p=> !inR p.Ticks 1 10000):=by
  unfold C7 E4
  rw [C5d l (fun p=> !inR p.Ticks 1 10000) (by omega) (fun i a h=>by
   have:=U2 h
   unfold C6 Y0
   rw [show decide ((i:Int)< (l.length:Int))=true from decide_eq_true (by omega),E6 h,cond_true,Option.bind_some,B3m,Option.bind_some,Option.bind_some]
   cases inR a.Ticks 1 10000<;>rfl) (by
   unfold C6
   simp)]
  rw [Option.bind_some,C0r]
theorem D1b (m:Map)(l:List Phase)(hl:l.length≤1000000)(hm:m.Lanes.length≤1000000)(hg: ∀p∈l,p.Green.length≤1000000):C5 l ⟨m⟩=some (l.any fun p=> !A6b m.Lanes.length 0 p.Green):=by
  unfold C5 E3
  rw [C5d l (fun p=> !A6b m.Lanes.length 0 p.Green) (by omega) (fun i a h=>by
   have:=U2 h
   unfold C4 V6
   dsimp only
   rw [show decide ((i:Int)< (l.length:Int))=true from decide_eq_true (by omega),E6 h,cond_true,Option.bind_some,C2c _ _ _ (hg a (List.mem_of_getElem? h)) (by omega) (by omega),Option.bind_some,Option.bind_some]
   cases A6b (m.Lanes.length:Int) 0 a.Green<;>rfl) (by
   unfold C4
   simp)]
  rw [Option.bind_some,C0r]
end Go.Abs.World
namespace Go.Abs.World
open Go Go.Abs
structure BearS (m:Map):Prop where
  many:m.Signals.length≤1000000
  phases: ∀s∈m.Signals,s.Phases.length≤1000000∧∀p∈s.Phases,p.Green.length≤1000000
def signalE (m:Map)(_:Nat)(s:Signal):Option Int:=
  if s.Phases.length=0 then some 6
  else if 6<s.Phases.length then some 8
  else if inR s.Offset 0 1099511627776=false then some 2
  else if (s.Phases.any fun p=> !inR p.Ticks 1 10000)=true then some 2
  else if (s.Phases.any fun p=> !A6b m.Lanes.length 0 p.Green)=true then some 11 else none
theorem D1c {m:Map}(B:Bear m)(S:BearS m):U8 ⟨m⟩=some ((J7 (signalE m) 0 m.Signals).getD 0):=by
  have h:=Y6 m.Signals (P9 ⟨m⟩) (signalE m) (fun i s hs=>by
    have hi:=U2 hs
    have hb:=S.many
    obtain ⟨p1,p2⟩:=S.phases s (List.mem_of_getElem? hs)
    unfold P9 signalE
    dsimp only
    rw [show decide ((i:Int)< (m.Signals.length:Int))=true from decide_eq_true (by omega),E6 hs,cond_true,Option.bind_some,B3m,Option.bind_some,D3t _ p1,Option.bind_some,D1b m _ p1 B.lanes p2,Option.bind_some,wid (n:=(i:Int)+1) (by omega)]
    by_cases h1:s.Phases.length=0
    ·rw [if_pos h1,h1];rfl
    ·rw [if_neg h1,show ((s.Phases.length:Int)==0)=false by simp only [beq_eq_false_iff_ne];omega,cond_false]
     by_cases h2:6<s.Phases.length
     ·rw [if_pos h2,show decide ((s.Phases.length:Int)>6)=true from decide_eq_true (by omega)];rfl
     ·rw [if_neg h2,show decide ((s.Phases.length:Int)>6)=false from decide_eq_false (by omega),cond_false]
      cases inR s.Offset 0 1099511627776
      ·rfl
      ·cases (s.Phases.any fun p=> !inR p.Ticks 1 10000)
       ·cases (s.Phases.any fun p=> !A6b m.Lanes.length 0 p.Green)<;>rfl
       ·rfl) (by
    unfold P9
    dsimp only
    rw [show decide ((m.Signals.length:Int)< (m.Signals.length:Int))=false from decide_eq_false (by omega)];rfl)
  unfold U8
  rw [h]
  cases J7 (signalE m) 0 m.Signals<;>rfl
end Go.Abs.World
namespace Go.Abs.World
open Go Go.Abs
theorem C8h (s:Signal)(hl:s.Phases.length≤1000000): ∀(r:List Phase) (i:Nat) (b:Bool),s.Phases.drop i=r→i≤s.Phases.length→loop (W2 s) (b,(i:Int))=some (b&& !(r.any fun p=> !inR p.Ticks 1 10000)):=by
  intro r
  induction r with
  |nil=>
   intro i b hi hil
   have:=U4 hi
   refine D5 ?_
   unfold W2
   dsimp only
   rw [show decide ((i:Int)< (s.Phases.length:Int))=false from decide_eq_false (by omega)]
   simp
  |cons p r ih=>
   intro i b hi hil
   have hlt:=V5 hi
   have hs:W2 s (b,(i:Int))=some (.go (b&&inR p.Ticks 1 10000,((i+1:Nat):Int))):=by
     unfold W2
     dsimp only
     rw [show decide ((i:Int)< (s.Phases.length:Int))=true from decide_eq_true (by omega),A2b hi,wid (n:=(i:Int)+1) (by omega)]
     cases b<;>rfl
   rw [P2 hs,ih (i+1) _ (L0 hi) (by omega),List.any_cons]
   cases b<;>cases inR p.Ticks 1 10000<;>simp
end Go.Abs.World
namespace Go.Abs.World
open Go Go.Abs
theorem C6y (m:Map)(s:Signal)(hl:s.Phases.length≤1000000)(hg: ∀p∈s.Phases,p.Green.length≤1000000):loop (W1 m s) 0=some (if (s.Phases.any fun p=> !A6b m.Lanes.length 0 p.Green)=true then .inr 11 else .inl ()):=by
  have h:=Y6 s.Phases (W1 m s) (fun _ p=>if A6b m.Lanes.length 0 p.Green then none else some 11) (fun i p hp=>by
    have:=U2 hp
    unfold W1
    rw [show decide ((i:Int)< (s.Phases.length:Int))=true from decide_eq_true (by omega),E6 hp,cond_true,Option.bind_some,B9i _ _ _ (hg p (List.mem_of_getElem? hp)),Option.bind_some,wid (n:=(i:Int)+1) (by omega)]
    cases A6b (m.Lanes.length:Int) 0 p.Green<;>rfl) (by
    unfold W1
    rw [show decide ((s.Phases.length:Int)< (s.Phases.length:Int))=false from decide_eq_false (by omega)];rfl)
  rw [h]
  have key: ∀(l:List Phase) (i:Nat),D1w (J7 (fun (_:Nat) (p:Phase)=>if A6b (m.Lanes.length:Int) 0 p.Green=true then none else some (11:Int)) i l)=if (l.any fun p=> !A6b m.Lanes.length 0 p.Green)=true then .inr 11 else .inl ():=by
    intro l
    induction l with
    |nil=>intro i;rfl
    |cons p r ih=>
     intro i
     unfold J7
     rw [List.any_cons]
     cases hq:A6b (m.Lanes.length:Int) 0 p.Green
     ·rfl
     ·exact ih (i+1)
  rw [key]
end Go.Abs.World
/-! Loops over lists, as functions on lists. -/
namespace Go.Abs
open Go
section
variable {α β σ S τ:Type}
/-- What a loop over a list makes, with a state, and with a way out. -/
def C8i (step:Nat→σ→α→Sum σ τ)(fin:σ→τ):Nat→σ→List α→τ
  |_,s,[]=>fin s
  |i,s,a::r=>match step i s a with
   | .inl s'=>C8i step fin (i+1) s' r
   | .inr t=>t
theorem A2o {l:List α}{i:Nat}{a:α}{r:List α}(h:l.drop i=a::r):l[i]? =some a:=by
  have:=congrArg (fun z=>z[0]?) h
  simpa using this
theorem E17 {F:S→Option (Stp S τ)}(pk:Nat→σ→S)(l:List α)(inv:Nat→σ→Prop)(step:Nat→σ→α→Sum σ τ)(fin:σ→τ){s0:σ}{S0:S}(hS:pk 0 s0=S0)(hi:inv 0 s0)
    (hF: ∀i a s,l[i]? =some a→inv i s→F (pk i s)=some (match step i s a with| .inl s'=> .go (pk (i+1) s')| .inr t=> .out t))
    (hI: ∀i a s s',l[i]? =some a→inv i s→step i s a= .inl s'→inv (i+1) s')
    (h0: ∀s,inv l.length s→F (pk l.length s)=some (.out (fin s))):loop F S0=some (C8i step fin 0 s0 l):=by
  have key: ∀(r:List α) (i:Nat) (s:σ),l.drop i=r→i≤l.length→inv i s→loop F (pk i s)=some (C8i step fin i s r):=by
    intro r
    induction r with
    |nil=>
     intro i s hi hil hv
     have:=U4 hi
     obtain rfl:i=l.length:=by omega
     exact D5 (h0 s hv)
    |cons a r ih=>
     intro i s hi hil hv
     have hlt:=V5 hi
     have ha:=A2o hi
     have hs:=hF i a s ha hv
     unfold C8i
     cases h:step i s a with
     |inl s'=>rw [h]at hs;rw [P2 hs];exact ih (i+1) s' (L0 hi) (by omega) (hI i a s s' ha hv h)
     |inr t=>rw [h]at hs;exact D5 hs
  rw [← hS]
  exact key l 0 s0 rfl (by omega) hi
/-- The same without a way out. -/
def D1d (step:Nat→σ→α→σ):Nat→σ→List α→σ
  |_,s,[]=>s
  |i,s,a::r=>D1d step (i+1) (step i s a) r
theorem C2f (step:Nat→σ→α→σ)(fin:σ→τ): ∀(l:List α) (i:Nat) (s:σ),C8i (fun i s a=> .inl (step i s a)) fin i s l=fin (D1d step i s l)
  | [],_,_=>rfl
  |_::r,i,_=>C2f step fin r (i+1) _
theorem E25 {F:S→Option (Stp S τ)}(pk:Nat→σ→S)(l:List α)(inv:Nat→σ→Prop)(step:Nat→σ→α→σ)(fin:σ→τ){s0:σ}{S0:S}(hS:pk 0 s0=S0)(hi:inv 0 s0)
    (hF: ∀i a s,l[i]? =some a→inv i s→F (pk i s)=some (.go (pk (i+1) (step i s a))))
    (hI: ∀i a s,l[i]? =some a→inv i s→inv (i+1) (step i s a))
    (h0: ∀s,inv l.length s→F (pk l.length s)=some (.out (fin s))):loop F S0=some (fin (D1d step 0 s0 l)):=by
  rw [← C2f step fin]
  exact E17 pk l inv _ fin hS hi hF (fun i a s s' h1 h2 h3=>by cases h3;exact hI i a s h1 h2) h0
/-- The elements that a loop gathers. -/
def C39 (g:Nat→α→Option β):Nat→List α→List β
  |_,[]=> []
  |i,a::r=>match g i a with
   |some b=>b::C39 g (i+1) r
   |none=>C39 g (i+1) r
theorem C3u (g:Nat→α→Option β): ∀(l:List α) (i:Nat) (s:List β),D1d (fun i s a=>match g i a with|some b=>s++ [b]|none=>s) i s l=s++C39 g i l
  | [],_,s=>by simp [D1d,C39]
  |a::r,i,s=>by
   unfold D1d C39
   rw [C3u g r (i+1)]
   cases g i a<;>simp
theorem E18 {F:S→Option (Stp S τ)}(pk:Nat→List β→S)(l:List α)(g:Nat→α→Option β)(fin:List β→τ){S0:S}(hS:pk 0 []=S0)
    (hF: ∀i a (s:List β),l[i]? =some a→s.length≤i→F (pk i s)=some (.go (pk (i+1) (match g i a with|some b=>s++ [b]|none=>s))))
    (h0: ∀s,F (pk l.length s)=some (.out (fin s))):loop F S0=some (fin (C39 g 0 l)):=by
  have:=E25 pk l (fun i s=>s.length≤i) (fun i s a=>match g i a with|some b=>s++ [b]|none=>s) fin hS (by simp) hF (fun i a s _ hs=>by
    cases g i a<;>simp<;>omega) (fun s _=>h0 s)
  rw [this,C3u,List.nil_append]
theorem D7n {F:List β×Int→Option (Stp (List β×Int) τ)}(l:List α)(g:Nat→α→Option β)(fin:List β→τ)
    (hF: ∀(i:Nat) a (s:List β),l[i]? =some a→s.length≤i→F (s,(i:Int))=some (.go ((match g i a with|some b=>s++ [b]|none=>s),((i+1:Nat):Int))))
    (h0: ∀s,F (s,(l.length:Int))=some (.out (fin s))):loop F ([],0)=some (fin (C39 g 0 l)):=E18 (fun i s=>(s,(i:Int))) l g fin rfl hF h0
/-- Is there one? -/
theorem D9a {F:Int→Option (Stp Int (Sum Unit β))}(l:List α)(p:α→Bool)(v:β)(hF: ∀(i:Nat) a,l[i]? =some a→F (i:Int)=some (if p a then .out (.inr v)else .go ((i+1:Nat):Int)))(h0:F (l.length:Int)=some (.out (.inl ()))):
    loop F 0=some (if l.any p then .inr v else .inl ()):=by
  have key: ∀(l:List α) (i:Nat),C8i (fun _ _ a=>if p a then Sum.inr (Sum.inr v)else Sum.inl ()) (fun _=>(Sum.inl ():Sum Unit β)) i () l=if l.any p then .inr v else .inl ():=by
    intro l
    induction l with
    |nil=>intro i;rfl
    |cons a r ih=>
     intro i
     unfold C8i
     rw [List.any_cons]
     cases h:p a
     ·exact ih (i+1)
     ·rfl
  rw [← key l 0]
  exact E17 (F:=F) (σ:=Unit) (fun i _=>(i:Int)) l (fun _ _=>True) _ _ (s0:=()) rfl trivial (fun i a _ h _=>by rw [hF i a h];cases p a<;>rfl) (fun _ _ _ _ _ _ _=>trivial) (fun _ _=>h0)
end
theorem X4 {i:Nat}{n:Nat}(h:i<n):decide ((i:Int)< (n:Int))=true:=decide_eq_true (by omega)
theorem T7 (n:Nat):decide ((n:Int)< (n:Int))=false:=decide_eq_false (by omega)
theorem M8 {i:Nat}{n:Nat}(h:i<n)(hn:n≤1000000000000):w64 ((i:Int)+1)=((i+1:Nat):Int):=by rw [I9 (by omega)];omega
end Go.Abs
namespace Go.Abs.World
open Go Go.Abs
structure BearZ (m:Map):Prop where
  many:m.Zones.length≤1000000
  parts: ∀z∈m.Zones,z.Parts.length≤1000000
noncomputable def W3 (m:Map)(k:Int):Int:=((m.Lanes[k.toNat]?).map fun l=>C0q l.Curve_).getD 0
noncomputable def B5d (m:Map)(p:Part):Bool:=decide (p.From<0)||decide (p.From≥p.To)||decide (p.To>W3 m p.Lane_)||decide (p.Rank<0)||decide (p.Rank>100)
noncomputable def zoneE (m:Map)(_:Nat)(z:Zone):Option Int:=
  if z.Parts.length<2 then some 6
  else if 6<z.Parts.length then some 8
  else if z.Signal_<0∨(m.Signals.length:Int)<z.Signal_ then some 2
  else if A6b m.Lanes.length 0 (z.Parts.map (·.Lane_))=false then some 11
  else if z.Parts.any (B5d m)=true then some 2 else none
theorem B75 {m:Map}{k:Int}(h0:0≤k)(h1:k<m.Lanes.length): ∃l,m.Lanes[k.toNat]? =some l∧D4 m.Lanes k=some l:=by
  have hlt:k.toNat<m.Lanes.length:=by omega
  refine ⟨m.Lanes[k.toNat],List.getElem?_eq_getElem hlt,?_⟩
  unfold D4
  rw [if_pos h0,List.getElem?_eq_getElem hlt]
theorem C5e {m:Map}(B:Bear m){k:Int}(h0:0≤k)(h1:k<m.Lanes.length):A3d m k=some (W3 m k):=by
  obtain ⟨l,e1,e2⟩:=B75 h0 h1
  have:=D99 (m:=m) e1 (B.pts l (List.mem_of_getElem? e1)).1
  rw [show ((k.toNat:Nat):Int)=k by omega]at this
  rw [this,W3,e1];rfl
theorem C5f {m:Map}(B:Bear m){k:Int}(h0:0≤k)(h1:k<m.Lanes.length): ∃l,D4 m.Lanes k=some l∧A3s l.Curve_=some (W3 m k):=by
  obtain ⟨l,e1,e2⟩:=B75 h0 h1
  refine ⟨l,e2,?_⟩
  rw [C2b _ (B.pts l (List.mem_of_getElem? e1)).1,W3,e1];rfl
theorem C9t {α β:Type}(f:α→β): ∀(l:List α) (i:Nat),C39 (fun _ a=>some (f a)) i l=l.map f
  | [],_=>rfl
  |a::r,i=>by rw [C39,C9t f r];rfl
theorem D7o {z:Zone}{F:List Int×Int→Option (Stp (List Int×Int) (List Int))}(hl:z.Parts.length≤1000000)
    (hF: ∀x,F x=cond (decide (x.2< (z.Parts.length:Int))) ((D4 z.Parts x.2).bind fun v=>(A7p x.1 [v.Lane_]).bind fun w=>some (.go (w,w64 (x.2+1)))) (some (.out x.1))):
    loop F ([],0)=some (z.Parts.map (·.Lane_)):=by
  rw [← C9t (fun p:Part=>p.Lane_) z.Parts 0]
  refine E18 (fun i s=>(s,(i:Int))) z.Parts (fun _ p=>some p.Lane_) id rfl (fun i a s ha hs=> ?_) (fun s=> ?_)
  ·have hi:=U2 ha
   rw [hF,X4 hi,E6 ha,cond_true,Option.bind_some,A9p (by simp;omega),Option.bind_some,M8 hi (by omega)]
  ·rw [hF,T7];rfl
theorem D6f {m:Map}(B:Bear m)(Z:BearZ m):Y1 ⟨m⟩=some ((J7 (zoneE m) 0 m.Zones).getD 0):=by
  have hb:=B.lanes
  have h:=Y6 m.Zones (S9 ⟨m⟩) (zoneE m) (fun i z hz=>by
    have hi:=U2 hz
    have hm:=Z.many
    have p1:=Z.parts z (List.mem_of_getElem? hz)
    unfold S9 zoneE
    dsimp only
    rw [X4 hi,E6 hz,cond_true,Option.bind_some,D7o p1 (F:=A00 z) (fun x=>rfl),Option.bind_some,C2c _ _ _ (by simpa using p1) (by omega) (by omega),Option.bind_some,M8 hi (by omega)]
    by_cases h1:z.Parts.length<2
    ·rw [if_pos h1,show decide ((z.Parts.length:Int)<2)=true from decide_eq_true (by omega)];rfl
    ·rw [if_neg h1,show decide ((z.Parts.length:Int)<2)=false from decide_eq_false (by omega),cond_false]
     by_cases h2:6<z.Parts.length
     ·rw [if_pos h2,show decide ((z.Parts.length:Int)>6)=true from decide_eq_true (by omega)];rfl
     ·rw [if_neg h2,show decide ((z.Parts.length:Int)>6)=false from decide_eq_false (by omega),cond_false]
      by_cases h3:z.Signal_<0∨(m.Signals.length:Int)<z.Signal_
      ·rw [if_pos h3,show ((decide (z.Signal_<0))||(decide (z.Signal_>(m.Signals.length:Int))))=true by simpa using h3];rfl
      ·rw [if_neg h3,show ((decide (z.Signal_<0))||(decide (z.Signal_>(m.Signals.length:Int))))=false by rw [Bool.eq_false_iff];simpa using h3,cond_false]
       cases h4:A6b (m.Lanes.length:Int) 0 (z.Parts.map (·.Lane_))
       ·rfl
       ·rw [if_neg (by decide)]
        have:=D9a (F:=S8 ⟨m⟩ z) z.Parts (B5d m) (2:Int) (fun j p hp=>by
          have hj:=U2 hp
          have hk:=B1x h4 p.Lane_ (List.mem_map.2 ⟨p,List.mem_of_getElem? hp,rfl⟩)
          unfold S8 B5d
          dsimp only
          rw [X4 hj,E6 hp,cond_true,Option.bind_some,C5e B hk.1 hk.2,M8 hj (by omega)]
          cases h5:(decide (p.From<0)||decide (p.From≥p.To))
          ·simp only [Bool.not_false,cond_true,Option.bind_some]
           cases (false||decide (p.To>W3 m p.Lane_)||decide (p.Rank<0)||decide (p.Rank>100))<;>rfl
          ·rfl) (by unfold S8;rw [T7];rfl)
        rw [this]
        cases z.Parts.any (B5d m)<;>rfl) (by
    unfold S9
    dsimp only
    rw [T7];rfl)
  unfold Y1
  rw [h]
  cases J7 (zoneE m) 0 m.Zones<;>rfl
theorem D6g {m:Map}(B:Bear m)(Z:BearZ m){i:Nat}{z:Zone}(hz:m.Zones[i]? =some z):A5h m z=some ((zoneE m i z).getD 0):=by
  have hb:=B.lanes
  have p1:=Z.parts z (List.mem_of_getElem? hz)
  unfold A5h zoneE
  rw [D7o p1 (F:=A50 z) (fun x=>rfl),Option.bind_some,B9i _ _ _ (by simpa using p1),Option.bind_some]
  by_cases h1:z.Parts.length<2
  ·rw [if_pos h1,show decide ((z.Parts.length:Int)<2)=true from decide_eq_true (by omega)];rfl
  ·rw [if_neg h1,show decide ((z.Parts.length:Int)<2)=false from decide_eq_false (by omega),cond_false]
   by_cases h2:6<z.Parts.length
   ·rw [if_pos h2,show decide ((z.Parts.length:Int)>6)=true from decide_eq_true (by omega)];rfl
   ·rw [if_neg h2,show decide ((z.Parts.length:Int)>6)=false from decide_eq_false (by omega),cond_false]
    by_cases h3:z.Signal_<0∨(m.Signals.length:Int)<z.Signal_
    ·rw [if_pos h3,show ((decide (z.Signal_<0))||(decide (z.Signal_>(m.Signals.length:Int))))=true by simpa using h3];rfl
    ·rw [if_neg h3,show ((decide (z.Signal_<0))||(decide (z.Signal_>(m.Signals.length:Int))))=false by rw [Bool.eq_false_iff];simpa using h3,cond_false]
     cases h4:A6b (m.Lanes.length:Int) 0 (z.Parts.map (·.Lane_))
     ·rfl
     ·rw [if_neg (by decide)]
      have:=D9a (F:=A0y m z) z.Parts (B5d m) (2:Int) (fun j p hp=>by
        have hj:=U2 hp
        have hk:=B1x h4 p.Lane_ (List.mem_map.2 ⟨p,List.mem_of_getElem? hp,rfl⟩)
        obtain ⟨l,e1,e2⟩:=C5f B hk.1 hk.2
        unfold A0y B5d
        rw [X4 hj,E6 hp,cond_true,Option.bind_some,e1,M8 hj (by omega)]
        cases h5:(decide (p.From<0)||decide (p.From≥p.To))
        ·simp only [Bool.not_false,cond_true,Option.bind_some,e2]
         cases (false||decide (p.To>W3 m p.Lane_)||decide (p.Rank<0)||decide (p.Rank>100))<;>rfl
        ·rfl) (by unfold A0y;rw [T7];rfl)
      rw [this]
      cases z.Parts.any (B5d m)<;>rfl
end Go.Abs.World
namespace Go.Abs.World
open Go Go.Abs
structure BearW (m:Map):Prop where
  many:m.Works.length≤1000000
noncomputable def workE (m:Map)(_:Nat)(w:Work):Option Int:=
  if w.Lane_<0∨(m.Lanes.length:Int)≤w.Lane_ then some 7
  else if (decide (w.From<0)||decide (w.From>w.To)||decide (w.To>W3 m w.Lane_)||decide (w.Begin<0)||decide (w.Begin≥w.End)||decide (w.End>1099511627776)|| !inR w.Limit 0 ((m.Lanes[w.Lane_.toNat]?).map fun l=>(A77 l.Kind).1).get!)=true then some 2 else none
theorem D6h {m:Map}(B:Bear m)(W:BearW m):Y2 ⟨m⟩=some ((J7 (workE m) 0 m.Works).getD 0):=by
  have hb:=B.lanes
  have h:=Y6 m.Works (T0 ⟨m⟩) (workE m) (fun i w hw=>by
    have hi:=U2 hw
    have hm:=W.many
    unfold T0 workE
    dsimp only
    rw [X4 hi,E6 hw,cond_true,Option.bind_some,M8 hi (by omega)]
    by_cases h1:w.Lane_<0∨(m.Lanes.length:Int)≤w.Lane_
    ·rw [if_pos h1,show ((decide (w.Lane_<0))||(decide (w.Lane_≥(m.Lanes.length:Int))))=true by simpa using h1];rfl
    ·rw [if_neg h1,show ((decide (w.Lane_<0))||(decide (w.Lane_≥(m.Lanes.length:Int))))=false by rw [Bool.eq_false_iff];simpa using h1,cond_false]
     obtain ⟨l,e1,e2⟩:=B75 (m:=m) (k:=w.Lane_) (by omega) (by omega)
     rw [e2,Option.bind_some,B5c,Option.bind_some,C5e B (by omega) (by omega),B3m,e1]
     simp only [Option.map_some,Option.get!_some]
     cases (decide (w.From<0)||decide (w.From>w.To))
     ·simp only [Bool.not_false,cond_true,Option.bind_some]
      cases (false||decide (w.To>W3 m w.Lane_)||decide (w.Begin<0)||decide (w.Begin≥w.End)||decide (w.End>1099511627776))
      ·simp only [Bool.not_false,cond_true,Option.bind_some]
       by_cases hq:inR w.Limit 0 (A77 l.Kind).1=true<;>simp [hq]
      ·rfl
     ·rfl) (by
    unfold T0
    dsimp only
    rw [T7];rfl)
  unfold Y2
  rw [h]
  cases J7 (workE m) 0 m.Works<;>rfl
theorem D6i {m:Map}(B:Bear m){i:Nat}(w:Work):A5i m w=some ((workE m i w).getD 0):=by
  have hb:=B.lanes
  unfold A5i workE
  by_cases h1:w.Lane_<0∨(m.Lanes.length:Int)≤w.Lane_
  ·rw [if_pos h1,show ((decide (w.Lane_<0))||(decide (w.Lane_≥(m.Lanes.length:Int))))=true by simpa using h1];rfl
  ·rw [if_neg h1,show ((decide (w.Lane_<0))||(decide (w.Lane_≥(m.Lanes.length:Int))))=false by rw [Bool.eq_false_iff];simpa using h1,cond_false]
   obtain ⟨l,e1,e2⟩:=B75 (m:=m) (k:=w.Lane_) (by omega) (by omega)
   obtain ⟨l',e3,e4⟩:=C5f B (k:=w.Lane_) (by omega) (by omega)
   rw [e2]at e3
   cases e3
   rw [e2,Option.bind_some,B3o,Option.bind_some,e4,B3n,e1]
   simp only [Option.map_some,Option.get!_some]
   cases (decide (w.From<0)||decide (w.From>w.To))
   ·simp only [Bool.not_false,cond_true,Option.bind_some]
    cases (false||decide (w.To>W3 m w.Lane_)||decide (w.Begin<0)||decide (w.Begin≥w.End)||decide (w.End>1099511627776))
    ·simp only [Bool.not_false,cond_true,Option.bind_some]
     by_cases hq:inR w.Limit 0 (A77 l.Kind).1=true<;>simp [hq]
    ·rfl
   ·rfl
theorem D1e {m:Map}(S:BearS m)(i:Nat){s:Signal}(hs:s∈m.Signals):A3k m s=some ((signalE m i s).getD 0):=by
  obtain ⟨p1,p2⟩:=S.phases s hs
  unfold A3k signalE
  rw [B3n,Option.bind_some,show (0:Int)=((0:Nat):Int) from rfl,C8h s p1 s.Phases 0 _ rfl (by omega),Option.bind_some]
  rw [show ((0:Nat):Int)=0 from rfl,C6y m s p1 p2]
  by_cases h1:s.Phases.length=0
  ·rw [if_pos h1,h1];rfl
  ·rw [if_neg h1,show ((s.Phases.length:Int)==0)=false by simp only [beq_eq_false_iff_ne];omega,cond_false]
   by_cases h2:6<s.Phases.length
   ·rw [if_pos h2,show decide ((s.Phases.length:Int)>6)=true from decide_eq_true (by omega)];rfl
   ·rw [if_neg h2,show decide ((s.Phases.length:Int)>6)=false from decide_eq_false (by omega),cond_false]
    cases inR s.Offset 0 1099511627776
    ·rfl
    ·cases (s.Phases.any fun p=> !inR p.Ticks 1 10000)
     ·cases (s.Phases.any fun p=> !A6b m.Lanes.length 0 p.Green)<;>rfl
     ·rfl
end Go.Abs.World
