/-
  Plain facts on the functions: what they compute, and that the law holds of it.
-/
import Derived.Test.YtgjdiioennhoeaaGreatFns5
set_option maxRecDepth 100000
set_option synthInstance.maxHeartbeats 0
set_option synthInstance.maxSize 100000
set_option linter.unusedVariables false
namespace Go.Abs.World
open Go Go.Abs
def CS:type_of% @Rh:=fun p4 x1=>cond (decide ((C3 (x1.1+1))< (p4.length:Int))) ((B7 p4 x1.1).bind fun v1=>(B7 p4 (C3 (x1.1+1))).bind fun v2=>(Z2 x1.2 [(Spot.mk v1 v2)]).bind fun v3=>some (.go ((C3 (x1.1+2)),v3))) (some (.out x1.2))
instance kit_road_l1_le (a)(b):Le (CS a b) (Rh a b):=by unfold CS Rh;infer_instance
def HA:type_of% @Z8:=fun p1 p2 p3 p4=>(P0 (CS p4) (0,[])).bind fun y1=>cond (p1==3) (some (Lane.mk p1 (Curve.mk y1) 500 p2 p3)) (some (Lane.mk p1 (Curve.mk y1) 1500 p2 p3))
instance kit_road_le (a)(b)(c)(d):Le (HA a b c d) (Z8 a b c d):=by unfold HA Z8;infer_instance
def JO:type_of% @Xk:=(HA 1 1500 [] [0,0,100000,0]).bind fun v1=>(HA 1 1500 [] [50000,(-50000),50000,50000]).bind fun v2=>some (Map.mk 0 [v1,v2] [(Zone.mk [(Part.mk 0 48000 52000 1),(Part.mk 1 48000 52000 0)] 0)] [] [])
instance kit_Cross_le:Le (JO) (Xk):=by unfold JO Xk;infer_instance
def Xc:type_of% @Oc:=fun p1 p2 p3=>some (Agent.mk [p1] p2 p3 4000 0 false false)
instance law04_agent_le (a)(b)(c):Le (Xc a b c) (Oc a b c):=by unfold Xc Oc;infer_instance
def Fj:type_of% @U5:=fun p1=>Z2 [] p1
instance slices_Clone_Stay_Stay_le (a):Le (Fj a) (U5 a):=by unfold Fj U5;infer_instance
def Nm:type_of% @Cj:=fun p1=>Z2 [] p1
instance slices_Clone_int_int_le (a):Le (Nm a) (Cj a):=by unfold Nm Cj;infer_instance
def My:type_of% @Bx:=fun p1=>(Nm p1.Route).bind fun v1=>some (Agent.mk v1 p1.S p1.V p1.Len p1.Begin p1.Obey p1.Gone)
instance world_ownAgent_le (a):Le (My a) (Bx a):=by unfold My Bx;infer_instance
def Yk:type_of% @Ef:=fun p1 x1=>cond (decide (x1.1< (p1.Agents.length:Int))) ((B7 p1.Agents x1.1).bind fun v2=>(My v2).bind fun v3=>(Z2 x1.2.Agents [v3]).bind fun v4=>some (.go ((C3 (x1.1+1)),(State.mk x1.2.Tick v4 x1.2.In)))) (some (.out x1.2))
instance world_Copy_l1_le (a)(b):Le (Yk a b) (Ef a b):=by unfold Yk Ef;infer_instance
def Zy:type_of% @Lv:=fun p1=>(Fj p1.In).bind fun v1=>(P0 (Yk p1) (0,(State.mk p1.Tick [] v1))).bind fun y1=>some y1
instance world_Copy_le (a):Le (Zy a) (Lv a):=by unfold Zy Lv;infer_instance
def Gk:type_of% @Cd:=fun p1 p2 p3=>some ((decide (p2≤p1))&& (decide (p1≤p3)))
instance roads_within_le (a)(b)(c):Le (Gk a b c) (Cd a b c):=by unfold Gk Cd;infer_instance
def Ou:type_of% @W9:=fun p1=>(Gk p1.Map_.Version 0 1099511627776).bind fun v1=>cond (!v1) (some 2) (cond ((p1.Map_.Lanes.length:Int)==0) (some 6) (cond ((((decide ((p1.Map_.Lanes.length:Int)>12))||(decide ((p1.Map_.Zones.length:Int)>12)))||(decide ((p1.Map_.Signals.length:Int)>4)))||(decide ((p1.Map_.Works.length:Int)>8))) (some 8) (some 0)))
instance roads_check_numbers_le (a):Le (Ou a) (W9 a):=by unfold Ou W9;infer_instance
def Nk:type_of% @Cw:=fun p1=>cond ((decide (p1<0))||(decide (p1≥4))) (some (0,0,0)) ((B7 ([(0,0,0),(2000,30,90),(1000,20,60),(300,100,300)]:List (Int×Int×Int)) p1).bind fun v1=>some (v1.1,v1.2.1,v1.2.2))
instance roads_Bounds_le (a):Le (Nk a) (Cw a):=by unfold Nk Cw;infer_instance
def Yl:type_of% @Cq:=fun p1 x1=>cond (decide (x1< (p1.length:Int))) ((B7 p1 x1).bind fun v1=>cond ((decide ((Mn false v1.X v1.Y)< (-16777216)))||(decide ((Mn true v1.X v1.Y)>16777216))) (some (.out (.inr false))) (some (.go (C3 (x1+1))))) (some (.out (.inl ())))
instance curve_fair_l1_le (a)(b):Le (Yl a b) (Cq a b):=by unfold Yl Cq;infer_instance
def FW:type_of% @Od:=fun p1=>thenS (P0 (Yl p1) 0) (fun _=>some true) (fun r=>some r)
instance curve_fair_le (a):Le (FW a) (Od a):=by unfold FW Od;infer_instance
def Zz:type_of% @Lw:=fun p1 p2=>some (CurveVector.mk (C3 (p2.X - p1.X)) (C3 (p2.Y - p1.Y)))
instance curve_from_le (a)(b):Le (Zz a b) (Lw a b):=by unfold Zz Lw;infer_instance
def Ix:type_of% @Ak:=fun p1 p2=>some (C3 ((C3 (p1.x*p2.x))+ (C3 (p1.y*p2.y))))
instance curve_vector_dot_le (a)(b):Le (Ix a b) (Ak a b):=by unfold Ix Ak;infer_instance
def Ym:type_of% @Gb:=fun p1 x1=>cond (decide (x1.1<x1.2)) (cond (decide ((C3 ((C3 ((C3 (x1.1+x1.2)).tdiv 2))* (C3 ((C3 (x1.1+x1.2)).tdiv 2))))<p1)) (some (.go ((C3 ((C3 ((C3 (x1.1+x1.2)).tdiv 2))+1)),x1.2))) (some (.go (x1.1,(C3 ((C3 (x1.1+x1.2)).tdiv 2)))))) (some (.out x1.1))
instance curve_root_l1_le (a)(b):Le (Ym a b) (Gb a b):=by unfold Ym Gb;infer_instance
def AA:type_of% @Jc:=fun p1=>(P0 (Ym p1) (0,67108864)).bind fun y1=>some (y1,((C3 (y1*y1))==p1))
instance curve_root_le (a):Le (AA a) (Jc a):=by unfold AA Jc;infer_instance
def Wa:type_of% @By:=fun p1 x1=>cond (decide (x1.1< (C3 ((p1.Pts.length:Int) - 1)))) ((B7 p1.Pts x1.1).bind fun v2=>(B7 p1.Pts (C3 (x1.1+1))).bind fun v3=>(Zz v2 v3).bind fun v4=>(Ix v4 v4).bind fun v5=>(AA v5).bind fun v6=>cond (!v6.2) (some (.out (.inr 3))) (cond ((decide (v6.1<1000))||(decide (v6.1>1048576))) (some (.out (.inr 2))) (((cond (decide (x1.1>0)) (Ix x1.2 v4) (some default))).bind fun v7=>cond ((decide (x1.1>0))&& (decide (v7≤0))) (some (.out (.inr 12))) (some (.go ((C3 (x1.1+1)),v4)))))) (some (.out (.inl ())))
instance curve_Check_l1_le (a)(b):Le (Wa a b) (By a b):=by unfold Wa By;infer_instance
def Xd:type_of% @Ij:=fun p1=>cond (decide ((p1.Pts.length:Int)<2)) (some 6) (cond (decide ((p1.Pts.length:Int)>16)) (some 5) ((FW p1.Pts).bind fun v1=>cond (!v1) (some 2) (thenS (P0 (Wa p1) (0,(CurveVector.mk 0 0))) (fun _=>some 0) (fun r=>some r))))
instance curve_Check_le (a):Le (Xd a) (Ij a):=by unfold Xd Ij;infer_instance
def Ub:type_of% @Bh:=fun p1 p3 x1=>cond (decide (x1.2< (p1.length:Int))) ((B7 p1 x1.2).bind fun v1=>cond ((decide (v1<x1.1))||(decide (v1≥p3))) (some (.out (.inr false))) (some (.go ((C3 (v1+1)),(C3 (x1.2+1)))))) (some (.out (.inl ())))
instance roads_rising_l1_le (a)(b)(c):Le (Ub a b c) (Bh a b c):=by unfold Ub Bh;infer_instance
def Qd:type_of% @Eg:=fun p1 p2 p3=>thenS (P0 (Ub p1 p3) (p2,0)) (fun _=>some true) (fun r=>some r)
instance roads_rising_le (a)(b)(c):Le (Qd a b c) (Eg a b c):=by unfold Qd Eg;infer_instance
def Nn:type_of% @U6:=fun p1 x1=>cond (decide (x1< (p1.Map_.Lanes.length:Int))) ((B7 p1.Map_.Lanes x1).bind fun v1=>(Nk v1.Kind).bind fun v2=>cond (v2.1==0) (some (.out (.inr 4))) ((Xd v1.Curve_).bind fun v3=>cond (v3 !=0) (some (.out (.inr v3))) ((Gk v1.Half 200 4000).bind fun v4=>((cond (!(!v4)) (Gk v1.Limit 1 v2.1) (some default))).bind fun v5=>cond ((!v4)||(!v5)) (some (.out (.inr 2))) (cond (decide ((v1.Next.length:Int)>3)) (some (.out (.inr 8))) ((Qd v1.Next (C3 (x1+1)) (p1.Map_.Lanes.length:Int)).bind fun v6=>cond (!v6) (some (.out (.inr 11))) (some (.go (C3 (x1+1))))))))) (some (.out (.inl ())))
instance roads_check_lanes_l1_le (a)(b):Le (Nn a b) (U6 a b):=by unfold Nn U6;infer_instance
def Qu:type_of% @Ap:=fun p1=>thenS (P0 (Nn p1) 0) (fun _=>some 0) (fun r=>some r)
instance roads_check_lanes_le (a):Le (Qu a) (Ap a):=by unfold Qu Ap;infer_instance
def Mg:type_of% @S8:=fun p1 v1 v2 x2=>cond (decide (x2< (v1.Next.length:Int))) ((B7 v1.Next x2).bind fun v3=>(B7 p1.Map_.Lanes v3).bind fun v4=>cond (v4.Kind !=v1.Kind) (some (.out (.inr 4))) ((B7 p1.Map_.Lanes v3).bind fun v5=>(B7 v5.Curve_.Pts 0).bind fun v6=>cond (!(v6.X==v2.X&& (v6.Y==v2.Y&&true))) (some (.out (.inr 3))) (some (.go (C3 (x2+1)))))) (some (.out (.inl ())))
instance roads_check_joints_l2_le (a)(b)(c)(d):Le (Mg a b c d) (S8 a b c d):=by unfold Mg S8;infer_instance
def Mh:type_of% @S9:=fun p1 x1=>cond (decide (x1< (p1.Map_.Lanes.length:Int))) ((B7 p1.Map_.Lanes x1).bind fun v1=>(B7 v1.Curve_.Pts (C3 ((v1.Curve_.Pts.length:Int) - 1))).bind fun v2=>thenS (P0 (Mg p1 v1 v2) 0) (fun _=>some (.go (C3 (x1+1)))) (fun r=>some (.out (.inr r)))) (some (.out (.inl ())))
instance roads_check_joints_l1_le (a)(b):Le (Mh a b) (S9 a b):=by unfold Mh S9;infer_instance
def Pw:type_of% @Z5:=fun p1=>thenS (P0 (Mh p1) 0) (fun _=>some 0) (fun r=>some r)
instance roads_check_joints_le (a):Le (Pw a) (Z5 a):=by unfold Pw Z5;infer_instance
def Mi:type_of% @An:=fun p1=>(Gk p1.Ticks 1 10000).bind fun v1=>some (!v1)
instance roads_check_signals_1_le (a):Le (Mi a) (An a):=by unfold Mi An;infer_instance
def P8:type_of% @F3:=fun p1 x1=>cond (decide (x1< (p1.length:Int))) ((B7 p1 x1).bind fun v1=>(Mi v1).bind fun v2=>cond v2 (some (.out (.inr x1))) (some (.go (C3 (x1+1))))) (some (.out (.inl ())))
instance slices_IndexFunc_Phase_Phase_roads_check_signals_1_l1_le (a)(b):Le (P8 a b) (F3 a b):=by unfold P8 F3;infer_instance
def R6:type_of% @H5:=fun p1=>thenS (P0 (P8 p1) 0) (fun _=>some (-1)) (fun r=>some r)
instance slices_IndexFunc_Phase_Phase_roads_check_signals_1_le (a):Le (R6 a) (H5 a):=by unfold R6 H5;infer_instance
def P9:type_of% @F4:=fun p1=>(R6 p1).bind fun v1=>some (decide (v1≥0))
instance slices_ContainsFunc_Phase_Phase_roads_check_signals_1_le (a):Le (P9 a) (F4 a):=by unfold P9 F4;infer_instance
def Jw:type_of% @X6:=fun p1 p2=>(Qd p1.Green 0 (p2.Map_.Lanes.length:Int)).bind fun v1=>some (!v1)
instance roads_check_signals_2_b_le (a)(b):Le (Jw a b) (X6 a b):=by unfold Jw X6;infer_instance
def P3:type_of% @E8:=fun p1 p2 x1=>cond (decide (x1< (p1.length:Int))) ((B7 p1 x1).bind fun v1=>(Jw v1 p2).bind fun v2=>cond v2 (some (.out (.inr x1))) (some (.go (C3 (x1+1))))) (some (.out (.inl ())))
instance slices_IndexFunc_Phase_Phase_roads_check_signals_2b_l1_le (a)(b)(c):Le (P3 a b c) (E8 a b c):=by unfold P3 E8;infer_instance
def R4:type_of% @G8:=fun p1 p2=>thenS (P0 (P3 p1 p2) 0) (fun _=>some (-1)) (fun r=>some r)
instance slices_IndexFunc_Phase_Phase_roads_check_signals_2b_le (a)(b):Le (R4 a b) (G8 a b):=by unfold R4 G8;infer_instance
def P4:type_of% @E9:=fun p1 p2=>(R4 p1 p2).bind fun v1=>some (decide (v1≥0))
instance slices_ContainsFunc_Phase_Phase_roads_check_signals_2b_le (a)(b):Le (P4 a b) (E9 a b):=by unfold P4 E9;infer_instance
def Kw:type_of% @R3:=fun p1 x1=>cond (decide (x1< (p1.Map_.Signals.length:Int))) ((B7 p1.Map_.Signals x1).bind fun v1=>cond ((v1.Phases.length:Int)==0) (some (.out (.inr 6))) (cond (decide ((v1.Phases.length:Int)>6)) (some (.out (.inr 8))) ((Gk v1.Offset 0 1099511627776).bind fun v2=>cond (!v2) (some (.out (.inr 2))) ((P9 v1.Phases).bind fun v3=>cond v3 (some (.out (.inr 2))) ((P4 v1.Phases p1).bind fun v4=>cond v4 (some (.out (.inr 11))) (some (.go (C3 (x1+1))))))))) (some (.out (.inl ())))
instance roads_check_signals_l1_le (a)(b):Le (Kw a b) (R3 a b):=by unfold Kw R3;infer_instance
def Ov:type_of% @X0:=fun p1=>thenS (P0 (Kw p1) 0) (fun _=>some 0) (fun r=>some r)
instance roads_check_signals_le (a):Le (Ov a) (X0 a):=by unfold Ov X0;infer_instance
def HB (pts:List Spot):Nat→Nat→Int→Option (List (Int×CurvePiece))
  |0,_,_=>some []
  |n+1,i,start=>(pts[i]?).bind fun p=>(pts[i+1]?).bind fun q=>(Zz p q).bind fun v=>(Ix v v).bind fun d=>(AA d).bind fun r=>
   (HB pts n (i+1) (C3 (start+r.1))).bind fun l=>some (((i:Int),CurvePiece.mk p v r.1 start)::l)
instance piecesGo_le (pts:List Spot): ∀(n i:Nat) (s:Int),Le (HB pts n i s) (Oe pts n i s)
  |0,i,s=>Le.refl _
  |n+1,i,s=>by
   rw [Oe,HB]
   have:=fun i s=>piecesGo_le pts n i s
   infer_instance
def RS:type_of% @Zv:=fun pts=>if pts.length≤1000000 then HB pts (pts.length - 1) 0 0 else none
instance piecesC_le (a):Le (RS a) (Zv a):=by unfold RS Zv;infer_instance
def Uc:type_of% @Ce:=fun x1 a1=>(Z2 x1 [a1.2.l]).bind fun v3=>some (.go v3)
instance curve_Pieces_l1_le (a)(b):Le (Uc a b) (Ce a b):=by unfold Uc Ce;infer_instance
def AY:type_of% @Ik:=fun p1=>(Xd p1).bind fun v1=>cond (v1 !=0) (some []) (((RS p1.Pts).bind fun v2=>loopL (Uc) (fun (x1:(List Int))=>x1) v2 []).bind fun y1=>some y1)
instance curve_Pieces_le (a):Le (AY a) (Ik a):=by unfold AY Ik;infer_instance
def Ud:type_of% @Z9:=fun v1 x1=>cond (decide (x1.2< (v1.length:Int))) ((B7 v1 x1.2).bind fun v2=>some (.go ((C3 (x1.1+v2)),(C3 (x1.2+1))))) (some (.out x1.1))
instance curve_Length_l1_le (a)(b):Le (Ud a b) (Z9 a b):=by unfold Ud Z9;infer_instance
def Uq:type_of% @Il:=fun p1=>(AY p1).bind fun v1=>(P0 (Ud v1) (0,0)).bind fun y1=>some y1
instance curve_Length_le (a):Le (Uq a) (Il a):=by unfold Uq Il;infer_instance
def Rt:type_of% @Fo:=fun p1 p2=>(B7 p1.Lanes p2).bind fun v1=>(Uq v1.Curve_).bind fun v2=>some v2
instance roads_long_le (a)(b):Le (Rt a b) (Fo a b):=by unfold Rt Fo;infer_instance
def No:type_of% @U7:=fun p1 v1 x3=>cond (decide (x3< (v1.Parts.length:Int))) ((B7 v1.Parts x3).bind fun v5=>((cond (!((decide (v5.From<0))||(decide (v5.From≥v5.To)))) (Rt p1.Map_ v5.Lane_) (some default))).bind fun v6=>cond (((((decide (v5.From<0))||(decide (v5.From≥v5.To)))||(decide (v5.To>v6)))||(decide (v5.Rank<0)))||(decide (v5.Rank>100))) (some (.out (.inr 2))) (some (.go (C3 (x3+1))))) (some (.out (.inl ())))
instance roads_check_zones_l3_le (a)(b)(c):Le (No a b c) (U7 a b c):=by unfold No U7;infer_instance
def Np:type_of% @Bd:=fun v1 x2=>cond (decide (x2.2< (v1.Parts.length:Int))) ((B7 v1.Parts x2.2).bind fun v2=>(Z2 x2.1 [v2.Lane_]).bind fun v3=>some (.go (v3,(C3 (x2.2+1))))) (some (.out x2.1))
instance roads_check_zones_l2_le (a)(b):Le (Np a b) (Bd a b):=by unfold Np Bd;infer_instance
def Nq:type_of% @U8:=fun p1 x1=>cond (decide (x1< (p1.Map_.Zones.length:Int))) ((B7 p1.Map_.Zones x1).bind fun v1=>cond (decide ((v1.Parts.length:Int)<2)) (some (.out (.inr 6))) (cond (decide ((v1.Parts.length:Int)>6)) (some (.out (.inr 8))) (cond ((decide (v1.Signal_<0))||(decide (v1.Signal_>(p1.Map_.Signals.length:Int)))) (some (.out (.inr 2))) ((P0 (Np v1) ([],0)).bind fun y2=>(Qd y2 0 (p1.Map_.Lanes.length:Int)).bind fun v4=>cond (!v4) (some (.out (.inr 11))) (thenS (P0 (No p1 v1) 0) (fun _=>some (.go (C3 (x1+1)))) (fun r=>some (.out (.inr r)))))))) (some (.out (.inl ())))
instance roads_check_zones_l1_le (a)(b):Le (Nq a b) (U8 a b):=by unfold Nq U8;infer_instance
def Qv:type_of% @Aq:=fun p1=>thenS (P0 (Nq p1) 0) (fun _=>some 0) (fun r=>some r)
instance roads_check_zones_le (a):Le (Qv a) (Aq a):=by unfold Qv Aq;infer_instance
def Nr:type_of% @U9:=fun p1 x1=>cond (decide (x1< (p1.Map_.Works.length:Int))) ((B7 p1.Map_.Works x1).bind fun v1=>cond ((decide (v1.Lane_<0))||(decide (v1.Lane_≥(p1.Map_.Lanes.length:Int)))) (some (.out (.inr 7))) ((B7 p1.Map_.Lanes v1.Lane_).bind fun v2=>(Nk v2.Kind).bind fun v3=>((cond (!((decide (v1.From<0))||(decide (v1.From>v1.To)))) (Rt p1.Map_ v1.Lane_) (some default))).bind fun v4=>((cond (!((((((decide (v1.From<0))||(decide (v1.From>v1.To)))||(decide (v1.To>v4)))||(decide (v1.Begin<0)))||(decide (v1.Begin≥v1.End)))||(decide (v1.End>1099511627776)))) (Gk v1.Limit 0 v3.1) (some default))).bind fun v5=>cond (((((((decide (v1.From<0))||(decide (v1.From>v1.To)))||(decide (v1.To>v4)))||(decide (v1.Begin<0)))||(decide (v1.Begin≥v1.End)))||(decide (v1.End>1099511627776)))||(!v5)) (some (.out (.inr 2))) (some (.go (C3 (x1+1)))))) (some (.out (.inl ())))
instance roads_check_works_l1_le (a)(b):Le (Nr a b) (U9 a b):=by unfold Nr U9;infer_instance
def Qw:type_of% @Ar:=fun p1=>thenS (P0 (Nr p1) 0) (fun _=>some 0) (fun r=>some r)
instance roads_check_works_le (a):Le (Qw a) (Ar a):=by unfold Qw Ar;infer_instance
def Fz:type_of% @X7:=fun v p1=>cond (Nat.beq v 148) (Ou p1) (cond (Nat.beq v 149) (Qu p1) (cond (Nat.beq v 150) (Pw p1) (cond (Nat.beq v 151) (Ov p1) (cond (Nat.beq v 152) (Qv p1) (cond (Nat.beq v 153) (Qw p1) (none))))))
instance choose_roads_check_numbers_le (a)(b):Le (Fz a b) (X7 a b):=by unfold Fz X7;infer_instance
def Wb:type_of% @Q7:=fun p1 x1=>cond (decide (x1< ([148,149,150,151,152,153].length:Int))) ((B7 [148,149,150,151,152,153] x1).bind fun v1=>(Fz v1 (RoadsCheck.mk p1)).bind fun v2=>cond (v2 !=0) (some (.out (.inr v2))) (some (.go (C3 (x1+1))))) (some (.out (.inl ())))
instance roads_Check_l1_le (a)(b):Le (Wb a b) (Q7 a b):=by unfold Wb Q7;infer_instance
def Pl:type_of% @Gc:=fun p1=>thenS (P0 (Wb p1) 0) (fun _=>some 0) (fun r=>some r)
instance roads_Check_le (a):Le (Pl a) (Gc a):=by unfold Pl Gc;infer_instance
def Jx:type_of% @O4:=fun p1 p2 x1=>cond (decide (x1< (p1.length:Int))) ((B7 p1 x1).bind fun v1=>cond (p2==v1) (some (.out (.inr x1))) (some (.go (C3 (x1+1))))) (some (.out (.inl ())))
instance slices_Index_int_int_l1_le (a)(b)(c):Le (Jx a b c) (O4 a b c):=by unfold Jx O4;infer_instance
def Hq:type_of% @V0:=fun p1 p2=>thenS (P0 (Jx p1 p2) 0) (fun _=>some (-1)) (fun r=>some r)
instance slices_Index_int_int_le (a)(b):Le (Hq a b) (V0 a b):=by unfold Hq V0;infer_instance
def Bz:type_of% @O5:=fun p1 p2=>(Hq p1 p2).bind fun v1=>some (decide (v1≥0))
instance slices_Contains_int_int_le (a)(b):Le (Bz a b) (O5 a b):=by unfold Bz O5;infer_instance
def Ue:type_of% @Dh:=fun p1 p2 x1=>cond (decide (x1.2< (p1.Lanes.length:Int))) ((B7 p1.Lanes x1.2).bind fun v1=>(Bz v1.Next p2).bind fun v2=>cond v2 ((Z2 x1.1 [x1.2]).bind fun v3=>some (.go (v3,(C3 (x1.2+1))))) (some (.go (x1.1,(C3 (x1.2+1)))))) (some (.out x1.1))
instance roads_before_l1_le (a)(b)(c):Le (Ue a b c) (Dh a b c):=by unfold Ue Dh;infer_instance
def AZ:type_of% @Im:=fun p1 p2=>(P0 (Ue p1 p2) ([],0)).bind fun y1=>some y1
instance roads_before_le (a)(b):Le (AZ a b) (Im a b):=by unfold AZ Im;infer_instance
def Ow:type_of% @T3:=fun p1 v7 x1=>cond (decide (x1.2< (v7.length:Int))) ((B7 v7 x1.2).bind fun v8=>(B7 p1.Lanes x1.1).bind fun v9=>(Bz v9.Next v8).bind fun v10=>cond (!v10) (some (.out (.inr 13))) (some (.go (v8,(C3 (x1.2+1)))))) (some (.out (.inl ())))
instance roads_CheckRoute_l1_le (a)(b)(c):Le (Ow a b c) (T3 a b c):=by unfold Ow T3;infer_instance
def Nv:type_of% @Bk:=fun p1 p2=>(Pl p1).bind fun v1=>cond (v1 !=0) (some v1) (((cond (!(((p2.length:Int)==0)||(decide ((p2.length:Int)>8)))) (B7 p2 0) (some default))).bind fun v2=>((cond (!((((p2.length:Int)==0)||(decide ((p2.length:Int)>8)))||(decide (v2<0)))) (B7 p2 0) (some default))).bind fun v3=>((cond (!(((((p2.length:Int)==0)||(decide ((p2.length:Int)>8)))||(decide (v2<0)))||(decide (v3≥(p1.Lanes.length:Int))))) (B7 p2 0) (some default))).bind fun v4=>((cond (!(((((p2.length:Int)==0)||(decide ((p2.length:Int)>8)))||(decide (v2<0)))||(decide (v3≥(p1.Lanes.length:Int))))) (AZ p1 v4) (some default))).bind fun v5=>cond ((((((p2.length:Int)==0)||(decide ((p2.length:Int)>8)))||(decide (v2<0)))||(decide (v3≥(p1.Lanes.length:Int))))||(decide ((v5.length:Int)>0))) (some 13) ((B7 p2 0).bind fun v6=>(EZ p2 1 (p2.length:Int)).bind fun v7=>thenS (P0 (Ow p1 v7) (v6,0)) (fun _=>some 0) (fun r=>some r)))
instance roads_CheckRoute_le (a)(b):Le (Nv a b) (Bk a b):=by unfold Nv Bk;infer_instance
def Uf:type_of% @Bi:=fun p1 p2 x1=>cond (decide (x1.1< (p2.length:Int))) ((B7 p2 x1.1).bind fun v2=>(Z2 x1.2.1 [x1.2.2]).bind fun v3=>(Rt p1 v2).bind fun v4=>some (.go ((C3 (x1.1+1)),(v3,(C3 (x1.2.2+v4)))))) (some (.out x1.2))
instance roads_follow_l1_le (a)(b)(c):Le (Uf a b c) (Bi a b c):=by unfold Uf Bi;infer_instance
def Nl:type_of% @Cx:=fun p1 p2=>(Nv p1 p2).bind fun v1=>cond (v1 !=0) (some (RoadsWay.mk (Map.mk 0 [] [] [] []) [] [] 0)) ((P0 (Uf p1 p2) (0,([],0))).bind fun y1=>some (RoadsWay.mk p1 p2 y1.1 y1.2))
instance roads_follow_le (a)(b):Le (Nl a b) (Cx a b):=by unfold Nl Cx;infer_instance
def Mj:type_of% @As:=fun p1 p2=>(Nl p1 p2).bind fun v1=>some v1.length
instance roads_RouteLength_le (a)(b):Le (Mj a b) (As a b):=by unfold Mj As;infer_instance
def Qe:type_of% @Ei:=fun p1 p2=>(Nl p1 p2).bind fun v1=>some v1.starts
instance roads_Starts_le (a)(b):Le (Qe a b) (Ei a b):=by unfold Qe Ei;infer_instance
def Yn:type_of% @Ej:=fun p2 v1 x1=>(B7 v1 x1).bind fun v2=>cond (decide (v2>p2.S)) (some (.go (C3 (x1 - 1)))) (some (.out x1))
instance world_lane_l1_le (a)(b)(c):Le (Yn a b c) (Ej a b c):=by unfold Yn Ej;infer_instance
def AB:type_of% @Lx:=fun p1 p2=>(Qe p1 p2.Route).bind fun v1=>(P0 (Yn p2 v1) (C3 ((v1.length:Int) - 1))).bind fun y1=>(B7 p2.Route y1).bind fun v3=>(B7 v1 y1).bind fun v4=>some (v3,(C3 (p2.S - v4)))
instance world_lane_le (a)(b):Le (AB a b) (Lx a b):=by unfold AB Lx;infer_instance
def Lq:type_of% @Bp:=fun p1=>some (WorldSpan.mk (C3 (p1.S - p1.Len)) p1.S)
instance world_body_le (a):Le (Lq a) (Bp a):=by unfold Lq Bp;infer_instance
def AD:type_of% @Jd:=fun p1 p2=>(Lq p2).bind fun v1=>(Mj p1 p2.Route).bind fun v2=>some (decide (v1.from_>v2))
instance world_left_le (a)(b):Le (AD a b) (Jd a b):=by unfold AD Jd;infer_instance
def Su:type_of% @Ck:=fun p1 p2 p3=>(B7 p2.Agents p3).bind fun v1=>(Nv p1 v1.Route).bind fun v2=>cond (v2 !=0) (some 13) (((cond (!(((((decide (v1.Len<300))||(decide (v1.Len>20000)))||(decide (v1.Begin<0)))||(decide (v1.Begin>1099511627776)))||(decide (v1.S<0)))) (Mj p1 v1.Route) (some default))).bind fun v3=>cond ((((((decide (v1.Len<300))||(decide (v1.Len>20000)))||(decide (v1.Begin<0)))||(decide (v1.Begin>1099511627776)))||(decide (v1.S<0)))||(decide (v1.S>(C3 ((C3 (v3+v1.Len))+2000))))) (some 2) ((AB p1 v1).bind fun v4=>(B7 p1.Lanes v4.1).bind fun v5=>(Nk v5.Kind).bind fun v6=>cond ((decide (v1.V<0))||(decide (v1.V>v6.1))) (some 2) ((AD p1 v1).bind fun v7=>cond ((!(v1.Gone==v7))||(((decide (v1.Begin>p2.Tick))&& (v1.S !=0))||((p3==0)&& (v1.Begin !=0)))) (some 10) (some 0))))
instance world_checkAgent_le (a)(b)(c):Le (Su a b c) (Ck a b c):=by unfold Su Ck;infer_instance
def Sv:type_of% @Ek:=fun p1=>some (p1 !=p1)
instance cmp_isNaN_int_le (a):Le (Sv a) (Ek a):=by unfold Sv Ek;infer_instance
def Gr:type_of% @X3:=fun p1 p2=>(Sv p1).bind fun v1=>(Sv p2).bind fun v2=>cond v1 (cond v2 (some 0) (some (-1))) (cond v2 (some 1) (cond (decide (p1<p2)) (some (-1)) (cond (decide (p1>p2)) (some 1) (some 0))))
instance cmp_Compare_int_le (a)(b):Le (Gr a b) (X3 a b):=by unfold Gr X3;infer_instance
def Yo:type_of% @Al:=fun p1 x1=>cond (decide (x1< (p1.length:Int))) ((B7 p1 x1).bind fun v1=>cond (v1 !=0) (some (.out (.inr v1))) (some (.go (C3 (x1+1))))) (some (.out (.inl ())))
instance cmp_Or_int_l1_le (a)(b):Le (Yo a b) (Al a b):=by unfold Yo Al;infer_instance
def Vk:type_of% @Du:=fun p1=>thenS (P0 (Yo p1) 0) (fun _=>some 0) (fun r=>some r)
instance cmp_Or_int_le (a):Le (Vk a) (Du a):=by unfold Vk Du;infer_instance
def Sw:type_of% @Gd:=fun p1 p2=>(Gr p1.Agent_ p2.Agent_).bind fun v1=>(Gr p1.Zone_ p2.Zone_).bind fun v2=>(Vk [v1,v2]).bind fun v3=>some v3
instance world_order_le (a)(b):Le (Sw a b) (Gd a b):=by unfold Sw Gd;infer_instance
def Ug:type_of% @Fp:=fun p1 p2=>some ((((decide (p1.Since<0))||(decide (p1.Since>p2.Tick)))||(decide (p1.Rank<0)))||(decide (p1.Rank>100)))
instance world_Check_1_b_le (a)(b):Le (Ug a b) (Fp a b):=by unfold Ug Fp;infer_instance
def W3:type_of% @H8:=fun p1 p2 x1=>cond (decide (x1< (p1.length:Int))) ((B7 p1 x1).bind fun v1=>(Ug v1 p2).bind fun v2=>cond v2 (some (.out (.inr x1))) (some (.go (C3 (x1+1))))) (some (.out (.inl ())))
instance slices_IndexFunc_Stay_Stay_world_Check_1b_l1_le (a)(b)(c):Le (W3 a b c) (H8 a b c):=by unfold W3 H8;infer_instance
def Z7:type_of% @K9:=fun p1 p2=>thenS (P0 (W3 p1 p2) 0) (fun _=>some (-1)) (fun r=>some r)
instance slices_IndexFunc_Stay_Stay_world_Check_1b_le (a)(b):Le (Z7 a b) (K9 a b):=by unfold Z7 K9;infer_instance
def W4:type_of% @F9:=fun p1 p2=>(Z7 p1 p2).bind fun v1=>some (decide (v1≥0))
instance slices_ContainsFunc_Stay_Stay_world_Check_1b_le (a)(b):Le (W4 a b) (F9 a b):=by unfold W4 F9;infer_instance
def Wc:type_of% @Cy:=fun p1 p2 x2=>cond (decide (x2< (p2.In.length:Int))) ((B7 p2.In x2).bind fun v3=>((cond ((!((((decide (v3.Agent_<0))||(decide (v3.Agent_≥(p2.Agents.length:Int))))||(decide (v3.Zone_<0)))||(decide (v3.Zone_≥(p1.Zones.length:Int)))))&& (decide (x2>0))) (B7 p2.In (C3 (x2 - 1))) (some default))).bind fun v4=>((cond ((!((((decide (v3.Agent_<0))||(decide (v3.Agent_≥(p2.Agents.length:Int))))||(decide (v3.Zone_<0)))||(decide (v3.Zone_≥(p1.Zones.length:Int)))))&& (decide (x2>0))) (Sw v4 v3) (some default))).bind fun v5=>cond (((((decide (v3.Agent_<0))||(decide (v3.Agent_≥(p2.Agents.length:Int))))||(decide (v3.Zone_<0)))||(decide (v3.Zone_≥(p1.Zones.length:Int))))||((decide (x2>0))&& (decide (v5≥0)))) (some (.out (.inr 11))) (some (.go (C3 (x2+1))))) (some (.out (.inl ())))
instance world_Check_l2_le (a)(b)(c):Le (Wc a b c) (Cy a b c):=by unfold Wc Cy;infer_instance
def Wd:type_of% @Cz:=fun p1 p2 x1=>cond (decide (x1< (p2.Agents.length:Int))) ((Su p1 p2 x1).bind fun v2=>cond (v2 !=0) (some (.out (.inr v2))) (some (.go (C3 (x1+1))))) (some (.out (.inl ())))
instance world_Check_l1_le (a)(b)(c):Le (Wd a b c) (Cz a b c):=by unfold Wd Cz;infer_instance
def Sx:type_of% @Gf:=fun p1 p2=>(Pl p1).bind fun v1=>cond (v1 !=0) (some v1) (cond ((decide (p2.Tick<0))||(decide (p2.Tick>1099511627776))) (some 2) (cond ((p2.Agents.length:Int)==0) (some 6) (cond (decide ((p2.Agents.length:Int)>8)) (some 8) (thenS (P0 (Wd p1 p2) 0) (fun _=>thenS (P0 (Wc p1 p2) 0) (fun _=>(W4 p2.In p2).bind fun v6=>cond v6 (some 2) (some 0)) (fun r=>some r)) (fun r=>some r)))))
instance world_Check_le (a)(b):Le (Sx a b) (Gf a b):=by unfold Sx Gf;infer_instance
def CT:type_of% @Rl:=fun p1=>some p1.Gone
instance world_New_1_le (a):Le (CT a) (Rl a):=by unfold CT Rl;infer_instance
def X9:type_of% @M2:=fun p1 x1=>cond (decide (x1< (p1.length:Int))) ((B7 p1 x1).bind fun v1=>(CT v1).bind fun v2=>cond v2 (some (.out (.inr x1))) (some (.go (C3 (x1+1))))) (some (.out (.inl ())))
instance slices_IndexFunc_Agent_Agent_world_New_1_l1_le (a)(b):Le (X9 a b) (M2 a b):=by unfold X9 M2;infer_instance
def Af:type_of% @M6:=fun p1=>thenS (P0 (X9 p1) 0) (fun _=>some (-1)) (fun r=>some r)
instance slices_IndexFunc_Agent_Agent_world_New_1_le (a):Le (Af a) (M6 a):=by unfold Af M6;infer_instance
def Y0:type_of% @M3:=fun p1=>(Af p1).bind fun v1=>some (decide (v1≥0))
instance slices_ContainsFunc_Agent_Agent_world_New_1_le (a):Le (Y0 a) (M3 a):=by unfold Y0 M3;infer_instance
def Pm:type_of% @Ez:=fun p1 p2=>((cond ((decide (p2≥0))&& (decide (p2< (p1.Agents.length:Int)))) (B7 p1.Agents p2) (some default))).bind fun v1=>((cond (((decide (p2≥0))&& (decide (p2< (p1.Agents.length:Int))))&& (!v1.Gone)) (B7 p1.Agents p2) (some default))).bind fun v2=>some ((((decide (p2≥0))&& (decide (p2< (p1.Agents.length:Int))))&& (!v1.Gone))&& (decide (v2.Begin≤p1.Tick)))
instance world_There_le (a)(b):Le (Pm a b) (Ez a b):=by unfold Pm Ez;infer_instance
def Vl:type_of% @Lz:=fun p1=>some ((((decide (p1.S≥0))&& (decide (p1.S≤1099511627776)))&& (decide (p1.Len≥0)))&& (decide (p1.Len≤1099511627776)))
instance world_sane_le (a):Le (Vl a) (Lz a):=by unfold Vl Lz;infer_instance
def Gs:type_of% @U2:=fun p1=>some (p1 !=p1)
instance cmp_isNaN_int64_le (a):Le (Gs a) (U2 a):=by unfold Gs U2;infer_instance
def Mk:type_of% @Y6:=fun p1 p2=>(Gs p1).bind fun v1=>(Gs p2).bind fun v2=>cond v1 (cond v2 (some 0) (some (-1))) (cond v2 (some 1) (cond (decide (p1<p2)) (some (-1)) (cond (decide (p1>p2)) (some 1) (some 0))))
instance cmp_Compare_int64_le (a)(b):Le (Mk a b) (Y6 a b):=by unfold Mk Y6;infer_instance
def We:type_of% @Fa:=fun p1 p2=>(Mk p1.From p2.From).bind fun v1=>(Gr p1.Zone_ p2.Zone_).bind fun v2=>(Vk [v1,v2]).bind fun v3=>some v3
instance roads_Passes_1_le (a)(b):Le (We a b) (Fa a b):=by unfold We Fa;infer_instance
def Q9:type_of% @D1:=fun p2 x2=>((cond (decide (x2.1>p2)) (B7 x2.2 x2.1) (some default))).bind fun v1=>((cond (decide (x2.1>p2)) (B7 x2.2 (C3 (x2.1 - 1))) (some default))).bind fun v2=>((cond (decide (x2.1>p2)) (We v1 v2) (some default))).bind fun v3=>cond ((decide (x2.1>p2))&& (decide (v3<0))) ((B7 x2.2 (C3 (x2.1 - 1))).bind fun v4=>(B7 x2.2 x2.1).bind fun v5=>(B7 x2.2 x2.1).bind fun v6=>(B7 (Kj x2.2 x2.1 v4) (C3 (x2.1 - 1))).bind fun v7=>some (.go ((C3 (x2.1 - 1)),(Kj (Kj x2.2 x2.1 v4) (C3 (x2.1 - 1)) v5)))) (some (.out x2.2))
instance slices_insertionSortCmpFunc_Pass_a_roads_Passes_1_l2_le (a)(b):Le (Q9 a b) (D1 a b):=by unfold Q9 D1;infer_instance
def R0:type_of% @D9:=fun p2 p3 x1=>cond (decide (x1.1<p3)) ((P0 (Q9 p2) (x1.1,x1.2)).bind fun y1=>some (.go ((C3 (x1.1+1)),y1))) (some (.out (x1.2)))
instance slices_insertionSortCmpFunc_Pass_a_roads_Passes_1_l1_le (a)(b)(c):Le (R0 a b c) (D9 a b c):=by unfold R0 D9;infer_instance
def O0:type_of% @D6:=fun p1 p2 p3=>P0 (R0 p2 p3) ((C3 (p2+1)),p1)
instance slices_insertionSortCmpFunc_Pass_a_roads_Passes_1_le (a)(b)(c):Le (O0 a b c) (D6 a b c):=by unfold O0 D6;infer_instance
def V3:type_of% @L6:=fun p2 x3=>cond (decide (x3.2≤p2)) (none) (some (.out x3.1))
instance slices_stableCmpFunc_Pass_a_roads_Passes_1_l3_le (a)(b):Le (V3 a b) (L6 a b):=by unfold V3 L6;infer_instance
def V4:type_of% @H4:=fun p2 v2 x2=>cond (decide (x2<p2)) ((P0 (V3 p2) (0,(C3 (2*x2)))).bind fun y2=>cond (decide ((C3 (y2+x2))<p2)) (none) (some (.go (C3 (x2*2))))) (some (.out (v2)))
instance slices_stableCmpFunc_Pass_a_roads_Passes_1_l2_le (a)(b)(c):Le (V4 a b c) (H4 a b c):=by unfold V4 H4;infer_instance
def V5:type_of% @E1:=fun p2 x1=>cond (decide (x1.2.1≤p2)) ((O0 x1.2.2 x1.1 x1.2.1).bind fun v1=>some (.go (x1.2.1,(C3 (x1.2.1+20)),v1))) (some (.out (x1.1,x1.2.2)))
instance slices_stableCmpFunc_Pass_a_roads_Passes_1_l1_le (a)(b):Le (V5 a b) (E1 a b):=by unfold V5 E1;infer_instance
def Y8:type_of% @K4:=fun p1 p2=>(P0 (V5 p2) (0,20,p1)).bind fun y1=>(O0 y1.2 y1.1 p2).bind fun v2=>P0 (V4 p2 v2) 20
instance slices_stableCmpFunc_Pass_a_roads_Passes_1_le (a)(b):Le (Y8 a b) (K4 a b):=by unfold Y8 K4;infer_instance
def T0:type_of% @G0:=fun p1=>(Y8 p1 (p1.length:Int)).bind fun v1=>some v1
instance slices_SortStableFunc_Pass_Pass_a_roads_Passes_1_le (a):Le (T0 a) (G0 a):=by unfold T0 G0;infer_instance
def R1:type_of% @J0:=fun p1 x2=>((cond (decide (x2>p1)) ((none:Option Unit)) (some default))).bind fun v1=>cond ((decide (x2>p1))&&false) (none) (some (.out ()))
instance slices_insertionSortCmpFunc_Pass_n_roads_Passes_1_l2_le (a)(b):Le (R1 a b) (J0 a b):=by unfold R1 J0;infer_instance
def R2:type_of% @J1:=fun p1 p2 x1=>cond (decide (x1<p2)) ((P0 (R1 p1) x1).bind fun _=>some (.go (C3 (x1+1)))) (some (.out (())))
instance slices_insertionSortCmpFunc_Pass_n_roads_Passes_1_l1_le (a)(b)(c):Le (R2 a b c) (J1 a b c):=by unfold R2 J1;infer_instance
def O1:type_of% @E7:=fun p1 p2=>P0 (R2 p1 p2) (C3 (p1+1))
instance slices_insertionSortCmpFunc_Pass_n_roads_Passes_1_le (a)(b):Le (O1 a b) (E7 a b):=by unfold O1 E7;infer_instance
def V6:type_of% @L7:=fun p1 x3=>cond (decide (x3.2≤p1)) (none) (some (.out x3.1))
instance slices_stableCmpFunc_Pass_n_roads_Passes_1_l3_le (a)(b):Le (V6 a b) (L7 a b):=by unfold V6 L7;infer_instance
def V7:type_of% @J3:=fun p1 x2=>cond (decide (x2<p1)) ((P0 (V6 p1) (0,(C3 (2*x2)))).bind fun y2=>cond (decide ((C3 (y2+x2))<p1)) (none) (some (.go (C3 (x2*2))))) (some (.out (())))
instance slices_stableCmpFunc_Pass_n_roads_Passes_1_l2_le (a)(b):Le (V7 a b) (J3 a b):=by unfold V7 J3;infer_instance
def V8:type_of% @J4:=fun p1 x1=>cond (decide (x1.2≤p1)) ((O1 x1.1 x1.2).bind fun v1=>some (.go (x1.2,(C3 (x1.2+20))))) (some (.out x1.1))
instance slices_stableCmpFunc_Pass_n_roads_Passes_1_l1_le (a)(b):Le (V8 a b) (J4 a b):=by unfold V8 J4;infer_instance
def Y9:type_of% @K5:=fun p1=>(P0 (V8 p1) (0,20)).bind fun y1=>(O1 y1 p1).bind fun v2=>P0 (V7 p1) 20
instance slices_stableCmpFunc_Pass_n_roads_Passes_1_le (a):Le (Y9 a) (K5 a):=by unfold Y9 K5;infer_instance
def T1:type_of% @G1:=(Y9 0).bind fun v1=>some ()
instance slices_SortStableFunc_Pass_Pass_n_roads_Passes_1_le:Le (T1) (G1):=by unfold T1 G1;infer_instance
def Uh:type_of% @Aa:=fun v1 x1 v2 x2 v3 x3=>cond (decide (x3.2< (v3.Parts.length:Int))) ((B7 v3.Parts x3.2).bind fun v4=>cond (v4.Lane_==v2) ((B7 v1.starts x1.2).bind fun v5=>(B7 v1.starts x1.2).bind fun v6=>(Z2 x3.1 [(Pass.mk x2.2 x3.2 (C3 (v5+v4.From)) (C3 (v6+v4.To)))]).bind fun v7=>some (.go (v7,(C3 (x3.2+1))))) (some (.go (x3.1,(C3 (x3.2+1)))))) (some (.out x3.1))
instance roads_Passes_l3_le (a)(b)(c)(d)(e)(f):Le (Uh a b c d e f) (Aa a b c d e f):=by unfold Uh Aa;infer_instance
def Ui:type_of% @Ab:=fun p1 v1 x1 v2 x2=>cond (decide (x2.2< (p1.Zones.length:Int))) ((B7 p1.Zones x2.2).bind fun v3=>(P0 (Uh v1 x1 v2 x2 v3) (x2.1,0)).bind fun y3=>some (.go (y3,(C3 (x2.2+1))))) (some (.out x2.1))
instance roads_Passes_l2_le (a)(b)(c)(d)(e):Le (Ui a b c d e) (Ab a b c d e):=by unfold Ui Ab;infer_instance
def Uj:type_of% @P7:=fun p1 v1 x1=>cond (decide (x1.2< (v1.lanes.length:Int))) ((B7 v1.lanes x1.2).bind fun v2=>(P0 (Ui p1 v1 x1 v2) (x1.1,0)).bind fun y2=>some (.go (y2,(C3 (x1.2+1))))) (some (.out x1.1))
instance roads_Passes_l1_le (a)(b)(c):Le (Uj a b c) (P7 a b c):=by unfold Uj P7;infer_instance
def BA:type_of% @Av:=fun p1 p2=>(Nl p1 p2).bind fun v1=>(P0 (Uj p1 v1) ([],0)).bind fun y1=>cond (List.isEmpty y1) ((T1).bind fun v9=>some []) ((T0 y1).bind fun v8=>some v8)
instance roads_Passes_le (a)(b):Le (BA a b) (Av a b):=by unfold BA Av;infer_instance
def Ox:type_of% @Bq:=fun p1 p2 p3=>some (((p1.Zone_==p2)&& (decide (p1.From≤p3.to)))&& (decide (p3.from_≤p1.To)))
instance world_Present_1_b_b_le (a)(b)(c):Le (Ox a b c) (Bq a b c):=by unfold Ox Bq;infer_instance
def T5:type_of% @G2:=fun p1 p2 p3 x1=>cond (decide (x1< (p1.length:Int))) ((B7 p1 x1).bind fun v1=>(Ox v1 p2 p3).bind fun v2=>cond v2 (some (.out (.inr x1))) (some (.go (C3 (x1+1))))) (some (.out (.inl ())))
instance slices_IndexFunc_Pass_Pass_world_Present_1bb_l1_le (a)(b)(c)(d):Le (T5 a b c d) (G2 a b c d):=by unfold T5 G2;infer_instance
def W5:type_of% @J8:=fun p1 p2 p3=>thenS (P0 (T5 p1 p2 p3) 0) (fun _=>some (-1)) (fun r=>some r)
instance slices_IndexFunc_Pass_Pass_world_Present_1bb_le (a)(b)(c):Le (W5 a b c) (J8 a b c):=by unfold W5 J8;infer_instance
def T6:type_of% @G3:=fun p1 p2 p3=>(W5 p1 p2 p3).bind fun v1=>some (decide (v1≥0))
instance slices_ContainsFunc_Pass_Pass_world_Present_1bb_le (a)(b)(c):Le (T6 a b c) (G3 a b c):=by unfold T6 G3;infer_instance
def Yp:type_of% @Gg:=fun p1 p2 p3 p4=>(Vl p2).bind fun v1=>((cond (!(!v1)) (Vl p3) (some default))).bind fun v2=>cond ((!v1)||(!v2)) (some false) ((Lq p2).bind fun v3=>(BA p1 p2.Route).bind fun v4=>(T6 v4 p4 (WorldSpan.mk v3.from_ p3.S)).bind fun v5=>some v5)
instance world_Present_le (a)(b)(c)(d):Le (Yp a b c d) (Gg a b c d):=by unfold Yp Gg;infer_instance
def Bn:type_of% @O7:=fun p1 p2 p3=>(Pm p1.before p2).bind fun v1=>((cond v1 (B7 p1.before.Agents p2) (some default))).bind fun v2=>((cond v1 (B7 p1.after.Agents p2) (some default))).bind fun v3=>((cond v1 (Yp p1.m v2 v3 p3) (some default))).bind fun v4=>some (v1&&v4)
instance world_scene_present_b_le (a)(b)(c):Le (Bn a b c) (O7 a b c):=by unfold Bn O7;infer_instance
def Q0:type_of% @D7:=fun p1 p2 x1=>cond (decide (x1.1<x1.2)) ((B7 p1 (C3 ((IntKind.wrap .u64 (C3 (x1.1+x1.2))).fdiv (2^ (min (1:Int).toNat (IntKind.bits .u64)))))).bind fun v1=>(Sw v1 p2).bind fun v2=>cond (decide (v2<0)) (some (.go ((C3 ((C3 ((IntKind.wrap .u64 (C3 (x1.1+x1.2))).fdiv (2^ (min (1:Int).toNat (IntKind.bits .u64)))))+1)),x1.2))) (some (.go (x1.1,(C3 ((IntKind.wrap .u64 (C3 (x1.1+x1.2))).fdiv (2^ (min (1:Int).toNat (IntKind.bits .u64))))))))) (some (.out x1.1))
instance slices_BinarySearchFunc_Stay_Stay_Stay_world_order_l1_le (a)(b)(c):Le (Q0 a b c) (D7 a b c):=by unfold Q0 D7;infer_instance
def M1:type_of% @D4:=fun p1 p2=>(P0 (Q0 p1 p2) (0,(p1.length:Int))).bind fun y1=>((cond (decide (y1< (p1.length:Int))) (B7 p1 y1) (some default))).bind fun v3=>((cond (decide (y1< (p1.length:Int))) (Sw v3 p2) (some default))).bind fun v4=>some (y1,((decide (y1< (p1.length:Int)))&& (v4==0)))
instance slices_BinarySearchFunc_Stay_Stay_Stay_world_order_le (a)(b):Le (M1 a b) (D4 a b):=by unfold M1 D4;infer_instance
def Wf:type_of% @Gz:=fun p1 p2=>some (p1.Lane_==p2)
instance roads_part_1_b_le (a)(b):Le (Wf a b) (Gz a b):=by unfold Wf Gz;infer_instance
def Y1:type_of% @I4:=fun p1 p2 x1=>cond (decide (x1< (p1.length:Int))) ((B7 p1 x1).bind fun v1=>(Wf v1 p2).bind fun v2=>cond v2 (some (.out (.inr x1))) (some (.go (C3 (x1+1))))) (some (.out (.inl ())))
instance slices_IndexFunc_Part_Part_roads_part_1b_l1_le (a)(b)(c):Le (Y1 a b c) (I4 a b c):=by unfold Y1 I4;infer_instance
def Ag:type_of% @L5:=fun p1 p2=>thenS (P0 (Y1 p1 p2) 0) (fun _=>some (-1)) (fun r=>some r)
instance slices_IndexFunc_Part_Part_roads_part_1b_le (a)(b):Le (Ag a b) (L5 a b):=by unfold Ag L5;infer_instance
def FX:type_of% @Of:=fun p1 p2=>(Ag p1.Parts p2).bind fun v1=>cond (decide (v1<0)) (some ((Part.mk 0 0 0 0),false)) ((B7 p1.Parts v1).bind fun v2=>some (v2,true))
instance roads_part_le (a)(b):Le (FX a b) (Of a b):=by unfold FX Of;infer_instance
def Qx:type_of% @Da:=fun p1 p2 p3=>(B7 p2.Zones p3).bind fun v1=>(FX v1 p1).bind fun v2=>some v2.2
instance roads_Entry_1_b_b_le (a)(b)(c):Le (Qx a b c) (Da a b c):=by unfold Qx Da;infer_instance
def Y2:type_of% @I5:=fun p1 p2 p3 x1=>cond (decide (x1< (p1.length:Int))) ((B7 p1 x1).bind fun v1=>(Qx v1 p2 p3).bind fun v2=>cond v2 (some (.out (.inr x1))) (some (.go (C3 (x1+1))))) (some (.out (.inl ())))
instance slices_IndexFunc_int_int_roads_Entry_1bb_l1_le (a)(b)(c)(d):Le (Y2 a b c d) (I5 a b c d):=by unfold Y2 I5;infer_instance
def Ah:type_of% @J5:=fun p1 p2 p3=>thenS (P0 (Y2 p1 p2 p3) 0) (fun _=>some (-1)) (fun r=>some r)
instance slices_IndexFunc_int_int_roads_Entry_1bb_le (a)(b)(c):Le (Ah a b c) (J5 a b c):=by unfold Ah J5;infer_instance
def CU:type_of% @Lk:=fun p1 p2 p3=>(Nl p1 p2).bind fun v1=>cond ((decide (p3<0))||(decide (p3≥(p1.Zones.length:Int)))) (some (-1)) ((Ah v1.lanes p1 p3).bind fun v2=>some v2)
instance roads_Entry_le (a)(b)(c):Le (CU a b c) (Lk a b c):=by unfold CU Lk;infer_instance
def Sy:type_of% @Gh:=fun p1 p2 p3=>(CU p1 p2 p3).bind fun v1=>cond (decide (v1≥0)) ((B7 p2 v1).bind fun v2=>some v2) (some (-1))
instance world_entry_le (a)(b)(c):Le (Sy a b c) (Gh a b c):=by unfold Sy Gh;infer_instance
def BT:type_of% @Qb:=fun p1 p2=>((cond ((decide (p2≥0))&& (decide (p2< (p1.Lanes.length:Int)))) (Pl p1) (some default))).bind fun v1=>some (((decide (p2≥0))&& (decide (p2< (p1.Lanes.length:Int))))&& (v1==0))
instance roads_is_le (a)(b):Le (BT a b) (Qb a b):=by unfold BT Qb;infer_instance
def Wg:type_of% @Ac:=fun p1 p2 x2=>cond (decide (x2.2< (p1.Phases.length:Int))) ((B7 p1.Phases x2.2).bind fun v5=>cond (decide (x2.1≥v5.Ticks)) (some (.go ((C3 (x2.1 - v5.Ticks)),(C3 (x2.2+1))))) ((Bz v5.Green p2).bind fun v6=>some (.out (.inr v6)))) (some (.out (.inl ())))
instance signs_Green_l2_le (a)(b)(c):Le (Wg a b c) (Ac a b c):=by unfold Wg Ac;infer_instance
def Wh:type_of% @Be:=fun p1 x1=>cond (decide (x1.2< (p1.Phases.length:Int))) ((B7 p1.Phases x1.2).bind fun v1=>some (.go ((C3 (x1.1+v1.Ticks)),(C3 (x1.2+1))))) (some (.out x1.1))
instance signs_Green_l1_le (a)(b):Le (Wh a b) (Be a b):=by unfold Wh Be;infer_instance
def Xe:type_of% @Iq:=fun p1 p2 p3=>(P0 (Wh p1) (0,0)).bind fun y1=>(HK p1.Offset y1).bind fun v2=>(HK p3 y1).bind fun v3=>(HK (C3 (v2+v3)) y1).bind fun v4=>thenS (P0 (Wg p1 p2) (v4,0)) (fun _=>some false) (fun r=>some r)
instance signs_Green_le (a)(b)(c):Le (Xe a b c) (Iq a b c):=by unfold Xe Iq;infer_instance
def CV:type_of% @Ll:=fun p1 p2 p3 p4=>((cond (((decide (p4≥0))&& (decide (p2≥0)))&& (decide (p2< (p1.Signals.length:Int)))) (BT p1 p3) (some default))).bind fun v1=>((cond ((((decide (p4≥0))&& (decide (p2≥0)))&& (decide (p2< (p1.Signals.length:Int))))&&v1) (B7 p1.Signals p2) (some default))).bind fun v2=>((cond ((((decide (p4≥0))&& (decide (p2≥0)))&& (decide (p2< (p1.Signals.length:Int))))&&v1) (Xe v2 p3 p4) (some default))).bind fun v3=>some (((((decide (p4≥0))&& (decide (p2≥0)))&& (decide (p2< (p1.Signals.length:Int))))&&v1)&&v3)
instance roads_Green_le (a)(b)(c)(d):Le (CV a b c d) (Ll a b c d):=by unfold CV Ll;infer_instance
def Wi:type_of% @Ha:=fun p1 p2=>some (p1.Lane_==p2)
instance world_Rank_1_b_le (a)(b):Le (Wi a b) (Ha a b):=by unfold Wi Ha;infer_instance
def Y3:type_of% @I6:=fun p1 p2 x1=>cond (decide (x1< (p1.length:Int))) ((B7 p1 x1).bind fun v1=>(Wi v1 p2).bind fun v2=>cond v2 (some (.out (.inr x1))) (some (.go (C3 (x1+1))))) (some (.out (.inl ())))
instance slices_IndexFunc_Part_Part_world_Rank_1b_l1_le (a)(b)(c):Le (Y3 a b c) (I6 a b c):=by unfold Y3 I6;infer_instance
def Ai:type_of% @J6:=fun p1 p2=>thenS (P0 (Y3 p1 p2) 0) (fun _=>some (-1)) (fun r=>some r)
instance slices_IndexFunc_Part_Part_world_Rank_1b_le (a)(b):Le (Ai a b) (J6 a b):=by unfold Ai J6;infer_instance
def AE:type_of% @Jf:=fun p1 p2 p3 p4=>(Sy p1 p2.Route p3).bind fun v1=>cond (decide (v1<0)) (some 0) ((B7 p1.Zones p3).bind fun v2=>((cond (decide (v2.Signal_>0)) (CV p1 (C3 (v2.Signal_ - 1)) v1 p4) (some default))).bind fun v3=>cond ((decide (v2.Signal_>0))&&v3) (some 2) (cond (decide (v2.Signal_>0)) (some 0) ((Ai v2.Parts v1).bind fun v4=>(B7 v2.Parts v4).bind fun v5=>some v5.Rank)))
instance world_Rank_le (a)(b)(c)(d):Le (AE a b c d) (Jf a b c d):=by unfold AE Jf;infer_instance
def Kx:type_of% @Bl:=fun p1 x1 v1 x2=>cond (decide (x2.1< (p1.m.Zones.length:Int))) ((Bn (WorldScene.mk p1.m p1.before (State.mk p1.after.Tick p1.after.Agents x2.2) p1.acts p1.crashes) x1.1 x2.1).bind fun v2=>cond (!v2) (some (.go ((C3 (x2.1+1)),x2.2))) ((M1 p1.before.In (Stay.mk x1.1 x2.1 p1.before.Tick 0)).bind fun v3=>(cond v3.2 ((B7 p1.before.In v3.1).bind fun v4=>some v4) ((AE p1.m v1 x2.1 p1.before.Tick).bind fun v5=>some (Stay.mk x1.1 x2.1 p1.before.Tick v5))).bind fun y2=>(Z2 x2.2 [y2]).bind fun v6=>some (.go ((C3 (x2.1+1)),v6)))) (some (.out x2.2))
instance world_scene_stays_o_l2_le (a)(b)(c)(d):Le (Kx a b c d) (Bl a b c d):=by unfold Kx Bl;infer_instance
def Ky:type_of% @Bm:=fun p1 x1=>cond (decide (x1.1< (p1.before.Agents.length:Int))) ((B7 p1.before.Agents x1.1).bind fun v1=>(P0 (Kx p1 x1 v1) (0,x1.2)).bind fun y1=>some (.go ((C3 (x1.1+1)),y1))) (some (.out ((WorldScene.mk p1.m p1.before (State.mk p1.after.Tick p1.after.Agents x1.2) p1.acts p1.crashes))))
instance world_scene_stays_o_l1_le (a)(b):Le (Ky a b) (Bm a b):=by unfold Ky Bm;infer_instance
def Oy:type_of% @Dg:=fun p1=>P0 (Ky p1) (0,[])
instance world_scene_stays_o_le (a):Le (Oy a) (Dg a):=by unfold Oy Dg;infer_instance
def PM (s:State)(i:Nat):Nat→Nat→Option (List (Int×Int))
  |0,_=>some []
  |k+1,j=>(Pm s i).bind fun a=>(Pm s j).bind fun b=>(PM s i k (j+1)).bind fun l=>some (cond (a&&b) (((i:Int),(j:Int))::l) l)
instance pairsJ_le (s:State)(i:Nat): ∀(k j:Nat),Le (PM s i k j) (AQ s i k j)
  |0,j=>Le.refl _
  |k+1,j=>by
   rw [AQ,PM]
   have:=fun j=>pairsJ_le s i k j
   infer_instance
def PN (s:State)(n:Nat):Nat→Nat→Option (List (Int×Int))
  |0,_=>some []
  |k+1,i=>(PM s i (n - (i+1)) (i+1)).bind fun a=>(PN s n k (i+1)).bind fun b=>some (a++b)
instance pairsI_le (s:State)(n:Nat): ∀(k i:Nat),Le (PN s n k i) (CO s n k i)
  |0,i=>Le.refl _
  |k+1,i=>by
   rw [CO,PN]
   have:=fun i=>pairsI_le s n k i
   infer_instance
def PO:type_of% @CP:=fun s=>if s.Agents.length≤1000000 then PN s s.Agents.length s.Agents.length 0 else none
instance pairsC_le (a):Le (PO a) (CP a):=by unfold PO CP;infer_instance
def Gu:type_of% @Ad:=fun p1 p2=>some (WorldSpan.mk (C3 (p1.from_ - p2)) (C3 (p1.to - p2)))
instance world_span_less_le (a)(b):Le (Gu a b) (Ad a b):=by unfold Gu Ad;infer_instance
def Qf:type_of% @Em:=fun p1 p2=>(BT p1 p2).bind fun v1=>cond (!v1) (some 0) ((Rt p1 p2).bind fun v2=>some v2)
instance roads_Length_le (a)(b):Le (Qf a b) (Em a b):=by unfold Qf Em;infer_instance
def Qm:type_of% @Hb:=fun p1 p2=>some (WorldSpan.mk (Mn true p1.from_ p2.from_) (Mn false p1.to p2.to))
instance world_span_and_le (a)(b):Le (Qm a b) (Hb a b):=by unfold Qm Hb;infer_instance
def Nw:type_of% @Dv:=fun p1=>some (decide (p1.from_>p1.to))
instance world_span_empty_le (a):Le (Nw a) (Dv a):=by unfold Nw Dv;infer_instance
def Yq:type_of% @Nc:=fun p1 p2 v2 x1=>cond (decide (x1.2< (v2.length:Int))) ((B7 v2 x1.2).bind fun v3=>(B7 p2.Route x1.2).bind fun v4=>(Lq p2).bind fun v5=>(Gu v5 v3).bind fun v6=>(Qf p1 v4).bind fun v7=>(Qm v6 (WorldSpan.mk 0 v7)).bind fun v8=>(Nw v8).bind fun v9=>cond (!v9) ((Z2 x1.1 [(Span.mk v4 v8.from_ v8.to)]).bind fun v10=>some (.go (v10,(C3 (x1.2+1))))) (some (.go (x1.1,(C3 (x1.2+1)))))) (some (.out x1.1))
instance world_Body_l1_le (a)(b)(c)(d):Le (Yq a b c d) (Nc a b c d):=by unfold Yq Nc;infer_instance
def AF:type_of% @Qr:=fun p1 p2=>(Vl p2).bind fun v1=>cond (!v1) (some []) ((Qe p1 p2.Route).bind fun v2=>(P0 (Yq p1 p2 v2) ([],0)).bind fun y1=>some y1)
instance world_Body_le (a)(b):Le (AF a b) (Qr a b):=by unfold AF Qr;infer_instance
def Ns:type_of% @Cl:=fun p1 p2=>((cond (p2.Lane_==p1.Lane_) (Qm (WorldSpan.mk p2.From p2.To) (WorldSpan.mk p1.From p1.To)) (some default))).bind fun v1=>((cond (p2.Lane_==p1.Lane_) (Nw v1) (some default))).bind fun v2=>some ((p2.Lane_==p1.Lane_)&& (!v2))
instance world_Touching_1_1_b_le (a)(b):Le (Ns a b) (Cl a b):=by unfold Ns Cl;infer_instance
def S4:type_of% @K1:=fun p1 p2 x1=>cond (decide (x1< (p1.length:Int))) ((B7 p1 x1).bind fun v1=>(Ns v1 p2).bind fun v2=>cond v2 (some (.out (.inr x1))) (some (.go (C3 (x1+1))))) (some (.out (.inl ())))
instance slices_IndexFunc_Span_Span_world_Touching_1_1b_l1_le (a)(b)(c):Le (S4 a b c) (K1 a b c):=by unfold S4 K1;infer_instance
def V1:type_of% @L3:=fun p1 p2=>thenS (P0 (S4 p1 p2) 0) (fun _=>some (-1)) (fun r=>some r)
instance slices_IndexFunc_Span_Span_world_Touching_1_1b_le (a)(b):Le (V1 a b) (L3 a b):=by unfold V1 L3;infer_instance
def S5:type_of% @K2:=fun p1 p2=>(V1 p1 p2).bind fun v1=>some (decide (v1≥0))
instance slices_ContainsFunc_Span_Span_world_Touching_1_1b_le (a)(b):Le (S5 a b) (K2 a b):=by unfold S5 K2;infer_instance
def Px:type_of% @Dw:=fun p1 p2=>(S5 p2 p1).bind fun v1=>some v1
instance world_Touching_1_b_le (a)(b):Le (Px a b) (Dw a b):=by unfold Px Dw;infer_instance
def T7:type_of% @K7:=fun p1 p2 x1=>cond (decide (x1< (p1.length:Int))) ((B7 p1 x1).bind fun v1=>(Px v1 p2).bind fun v2=>cond v2 (some (.out (.inr x1))) (some (.go (C3 (x1+1))))) (some (.out (.inl ())))
instance slices_IndexFunc_Span_Span_world_Touching_1b_l1_le (a)(b)(c):Le (T7 a b c) (K7 a b c):=by unfold T7 K7;infer_instance
def W6:type_of% @M0:=fun p1 p2=>thenS (P0 (T7 p1 p2) 0) (fun _=>some (-1)) (fun r=>some r)
instance slices_IndexFunc_Span_Span_world_Touching_1b_le (a)(b):Le (W6 a b) (M0 a b):=by unfold W6 M0;infer_instance
def T8:type_of% @K8:=fun p1 p2=>(W6 p1 p2).bind fun v1=>some (decide (v1≥0))
instance slices_ContainsFunc_Span_Span_world_Touching_1b_le (a)(b):Le (T8 a b) (K8 a b):=by unfold T8 K8;infer_instance
def Wj:type_of% @Km:=fun p1 p2 p3=>(AF p1 p3).bind fun v1=>(AF p1 p2).bind fun v2=>(T8 v2 v1).bind fun v3=>some v3
instance world_Touching_le (a)(b)(c):Le (Wj a b c) (Km a b c):=by unfold Wj Km;infer_instance
def Iy:type_of% @X1:=fun p1 p2 p3 p4=>(Bn p1 p2 p4).bind fun v1=>((cond v1 (Bn p1 p3 p4) (some default))).bind fun v2=>((cond (v1&&v2) (B7 p1.before.Agents p2) (some default))).bind fun v3=>((cond (v1&&v2) (Sy p1.m v3.Route p4) (some default))).bind fun v4=>((cond (v1&&v2) (B7 p1.before.Agents p3) (some default))).bind fun v5=>((cond (v1&&v2) (Sy p1.m v5.Route p4) (some default))).bind fun v6=>some ((v1&&v2)&& (v4 !=v6))
instance world_scene_clash_b_le (a)(b)(c)(d):Le (Iy a b c d) (X1 a b c d):=by unfold Iy X1;infer_instance
def BB:type_of% @Pg:=fun p1 v5 a1 x2=>cond (decide (x2< (p1.Zones.length:Int))) ((Iy v5 a1.1 a1.2 x2).bind fun v10=>cond v10 (some (.out (.inr ((State.mk 0 [] []),12)))) (some (.go (C3 (x2+1))))) (some (.out (.inl ())))
instance world_New_l3_le (a)(b)(c)(d):Le (BB a b c d) (Pg a b c d):=by unfold BB Pg;infer_instance
def BC:type_of% @Ph:=fun p1 p2 v5 x1 a1=>(B7 p2 a1.1).bind fun v7=>(B7 p2 a1.2).bind fun v8=>(Wj p1 v7 v8).bind fun v9=>cond v9 (some (.out (.inr ((State.mk 0 [] []),12)))) (thenS (P0 (BB p1 v5 a1) 0) (fun _=>some (.go ())) (fun r=>some (.out (.inr r))))
instance world_New_l2_le (a)(b)(c)(d)(e):Le (BC a b c d e) (Ph a b c d e):=by unfold BC Ph;infer_instance
def BD:type_of% @Sk:=some ()
instance world_New_i1_le:Le (BD) (Sk):=by unfold BD Sk;infer_instance
def JP:type_of% @Xl:=fun p1 p2=>(Zy (State.mk 0 p2 [])).bind fun v1=>(Sx p1 v1).bind fun v2=>cond (v2 !=0) (some ((State.mk 0 [] []),v2)) ((Y0 p2).bind fun v3=>cond v3 (some ((State.mk 0 [] []),10)) ((Zy v1).bind fun v4=>(Oy (WorldScene.mk p1 v1 v4 [] [])).bind fun v5=>(BD).bind fun y1=>thenS ((PO v5.before).bind fun v6=>loopL (BC p1 p2 v5) (fun (x1:Unit)=> .inl ()) v6 ()) (fun _=>some (v5.after,0)) (fun r=>some r)))
instance world_New_le (a)(b):Le (JP a b) (Xl a b):=by unfold JP Xl;infer_instance
def Uk:type_of% @Ia:=fun p1=>(cond (decide (p1≥4294967296)) (some ((p1.fdiv (2^ (min (32:Int).toNat (IntKind.bits .u64)))),32)) (some (p1,0))).bind fun y1=>(cond (decide (y1.1≥65536)) (some ((y1.1.fdiv (2^ (min (16:Int).toNat (IntKind.bits .u64)))),(C3 (y1.2+16)))) (some (y1.1,y1.2))).bind fun y2=>cond (decide (y2.1≥256)) ((iL (ByteArray.mk #[0,1,2,2,3,3,3,3,4,4,4,4,4,4,4,4,5,5,5,5,5,5,5,5,5,5,5,5,5,5,5,5,6,6,6,6,6,6,6,6,6,6,6,6,6,6,6,6,6,6,6,6,6,6,6,6,6,6,6,6,6,6,6,6,7,7,7,7,7,7,7,7,7,7,7,7,7,7,7,7,7,7,7,7,7,7,7,7,7,7,7,7,7,7,7,7,7,7,7,7,7,7,7,7,7,7,7,7,7,7,7,7,7,7,7,7,7,7,7,7,7,7,7,7,7,7,7,7,8,8,8,8,8,8,8,8,8,8,8,8,8,8,8,8,8,8,8,8,8,8,8,8,8,8,8,8,8,8,8,8,8,8,8,8,8,8,8,8,8,8,8,8,8,8,8,8,8,8,8,8,8,8,8,8,8,8,8,8,8,8,8,8,8,8,8,8,8,8,8,8,8,8,8,8,8,8,8,8,8,8,8,8,8,8,8,8,8,8,8,8,8,8,8,8,8,8,8,8,8,8,8,8,8,8,8,8,8,8,8,8,8,8,8,8,8,8,8,8,8,8,8,8,8,8,8,8]) (IntKind.wrap .u8 (y2.1.fdiv (2^ (min (8:Int).toNat (IntKind.bits .u64)))))).bind fun v1=>some (C3 ((C3 (y2.2+8))+ (C3 v1)))) ((iL (ByteArray.mk #[0,1,2,2,3,3,3,3,4,4,4,4,4,4,4,4,5,5,5,5,5,5,5,5,5,5,5,5,5,5,5,5,6,6,6,6,6,6,6,6,6,6,6,6,6,6,6,6,6,6,6,6,6,6,6,6,6,6,6,6,6,6,6,6,7,7,7,7,7,7,7,7,7,7,7,7,7,7,7,7,7,7,7,7,7,7,7,7,7,7,7,7,7,7,7,7,7,7,7,7,7,7,7,7,7,7,7,7,7,7,7,7,7,7,7,7,7,7,7,7,7,7,7,7,7,7,7,7,8,8,8,8,8,8,8,8,8,8,8,8,8,8,8,8,8,8,8,8,8,8,8,8,8,8,8,8,8,8,8,8,8,8,8,8,8,8,8,8,8,8,8,8,8,8,8,8,8,8,8,8,8,8,8,8,8,8,8,8,8,8,8,8,8,8,8,8,8,8,8,8,8,8,8,8,8,8,8,8,8,8,8,8,8,8,8,8,8,8,8,8,8,8,8,8,8,8,8,8,8,8,8,8,8,8,8,8,8,8,8,8,8,8,8,8,8,8,8,8,8,8,8,8,8,8,8,8]) (IntKind.wrap .u8 y2.1)).bind fun v2=>some (C3 (y2.2+ (C3 v2))))
instance math_bits_Len64_le (a):Le (Uk a) (Ia a):=by unfold Uk Ia;infer_instance
def Sz:type_of% @En:=fun p1=>(Uk p1).bind fun v1=>some v1
instance math_bits_Len_le (a):Le (Sz a) (En a):=by unfold Sz En;infer_instance
def Wk:type_of% @Fb:=fun p1 p2=>(Gs p1).bind fun v1=>((cond v1 (Gs p2) (some default))).bind fun v2=>some ((v1&& (!v2))||(decide (p1<p2)))
instance cmp_Less_int64_le (a)(b):Le (Wk a b) (Fb a b):=by unfold Wk Fb;infer_instance
def Aw:type_of% @F6:=fun p2 x2=>((cond (decide (x2.1>p2)) (B7 x2.2 x2.1) (some default))).bind fun v1=>((cond (decide (x2.1>p2)) (B7 x2.2 (C3 (x2.1 - 1))) (some default))).bind fun v2=>((cond (decide (x2.1>p2)) (Wk v1 v2) (some default))).bind fun v3=>cond ((decide (x2.1>p2))&&v3) ((B7 x2.2 (C3 (x2.1 - 1))).bind fun v4=>(B7 x2.2 x2.1).bind fun v5=>(B7 x2.2 x2.1).bind fun v6=>(B7 (Kj x2.2 x2.1 v4) (C3 (x2.1 - 1))).bind fun v7=>some (.go ((C3 (x2.1 - 1)),(Kj (Kj x2.2 x2.1 v4) (C3 (x2.1 - 1)) v5)))) (some (.out x2.2))
instance slices_insertionSortOrdered_int64_a_l2_le (a)(b):Le (Aw a b) (F6 a b):=by unfold Aw F6;infer_instance
def Ax:type_of% @G5:=fun p2 p3 x1=>cond (decide (x1.1<p3)) ((P0 (Aw p2) (x1.1,x1.2)).bind fun y1=>some (.go ((C3 (x1.1+1)),y1))) (some (.out (x1.2)))
instance slices_insertionSortOrdered_int64_a_l1_le (a)(b)(c):Le (Ax a b c) (G5 a b c):=by unfold Ax G5;infer_instance
def Bs:type_of% @K0:=fun p1 p2 p3=>P0 (Ax p2 p3) ((C3 (p2+1)),p1)
instance slices_insertionSortOrdered_int64_a_le (a)(b)(c):Le (Bs a b c) (K0 a b c):=by unfold Bs K0;infer_instance
def Cn:type_of% @N8:=fun p1 x1=>cond (decide ((C3 (x1.2.1 - x1.1))≤12)) ((Bs p1 x1.1 x1.2.1).bind fun v1=>some (.out (v1))) (cond (x1.2.2.1==0) (none) ((cond (!x1.2.2.2.1) (none) (some ())).bind fun _=>none))
instance slices_pdqsortOrdered_int64_a_l1_le (a)(b):Le (Cn a b) (N8 a b):=by unfold Cn N8;infer_instance
def Eb:type_of% @P1:=fun p1 p2 p3 p4=>P0 (Cn p1) (p2,p3,p4,true,true)
instance slices_pdqsortOrdered_int64_a_le (a)(b)(c)(d):Le (Eb a b c d) (P1 a b c d):=by unfold Eb P1;infer_instance
def Hj:type_of% @Q3:=fun p1=>(Sz (IntKind.wrap .u64 (p1.length:Int))).bind fun v1=>(Eb p1 0 (p1.length:Int) v1).bind fun v2=>some v2
instance slices_Sort_int64_int64_a_le (a):Le (Hj a) (Q3 a):=by unfold Hj Q3;infer_instance
def Ay:type_of% @N3:=fun p1 x2=>((cond (decide (x2>p1)) ((none:Option Unit)) (some default))).bind fun v1=>cond ((decide (x2>p1))&&false) (none) (some (.out ()))
instance slices_insertionSortOrdered_int64_n_l2_le (a)(b):Le (Ay a b) (N3 a b):=by unfold Ay N3;infer_instance
def Az:type_of% @N4:=fun p1 p2 x1=>cond (decide (x1<p2)) ((P0 (Ay p1) x1).bind fun _=>some (.go (C3 (x1+1)))) (some (.out (())))
instance slices_insertionSortOrdered_int64_n_l1_le (a)(b)(c):Le (Az a b c) (N4 a b c):=by unfold Az N4;infer_instance
def Bt:type_of% @M8:=fun p1 p2=>P0 (Az p1 p2) (C3 (p1+1))
instance slices_insertionSortOrdered_int64_n_le (a)(b):Le (Bt a b) (M8 a b):=by unfold Bt M8;infer_instance
def Co:type_of% @N9:=fun x1=>cond (decide ((C3 (x1.2.1 - x1.1))≤12)) ((Bt x1.1 x1.2.1).bind fun v1=>some (.out (()))) (cond (x1.2.2.1==0) (none) ((cond (!x1.2.2.2.1) (none) (some ())).bind fun _=>none))
instance slices_pdqsortOrdered_int64_n_l1_le (a):Le (Co a) (N9 a):=by unfold Co N9;infer_instance
def Ec:type_of% @P2:=fun p1 p2 p3=>P0 (Co) (p1,p2,p3,true,true)
instance slices_pdqsortOrdered_int64_n_le (a)(b)(c):Le (Ec a b c) (P2 a b c):=by unfold Ec P2;infer_instance
def Hl:type_of% @Q4:=(Sz (IntKind.wrap .u64 0)).bind fun v1=>(Ec 0 0 v1).bind fun v2=>some ()
instance slices_Sort_int64_int64_n_le:Le (Hl) (Q4):=by unfold Hl Q4;infer_instance
def BE:type_of% @Db:=fun p1 p2 p3 v1 x2=>cond (decide (x2.2< (v1.Parts.length:Int))) ((B7 v1.Parts x2.2).bind fun v2=>((cond (v2.Lane_==p2) (B7 p1.Signals (C3 (v1.Signal_ - 1))) (some default))).bind fun v3=>((cond (v2.Lane_==p2) (Xe v3 p2 p3) (some default))).bind fun v4=>cond ((v2.Lane_==p2)&& (!v4)) ((Z2 x2.1 [v2.From]).bind fun v5=>some (.go (v5,(C3 (x2.2+1))))) (some (.go (x2.1,(C3 (x2.2+1)))))) (some (.out x2.1))
instance signs_Red_l2_le (a)(b)(c)(d)(e):Le (BE a b c d e) (Db a b c d e):=by unfold BE Db;infer_instance
def BF:type_of% @Dc:=fun p1 p2 p3 x1=>cond (decide (x1.2< (p1.Zones.length:Int))) ((B7 p1.Zones x1.2).bind fun v1=>cond (v1.Signal_==0) (some (.go (x1.1,(C3 (x1.2+1))))) ((P0 (BE p1 p2 p3 v1) (x1.1,0)).bind fun y2=>some (.go (y2,(C3 (x1.2+1)))))) (some (.out x1.1))
instance signs_Red_l1_le (a)(b)(c)(d):Le (BF a b c d) (Dc a b c d):=by unfold BF Dc;infer_instance
def JQ:type_of% @Rm:=fun p1 p2 p3=>(P0 (BF p1 p2 p3) ([],0)).bind fun y1=>cond (List.isEmpty y1) ((Hl).bind fun v8=>some []) ((Hj y1).bind fun v6=>(FG v6).bind fun v7=>some v7)
instance signs_Red_le (a)(b)(c):Le (JQ a b c) (Rm a b c):=by unfold JQ Rm;infer_instance
def JR:type_of% @Ib:=fun p1 p2 p3=>((cond (!(decide (p3<0))) (BT p1 p2) (some default))).bind fun v1=>cond ((decide (p3<0))||(!v1)) (some []) ((JQ p1 p2 p3).bind fun v2=>some v2)
instance roads_Red_le (a)(b)(c):Le (JR a b c) (Ib a b c):=by unfold JR Ib;infer_instance
def Nx:type_of% @X8:=fun p1 p2 p3=>some (Mn true 0 (Mn false (C3 (p2.V+p1)) p3))
instance world_move_1_b_b_le (a)(b)(c):Le (Nx a b c) (X8 a b c):=by unfold Nx X8;infer_instance
def Vm:type_of% @Jg:=fun p1 p2=>cond ((decide (p1<1))||(decide (p2<1))) (some 0) ((iC .i64 (C3 ((Mn false p1 1000000) - 1)) (Mn false p2 1000000)).bind fun v1=>some (C3 ((C3 (v1* (Mn false p1 1000000))) - (C3 ((Mn false p2 1000000)* (C3 ((C3 (v1* (C3 (v1+1)))).tdiv 2)))))))
instance world_Stop_le (a)(b):Le (Vm a b) (Jg a b):=by unfold Vm Jg;infer_instance
def Ml:type_of% @Ao:=fun p1 p2 p3 p4 p5=>((cond (decide (p1>p2)) (Vm p3 p4) (some default))).bind fun v1=>((cond ((decide (p1>p2))&& (decide ((C3 (p2+v1))<p1))) (Vm p5 p4) (some default))).bind fun v2=>some (((decide (p1>p2))&& (decide ((C3 (p2+v1))<p1)))&& (decide ((C3 ((C3 (p2+p5))+v2))≥p1)))
instance world_keeps_1_b_b_b_b_le (a)(b)(c)(d)(e):Le (Ml a b c d e) (Ao a b c d e):=by unfold Ml Ao;infer_instance
def S6:type_of% @F7:=fun p1 p2 p3 p4 p5 x1=>cond (decide (x1< (p1.length:Int))) ((B7 p1 x1).bind fun v1=>(Ml v1 p2 p3 p4 p5).bind fun v2=>cond v2 (some (.out (.inr x1))) (some (.go (C3 (x1+1))))) (some (.out (.inl ())))
instance slices_IndexFunc_int64_int64_world_keeps_1bbbb_l1_le (a)(b)(c)(d)(e)(f):Le (S6 a b c d e f) (F7 a b c d e f):=by unfold S6 F7;infer_instance
def V2:type_of% @I8:=fun p1 p2 p3 p4 p5=>thenS (P0 (S6 p1 p2 p3 p4 p5) 0) (fun _=>some (-1)) (fun r=>some r)
instance slices_IndexFunc_int64_int64_world_keeps_1bbbb_le (a)(b)(c)(d)(e):Le (V2 a b c d e) (I8 a b c d e):=by unfold V2 I8;infer_instance
def S7:type_of% @H9:=fun p1 p2 p3 p4 p5=>(V2 p1 p2 p3 p4 p5).bind fun v1=>some (decide (v1≥0))
instance slices_ContainsFunc_int64_int64_world_keeps_1bbbb_le (a)(b)(c)(d)(e):Le (S7 a b c d e) (H9 a b c d e):=by unfold S7 H9;infer_instance
def CW:type_of% @Lm:=fun p1 p2 p3 p4 p5=>(S7 p1 p2 p3 p5 p4).bind fun v1=>some (!v1)
instance world_keeps_le (a)(b)(c)(d)(e):Le (CW a b c d e) (Lm a b c d e):=by unfold CW Lm;infer_instance
def Yr:type_of% @Bj:=fun p2 v1 v3 v5 x1=>((cond (decide (x1>(C3 (0 - v3.2.2)))) (Nx x1 p2 v3.1) (some default))).bind fun v6=>((cond (decide (x1>(C3 (0 - v3.2.2)))) (CW v5 v1.2 p2.V v6 v3.2.2) (some default))).bind fun v7=>cond ((decide (x1>(C3 (0 - v3.2.2))))&& (!v7)) (some (.go (C3 (x1 - 1)))) (some (.out x1))
instance world_move_l1_le (a)(b)(c)(d)(e):Le (Yr a b c d e) (Bj a b c d e):=by unfold Yr Bj;infer_instance
def FY:type_of% @Jh:=fun p1 p2 p3 p4=>(AB p1 p2).bind fun v1=>(B7 p1.Lanes v1.1).bind fun v2=>(Nk v2.Kind).bind fun v3=>((cond p2.Obey (Qf p1 v1.1) (some default))).bind fun v4=>(cond (p2.Obey&& (decide (v1.2≤v4))) ((JR p1 v1.1 p3).bind fun v5=>(P0 (Yr p2 v1 v3 v5) (Mn true (C3 (0 - v3.2.2)) (Mn false p4 v3.2.1))).bind fun y2=>some y2) (some (Mn true (C3 (0 - v3.2.2)) (Mn false p4 v3.2.1)))).bind fun y1=>(Nx y1 p2 v3.1).bind fun v8=>(AD p1 (Agent.mk p2.Route (C3 (p2.S+v8)) v8 p2.Len p2.Begin p2.Obey p2.Gone)).bind fun v9=>some (Agent.mk p2.Route (C3 (p2.S+v8)) v8 p2.Len p2.Begin p2.Obey v9)
instance world_move_le (a)(b)(c)(d):Le (FY a b c d) (Jh a b c d):=by unfold FY Jh;infer_instance
def FZ:type_of% @Oi:=fun p1 p2 p3 p4=>cond ((decide (p3<0))||(decide (p3≥(p2.Agents.length:Int)))) (some (Agent.mk [] 0 0 0 0 false false)) ((B7 p2.Agents p3).bind fun v1=>(My v1).bind fun v2=>(Pm p2 p3).bind fun v3=>((cond (!(!v3)) (Sx p1 p2) (some default))).bind fun v4=>cond ((!v3)||(v4 !=0)) (some v2) ((FY p1 v2 p2.Tick p4).bind fun v5=>some v5))
instance world_Move_le (a)(b)(c)(d):Le (FZ a b c d) (Oi a b c d):=by unfold FZ Oi;infer_instance
def Ta:type_of% @Gp:=fun p1 x1=>cond (decide (x1.1< (p1.Agents.length:Int))) ((B7 p1.Agents x1.1).bind fun v2=>(My v2).bind fun v3=>(Z2 x1.2.Agents [v3]).bind fun v4=>some (.go ((C3 (x1.1+1)),(State.mk x1.2.Tick v4 x1.2.In)))) (some (.out x1.2))
instance world_Copy_me_l1_le (a)(b):Le (Ta a b) (Gp a b):=by unfold Ta Gp;infer_instance
def Ys:type_of% @Ji:=fun p1=>(Fj p1.In).bind fun v1=>(P0 (Ta p1) (0,(State.mk p1.Tick [] v1))).bind fun y1=>some y1
instance world_Copy_me_le (a):Le (Ys a) (Ji a):=by unfold Ys Ji;infer_instance
def Iz:type_of% @X2:=fun p1 p2 p3=>(B7 p1.before.Agents p2).bind fun v1=>(Hq v1.Route p3).bind fun v2=>cond (decide (v2<0)) (some (0,false)) ((Qe p1.m v1.Route).bind fun v3=>(B7 v3 v2).bind fun v4=>some (v4,true))
instance world_scene_start_b_le (a)(b)(c):Le (Iz a b c) (X2 a b c):=by unfold Iz X2;infer_instance
def Kh:type_of% @Z6:=fun p1 p2 p3=>(M1 p1.after.In (Stay.mk p2 p3 0 0)).bind fun v1=>(B7 p1.after.In v1.1).bind fun v2=>some v2
instance world_scene_stay_b_le (a)(b)(c):Le (Kh a b c) (Z6 a b c):=by unfold Kh Z6;infer_instance
def Wl:type_of% @Dd:=fun p1 p2 p3 v2 y2 y5 a1 x6=>cond (decide (x6.1< (p1.Zones.length:Int))) ((Iy (WorldScene.mk p1 p2 (State.mk v2.Tick y2 y5) p3 x6.2) a1.1 a1.2 x6.1).bind fun v28=>cond (!v28) (some (.go ((C3 (x6.1+1)),x6.2))) ((Kh (WorldScene.mk p1 p2 (State.mk v2.Tick y2 y5) p3 x6.2) a1.1 x6.1).bind fun v29=>(Kh (WorldScene.mk p1 p2 (State.mk v2.Tick y2 y5) p3 x6.2) a1.2 x6.1).bind fun v30=>(Gr v29.Rank v30.Rank).bind fun v31=>(Mk v30.Since v29.Since).bind fun v32=>(Vk [v31,v32]).bind fun v33=>(cond (v33==(-1)) (some [a1.1]) (cond (v33==1) (some [a1.2]) (some [a1.1,a1.2]))).bind fun y17=>(Z2 x6.2 [(Crash.mk p2.Tick a1.1 a1.2 (-1) x6.1 y17)]).bind fun v34=>some (.go ((C3 (x6.1+1)),v34)))) (some (.out x6.2))
instance world_Step_l12_le (a)(b)(c)(d)(e)(f)(g)(h):Le (Wl a b c d e f g h) (Dd a b c d e f g h):=by unfold Wl Dd;infer_instance
def Wm:type_of% @Hd:=fun p1 p2 p3 v2 y2 y5 a1 y12=>(P0 (Wl p1 p2 p3 v2 y2 y5 a1) (0,y12)).bind fun y16=>some y16
instance world_Step_i11_le (a)(b)(c)(d)(e)(f)(g)(h):Le (Wm a b c d e f g h) (Hd a b c d e f g h):=by unfold Wm Hd;infer_instance
def Wn:type_of% @De:=fun p1 p2 p3 v2 y2 y5 x4 a1 x5=>cond (decide (x5< (p1.Lanes.length:Int))) ((Iz (WorldScene.mk p1 p2 (State.mk v2.Tick y2 y5) p3 x4) a1.1 x5).bind fun v13=>(Iz (WorldScene.mk p1 p2 (State.mk v2.Tick y2 y5) p3 x4) a1.2 x5).bind fun v14=>cond ((!v13.2)||(!v14.2)) (some (.go (C3 (x5+1)))) ((B7 p2.Agents a1.1).bind fun v15=>(B7 p2.Agents a1.2).bind fun v16=>(cond (decide ((C3 (v15.S - v13.1))< (C3 (v16.S - v14.1)))) (some (v14.1,v13.1,a1.2,a1.1)) (some (v13.1,v14.1,a1.1,a1.2))).bind fun y14=>(B7 y2 y14.2.2.1).bind fun v17=>(Lq v17).bind fun v18=>(Gu v18 y14.1).bind fun v19=>(B7 y2 y14.2.2.2).bind fun v20=>(Lq v20).bind fun v21=>(Gu v21 y14.2.1).bind fun v22=>(B7 p2.Agents y14.2.2.2).bind fun v23=>(Lq v23).bind fun v24=>(Gu v24 y14.2.1).bind fun v25=>(Qf p1 x5).bind fun v26=>cond (((((decide (v19.to≥0))&& (decide (v22.to≥0)))&& (decide (v25.from_≤v26)))&& (decide (v19.from_≤v26)))&& (decide (v22.to≥v19.from_))) ((Z2 x4 [(Crash.mk p2.Tick a1.1 a1.2 x5 (-1) [y14.2.2.2])]).bind fun v27=>some (.out (.inr v27))) (some (.go (C3 (x5+1)))))) (some (.out (.inl ())))
instance world_Step_l10_le (a)(b)(c)(d)(e)(f)(g)(h)(i):Le (Wn a b c d e f g h i) (De a b c d e f g h i):=by unfold Wn De;infer_instance
def Yt:type_of% @Jj:=fun p1 p2 p3 v2 y2 y5 x4 a1=>thenS (P0 (Wn p1 p2 p3 v2 y2 y5 x4 a1) 0) (fun _=>some x4) (fun r=>some r)
instance world_Step_i9_le (a)(b)(c)(d)(e)(f)(g)(h):Le (Yt a b c d e f g h) (Jj a b c d e f g h):=by unfold Yt Jj;infer_instance
def Yu:type_of% @Eo:=fun p1 p2 p3 v2 y2 y5 x4 a1=>(Yt p1 p2 p3 v2 y2 y5 x4 a1).bind fun y12=>(Wm p1 p2 p3 v2 y2 y5 a1 y12).bind fun y15=>some (.go y15)
instance world_Step_l8_le (a)(b)(c)(d)(e)(f)(g)(h):Le (Yu a b c d e f g h) (Eo a b c d e f g h):=by unfold Yu Eo;infer_instance
def Yv:type_of% @Nd:=some ()
instance world_Step_i7_le:Le (Yv) (Nd):=by unfold Yv Nd;infer_instance
def Yw:type_of% @Jk:=fun p1 p2 p3 v2 y2 y5=>(Yv).bind fun y10=>((PO p2).bind fun v12=>loopL (Yu p1 p2 p3 v2 y2 y5) (fun (x4:(List Crash))=>x4) v12 []).bind fun y11=>some y11
instance world_Step_i6_le (a)(b)(c)(d)(e)(f):Le (Yw a b c d e f) (Jk a b c d e f):=by unfold Yw Jk;infer_instance
def Yx:type_of% @Ep:=fun p1 p2 p3 v2 y2 x2 v6 x3=>cond (decide (x3.1< (p1.Zones.length:Int))) ((Bn (WorldScene.mk p1 p2 (State.mk v2.Tick y2 x3.2) p3 []) x2.1 x3.1).bind fun v7=>cond (!v7) (some (.go ((C3 (x3.1+1)),x3.2))) ((M1 p2.In (Stay.mk x2.1 x3.1 p2.Tick 0)).bind fun v8=>(cond v8.2 ((B7 p2.In v8.1).bind fun v9=>some v9) ((AE p1 v6 x3.1 p2.Tick).bind fun v10=>some (Stay.mk x2.1 x3.1 p2.Tick v10))).bind fun y8=>(Z2 x3.2 [y8]).bind fun v11=>some (.go ((C3 (x3.1+1)),v11)))) (some (.out x3.2))
instance world_Step_l5_le (a)(b)(c)(d)(e)(f)(g)(h):Le (Yx a b c d e f g h) (Ep a b c d e f g h):=by unfold Yx Ep;infer_instance
def Yy:type_of% @Er:=fun p1 p2 p3 v2 y2 x2=>cond (decide (x2.1< (p2.Agents.length:Int))) ((B7 p2.Agents x2.1).bind fun v6=>(P0 (Yx p1 p2 p3 v2 y2 x2 v6) (0,x2.2)).bind fun y7=>some (.go ((C3 (x2.1+1)),y7))) (some (.out x2.2))
instance world_Step_l4_le (a)(b)(c)(d)(e)(f):Le (Yy a b c d e f) (Er a b c d e f):=by unfold Yy Er;infer_instance
def Yz:type_of% @Jl:=fun p1 p2 p3 v2 y2=>(P0 (Yy p1 p2 p3 v2 y2) (0,[])).bind fun y6=>some y6
instance world_Step_i3_le (a)(b)(c)(d)(e):Le (Yz a b c d e) (Jl a b c d e):=by unfold Yz Jl;infer_instance
def Za:type_of% @Es:=fun p1 p2 p3 x1=>cond (decide (x1.1< (p2.Agents.length:Int))) ((cond (decide (x1.1< (p3.length:Int))) ((B7 p3 x1.1).bind fun v3=>some v3) (some 0)).bind fun y4=>(FZ p1 p2 x1.1 y4).bind fun v4=>(B7 x1.2 x1.1).bind fun v5=>some (.go ((C3 (x1.1+1)),(Kj x1.2 x1.1 v4)))) (some (.out x1.2))
instance world_Step_l2_le (a)(b)(c)(d):Le (Za a b c d) (Es a b c d):=by unfold Za Es;infer_instance
def Zb:type_of% @Jm:=fun p1 p2 p3 v2=>(P0 (Za p1 p2 p3) (0,v2.Agents)).bind fun y3=>some y3
instance world_Step_i1_le (a)(b)(c)(d):Le (Zb a b c d) (Jm a b c d):=by unfold Zb Jm;infer_instance
def GA:type_of% @Mc:=fun p1 p2 p3=>(Sx p1 p2).bind fun v1=>cond (v1 !=0) (some ((State.mk 0 [] []),[],v1)) (cond (decide (p2.Tick≥1099511627776)) (some ((State.mk 0 [] []),[],2)) ((Ys p2).bind fun v2=>((Zb p1 p2 p3 v2).bind fun y2=>(Yz p1 p2 p3 v2 y2).bind fun y5=>(Yw p1 p2 p3 v2 y2 y5).bind fun y9=>some (y2,y5,y9)).bind fun y1=>some ((State.mk (C3 (v2.Tick+1)) y1.1 y1.2.1),y1.2.2,0)))
instance world_Step_le (a)(b)(c):Le (GA a b c) (Mc a b c):=by unfold GA Mc;infer_instance
def LR:type_of% @Ln:=(JO).bind fun v1=>(Xc 0 10000 1000).bind fun v2=>(Xc 1 46000 1000).bind fun v3=>(JP v1 [v2,v3]).bind fun v4=>cond (((v4.2 !=0)||((v4.1.In.length:Int) !=0))||((v4.1.Agents.length:Int) !=2)) (some false) ((GA v1 v4.1 [50,(-90)]).bind fun v5=>((cond (((v5.2.2==0)&& ((v5.2.1.length:Int)==0))&& ((v5.1.Agents.length:Int)==2)) (B7 v5.1.Agents 0) (some default))).bind fun v6=>((cond ((((v5.2.2==0)&& ((v5.2.1.length:Int)==0))&& ((v5.1.Agents.length:Int)==2))&& (v6.S==11030)) (B7 v5.1.Agents 1) (some default))).bind fun v7=>((cond (((((v5.2.2==0)&& ((v5.2.1.length:Int)==0))&& ((v5.1.Agents.length:Int)==2))&& (v6.S==11030))&& (v7.V==910)) (Vm 100 30) (some default))).bind fun v8=>some ((((((v5.2.2==0)&& ((v5.2.1.length:Int)==0))&& ((v5.1.Agents.length:Int)==2))&& (v6.S==11030))&& (v7.V==910))&& (v8==120)))
instance law04_awake_le:Le (LR) (Ln):=by unfold LR Ln;infer_instance
theorem Mz (n:Int): ∃y,Jc n=some (y,y*y==n)∧0≤y∧y≤67108864∧(∀m,0≤m→m<y→m*m<n)∧(y=67108864∨n≤y*y):=by
  have key:=YY (f:=Gb n) (fun x=>0≤x.1∧x.1≤x.2∧x.2≤67108864∧(∀m,0≤m→m<x.1→m*m<n)∧(x.2=67108864∨n≤x.2*x.2)) (fun x=>(x.2 - x.1).toNat)
    (fun y=>0≤y∧y≤67108864∧(∀m,0≤m→m<y→m*m<n)∧(y=67108864∨n≤y*y)) (by
      rintro ⟨lo,hi⟩ ⟨h1,h2,h3,h4,h5⟩
      dsimp only at h1 h2 h3 h4 h5
      unfold Gb
      dsimp only
      by_cases hlt:lo<hi
      ·have e1:C3 (lo+hi)=lo+hi:=G9 (by omega)
       have e2:C3 ((lo+hi).tdiv 2)=(lo+hi) / 2:=by rw [wK (by omega)];exact G9 (by omega)
       have hm:lo≤(lo+hi) / 2∧(lo+hi) / 2<hi:=by omega
       generalize hmid:(lo+hi) / 2=mid at*
       have hmm:mid*mid≤67108864*67108864:=fS (by omega) (by omega)
       have hmm0:=Xj mid
       have e3:C3 (mid*mid)=mid*mid:=G9 (by omega)
       have e4:C3 (mid+1)=mid+1:=G9 (by omega)
       simp only [e1,e2,e3,e4,hlt,decide_true,bJ]
       by_cases hc:mid*mid<n
       ·simp only [hc,decide_true,bJ]
        refine ⟨_,rfl,⟨by omega,by omega,h3,fun m hm0 hm1=> ?_,h5⟩,by dsimp only;omega⟩
        rcases Int.lt_or_le m mid with q|q
        ·have:=Int.mul_le_mul (show m≤mid by omega) (show m≤mid by omega) hm0 (by omega);omega
        ·have:m=mid:=by dsimp only at hm1;omega
         subst this;exact hc
       ·simp only [hc,decide_false,bK]
        exact ⟨_,rfl,⟨h1,by dsimp only;omega,by dsimp only;omega,h4, .inr (by dsimp only;omega)⟩,by dsimp only;omega⟩
      ·simp only [hlt,decide_false,bK]
       obtain rfl:lo=hi:=by omega
       exact ⟨_,rfl,h1,h3,h4,h5⟩) (0,67108864) ⟨by decide,by decide,by decide,fun m h1 h2=>by dsimp only at h2;omega, .inl rfl⟩
  obtain ⟨y,hy,h1,h2,h3,h4⟩:=key
  refine ⟨y,?_,h1,h2,h3,h4⟩
  have hmm:y*y≤67108864*67108864:=fS (by omega) (by omega)
  have hmm0:=Xj y
  unfold Jc
  rw [hy,lB,G9 (by omega)]
/-- The least number whose square is not less. -/
noncomputable def rt (n:Int):Int:=(Mz n).choose
theorem IK (n:Int):Jc n=some (rt n,rt n*rt n==n):=(Mz n).choose_spec.1
theorem NH (n:Int):0≤rt n:=(Mz n).choose_spec.2.1
theorem uT (n m:Int)(h1:0≤m)(h2:m<rt n):m*m<n:=(Mz n).choose_spec.2.2.2.1 m h1 h2
theorem uU (n:Int):rt n=67108864∨n≤rt n*rt n:=(Mz n).choose_spec.2.2.2.2
theorem oF {l:Int}(h0:0≤l)(h1:l≤67108864):rt (l*l)=l:=by
  rcases Int.lt_trichotomy (rt (l*l)) l with q|q|q
  ·rcases uU (l*l)with h|h
   ·omega
   ·have h2:=NH (l*l)
    have:=Int.mul_lt_mul' (show rt (l*l)≤l by omega) q h2 (by omega);omega
  ·exact q
  ·have:=uT (l*l) l h0 q;omega
theorem PB (n:Int)(h0:0≤n)(h1:n<18014398509481984): ∃r,Ok n=some r∧0≤r∧r<134217728∧r*r≤n∧n< (r+1)* (r+1):=by
  have key:=YY (f:=Qc n) (fun x=>0≤x.1∧x.1*x.1≤n∧((∃k:Nat,k≤26∧x.2=2^k∧x.1+2*2^k≤134217728∧n< (x.1+2*2^k)* (x.1+2*2^k))∨(x.2=0∧x.1<134217728∧n< (x.1+1)* (x.1+1)))) (fun x=>x.2.toNat)
    (fun r=>0≤r∧r<134217728∧r*r≤n∧n< (r+1)* (r+1)) (by
      rintro ⟨r,bit⟩ ⟨q1,q2,q3⟩
      dsimp only at q1 q2 q3
      unfold Qc
      dsimp only
      rcases q3 with ⟨k,hk,rfl,q4,q5⟩|⟨rfl,q4,q5⟩
      ·have hp:(0:Int)<2^k:=Int.pow_pos (by decide)
       generalize hb:(2:Int)^k=b at*
       have e1:C3 (r+b)=r+b:=G9 (by omega)
       have hmm:(r+b)* (r+b)≤134217728*134217728:=fS (by omega) (by omega)
       have hmm0:=Xj (r+b)
       have e2:C3 ((r+b)* (r+b))=(r+b)* (r+b):=G9 (by omega)
       have e3:C3 (b.tdiv 2)=b / 2:=by rw [wK (by omega)];exact G9 (by omega)
       have hb0:b>0:=by omega
       simp only [e1,e2,e3,hb0,decide_true,bJ]
       have hnext: ∀r',0≤r'→r'*r'≤n→r'+b≤134217728→n< (r'+b)* (r'+b)→(∃j:Nat,j≤26∧b / 2=2^j∧r'+2*2^j≤134217728∧n< (r'+2*2^j)* (r'+2*2^j))∨(b / 2=0∧r'<134217728∧n< (r'+1)* (r'+1)):=by
         intro r' a1 a2 a3 a4
         cases k with
         |zero=>
          have:b=1:=by rw [← hb];rfl
          subst this
          exact .inr ⟨by decide,by omega,a4⟩
         |succ j=>
          have hj:b=2*2^j:=by rw [← hb,Int.pow_succ];omega
          refine .inl ⟨j,by omega,by omega,by omega,by rw [← hj];exact a4⟩
       by_cases hc:(r+b)* (r+b)≤n
       ·simp only [hc,decide_true,bJ]
        refine ⟨_,rfl,⟨by dsimp only;omega,hc,hnext (r+b) (by omega) hc (by omega) (by rw [show r+b+b=r+2*b by omega];exact q5)⟩,by dsimp only;omega⟩
       ·simp only [hc,decide_false,bK]
        exact ⟨_,rfl,⟨q1,q2,hnext r q1 q2 (by omega) (by omega)⟩,by dsimp only;omega⟩
      ·simp only [show ¬(0:Int)>0 by decide,decide_false,bK]
       exact ⟨_,rfl,q1,q4,q2,q5⟩) (0,67108864) ⟨by decide,by dsimp only;omega, .inl ⟨26,by decide,by decide,by decide,by dsimp only;omega⟩⟩
  obtain ⟨r,hr,a⟩:=key
  exact ⟨r,by unfold Ok;rw [hr];rfl,a⟩
theorem TS {n:Int}(h0:0≤n)(h1:n≤4503599627370496): ∃r,Ok n=some r∧0≤r∧r<134217728∧(r*r=n↔rt n*rt n=n)∧(r*r=n→r=rt n):=by
  obtain ⟨r,hr,a1,a2,a3,a4⟩:=PB n h0 (by omega)
  have hr26:r≤67108864:=by
    rcases Int.lt_or_le r 67108865 with q|q
    ·omega
    ·have:=Int.mul_le_mul q q (by decide) (by omega);omega
  refine ⟨r,hr,a1,a2,⟨fun h=> ?_,fun h=> ?_⟩,fun h=> ?_⟩
  ·rw [← h,oF a1 hr26]
  ·rcases Int.lt_trichotomy r (rt n)with q|q|q
   ·have:=Int.mul_le_mul (show r+1≤rt n by omega) (show r+1≤rt n by omega) (by omega) (NH n);omega
   ·rw [q];exact h
   ·have h2:=NH n
    have:=Int.mul_lt_mul' (show rt n≤r by omega) q h2 (by omega);omega
  ·rw [← h,oF a1 hr26]
def CX (p:Spot):Bool:=decide (-16777216≤p.X)&&decide (p.X≤16777216)&&decide (-16777216≤p.Y)&&decide (p.Y≤16777216)
theorem okS_iff {p:Spot}:CX p=true↔ -16777216≤p.X∧p.X≤16777216∧ -16777216≤p.Y∧p.Y≤16777216:=by simp [CX,and_assoc]
theorem iP (p:Spot):((decide ((Mn false p.X p.Y)< (-16777216)))||(decide ((Mn true p.X p.Y)>16777216)))= !CX p:=by
  rw [Kf,Xa]
  cases h:CX p with
  |true=>have:=okS_iff.1 h;simp;omega
  |false=>
   have: ¬(-16777216≤p.X∧p.X≤16777216∧ -16777216≤p.Y∧p.Y≤16777216):=fun q=>by rw [okS_iff.2 q]at h;cases h
   simp;omega
theorem TT (l:List Spot)(hl:l.length≤1000000): ∀(r:List Spot) (i:Nat),l.drop i=r→loop (Cq l) (i:Int)=some (if r.all CX then .inl ()else .inr false):=by
  intro r
  induction r with
  |nil=>
   intro i hi
   have:=O6 hi
   refine D0 ?_
   unfold Cq
   simp only [show ¬(i:Int)<l.length by omega,decide_false,bK,List.all_nil,if_true]
  |cons p r ih=>
   intro i hi
   have hlt:=N5 hi
   have hstep:Cq l (i:Int)=if CX p then some (.go ((i+1:Nat):Int))else some (.out (.inr false)):=by
     unfold Cq
     simp only [show (i:Int)<l.length by omega,decide_true,bJ,Ff hi,lB,iP]
     cases h:CX p with
     |true=>simp only [bR,bK,if_true];rw [G9 (by omega)];rfl
     |false=>simp
   cases h:CX p with
   |true=>
    rw [h,bL rfl]at hstep
    rw [L4 hstep,ih (i+1) (L0 hi)]
    simp [h]
   |false=>
    rw [h]at hstep
    rw [D0 hstep]
    simp [h]
theorem TU (l:List Spot)(hl:l.length≤1000000):Od l=some (l.all CX):=by
  unfold Od
  have:=TT l hl l 0 (by simp)
  rw [show ((0:Nat):Int)=0 from rfl]at this
  rw [this]
  cases l.all CX<;>rfl
theorem RU (p:Spot):Ve p=some (CX p):=by
  unfold Ve CX;rfl
def V9 (p q:Spot):CurveVector:=⟨q.X - p.X,q.Y - p.Y⟩
def O2 (v w:CurveVector):Int:=v.x*w.x+v.y*w.y
/-- A vector between valid spots. -/
def jY (v:CurveVector):Prop:= -33554432≤v.x∧v.x≤33554432∧ -33554432≤v.y∧v.y≤33554432
theorem LS {p q:Spot}(hp:CX p=true)(hq:CX q=true):jY (V9 p q):=by
  have:=okS_iff.1 hp;have:=okS_iff.1 hq
  unfold jY V9;dsimp only;omega
theorem IL {p q:Spot}(hp:CX p=true)(hq:CX q=true):Lw p q=some (V9 p q):=by
  have:=okS_iff.1 hp;have:=okS_iff.1 hq
  unfold Lw V9
  rw [G9 (by omega),G9 (by omega)]
theorem dW {v w:CurveVector}(hv:jY v)(hw:jY w): -2251799813685248≤O2 v w∧O2 v w≤2251799813685248∧(-1125899906842624≤v.x*w.x∧v.x*w.x≤1125899906842624)∧ -1125899906842624≤v.y*w.y∧v.y*w.y≤1125899906842624:=by
  obtain ⟨a1,a2,a3,a4⟩:=hv
  obtain ⟨b1,b2,b3,b4⟩:=hw
  have h1:=nL ⟨a1,a2⟩ ⟨b1,b2⟩
  have h2:=nL ⟨a3,a4⟩ ⟨b3,b4⟩
  unfold O2
  omega
theorem CY {v w:CurveVector}(hv:jY v)(hw:jY w):Ak v w=some (O2 v w):=by
  have h:=dW hv hw
  unfold Ak
  rw [G9 (n:=v.x*w.x) (by omega),G9 (n:=v.y*w.y) (by omega),G9 (by unfold O2 at h;omega)]
  rfl
theorem dX (v:CurveVector):0≤O2 v v:=by have:=Xj v.x;have:=Xj v.y;unfold O2;omega
def vs (v:CurveVector):Spot:=⟨v.x,v.y⟩
theorem Zc {p q:Spot}(hp:CX p=true)(hq:CX q=true):Oj q p=some (vs (V9 p q)):=by
  have:=okS_iff.1 hp;have:=okS_iff.1 hq
  unfold Oj V9 vs
  rw [G9 (by omega),G9 (by omega)]
theorem CZ {v w:CurveVector}(hv:jY v)(hw:jY w):Rn (vs v) (vs w)=some (O2 v w):=by
  have h:=dW hv hw
  unfold Rn vs
  dsimp only
  rw [G9 (n:=v.x*w.x) (by omega),G9 (n:=v.y*w.y) (by omega),G9 (by unfold O2 at h;omega)]
  rfl
/-- The error of a chain of points, from a piece on; the piece ahead of it. -/
noncomputable def ZP:Option CurveVector→List Spot→Int
  |last,p::q::r=>
   if rt (O2 (V9 p q) (V9 p q))*rt (O2 (V9 p q) (V9 p q))≠O2 (V9 p q) (V9 p q)then 3
   else if rt (O2 (V9 p q) (V9 p q))<1000∨rt (O2 (V9 p q) (V9 p q))>1048576 then 2
   else match last with
     |some u=>if O2 u (V9 p q)≤0 then 12 else ZP (some (V9 p q)) (q::r)
     |none=>ZP (some (V9 p q)) (q::r)
  |_,_=>0
theorem LU (last:Option CurveVector)(p q:Spot)(r:List Spot):ZP last (p::q::r)=
    if rt (O2 (V9 p q) (V9 p q))*rt (O2 (V9 p q) (V9 p q))≠O2 (V9 p q) (V9 p q)then 3
    else if rt (O2 (V9 p q) (V9 p q))<1000∨rt (O2 (V9 p q) (V9 p q))>1048576 then 2
    else match last with
      |some u=>if O2 u (V9 p q)≤0 then 12 else ZP (some (V9 p q)) (q::r)
      |none=>ZP (some (V9 p q)) (q::r):=by
  conv=>lhs;unfold ZP
noncomputable def Fs (l:List Spot):Int:=if l.length<2 then 6 else if l.length>16 then 5 else if l.all CX then ZP none l else 2
theorem RW (c:Curve)(hl:c.Pts.length≤1000000)(hok:c.Pts.all CX=true): ∀(r:List Spot) (p:Spot) (i:Nat) (last:CurveVector),c.Pts.drop i=p::r→jY last→
    loop (By c) ((i:Int),last)=some (if ZP (if i=0 then none else some last) (p::r)=0 then .inl ()else .inr (ZP (if i=0 then none else some last) (p::r))):=by
  intro r
  induction r with
  |nil=>
   intro p i last hi hlast
   have hlt:=N5 hi
   have:=O6 (L0 hi)
   refine D0 ?_
   unfold By
   dsimp only
   rw [G9 (n:=(c.Pts.length:Int) - 1) (by omega)]
   simp only [show ¬(i:Int)< (c.Pts.length:Int) - 1 by omega,decide_false,bK,ZP,if_true]
  |cons q r ih=>
   intro p i last hi hlast
   have hlt:=N5 hi
   have hi1:=L0 hi
   have hlt1:=N5 hi1
   have hp:CX p=true:=lX.1 hok p (List.mem_of_mem_drop (i:=i) (by rw [hi];simp))
   have hq:CX q=true:=lX.1 hok q (List.mem_of_mem_drop (i:=i) (by rw [hi];simp))
   have hv:=LS hp hq
   have hg1:B7 c.Pts ((i:Int)+1)=some q:=by have:=Ff hi1;simpa using this
   have hstep:By c ((i:Int),last)=
    if rt (O2 (V9 p q) (V9 p q))*rt (O2 (V9 p q) (V9 p q))≠O2 (V9 p q) (V9 p q)then some (.out (.inr 3))
    else if rt (O2 (V9 p q) (V9 p q))<1000∨rt (O2 (V9 p q) (V9 p q))>1048576 then some (.out (.inr 2))
    else if i≠0∧O2 last (V9 p q)≤0 then some (.out (.inr 12))else some (.go (((i+1:Nat):Int),V9 p q)):=by
     unfold By
     dsimp only
     rw [G9 (n:=(c.Pts.length:Int) - 1) (by omega),G9 (n:=(i:Int)+1) (by omega)]
     simp only [show (i:Int)< (c.Pts.length:Int) - 1 by omega,decide_true,bJ,Ff hi,hg1,lB,IL hp hq,CY hv hv,IK]
     by_cases h1:rt (O2 (V9 p q) (V9 p q))*rt (O2 (V9 p q) (V9 p q))=O2 (V9 p q) (V9 p q)
     ·simp only [h1,beq_self_eq_true,bR,bK,ne_eq,not_true_eq_false,if_false]
      by_cases h2:rt (O2 (V9 p q) (V9 p q))<1000∨rt (O2 (V9 p q) (V9 p q))>1048576
      ·rw [bL h2]
       have:(decide (rt (O2 (V9 p q) (V9 p q))<1000)||decide (rt (O2 (V9 p q) (V9 p q))>1048576))=true:=by simpa using h2
       rw [this];rfl
      ·rw [bM h2]
       have:(decide (rt (O2 (V9 p q) (V9 p q))<1000)||decide (rt (O2 (V9 p q) (V9 p q))>1048576))=false:=by simpa using h2
       rw [this]
       simp only [bK]
       by_cases h3:i=0
       ·subst h3
        simp only [Int.natCast_zero,gt_iff_lt,Int.lt_irrefl,decide_false,bK,bO,lB,not_true_eq_false,false_and,if_false]
        rfl
       ·have h4:(i:Int)>0:=by omega
        simp only [h4,decide_true,bJ,CY hlast hv,lB,bN,h3,not_false_eq_true,true_and]
        by_cases h5:O2 last (V9 p q)≤0<;>simp [h5]
     ·have:(rt (O2 (V9 p q) (V9 p q))*rt (O2 (V9 p q) (V9 p q))==O2 (V9 p q) (V9 p q))=false:=by simpa using h1
      simp only [this,bS,bJ,ne_eq,h1,not_false_eq_true,if_true]
   rw [LU]
   by_cases h1:rt (O2 (V9 p q) (V9 p q))*rt (O2 (V9 p q) (V9 p q))≠O2 (V9 p q) (V9 p q)
   ·rw [bL h1]at hstep
    rw [D0 hstep,bL h1];rfl
   ·rw [bM h1]at hstep ⊢
    by_cases h2:rt (O2 (V9 p q) (V9 p q))<1000∨rt (O2 (V9 p q) (V9 p q))>1048576
    ·rw [bL h2]at hstep
     rw [D0 hstep,bL h2];rfl
    ·rw [bM h2]at hstep ⊢
     by_cases h3:i=0
     ·subst h3
      rw [bM (by simp)]at hstep
      rw [L4 hstep,ih q (0+1) (V9 p q) hi1 hv]
      simp
     ·by_cases h5:O2 last (V9 p q)≤0
      ·rw [bL ⟨h3,h5⟩]at hstep
       rw [D0 hstep]
       simp [h3,h5]
      ·rw [bM (fun h=>h5 h.2)]at hstep
       rw [L4 hstep,ih q (i+1) (V9 p q) hi1 hv]
       simp [h3,h5]
theorem GB (c:Curve)(hl:c.Pts.length≤1000000):Ij c=some (Fs c.Pts):=by
  unfold Ij Fs
  by_cases h1:c.Pts.length<2
  ·rw [bL h1,show decide ((c.Pts.length:Int)<2)=true by simp;omega];rfl
  ·rw [bM h1,show decide ((c.Pts.length:Int)<2)=false by simp;omega]
   simp only [bK]
   by_cases h2:c.Pts.length>16
   ·rw [bL h2,show decide ((c.Pts.length:Int)>16)=true by simp;omega];rfl
   ·rw [bM h2,show decide ((c.Pts.length:Int)>16)=false by simp;omega]
    simp only [bK,TU c.Pts hl,lB]
    cases h3:c.Pts.all CX with
    |false=>rfl
    |true=>
     simp only [bR,bK,if_true]
     cases hp:c.Pts with
     |nil=>rw [hp]at h1;simp at h1
     |cons p r=>
      have:=RW c hl h3 r p 0 ⟨0,0⟩ (by rw [hp];rfl) ⟨by decide,by decide,by decide,by decide⟩
      rw [bL rfl,show ((0:Nat):Int)=0 from rfl]at this
      rw [this]
      by_cases h4:ZP none (p::r)=0
      ·rw [bL h4,h4];rfl
      ·rw [bM h4];rfl
theorem iQ (v w:CurveVector):O2 v w=O2 w v:=by unfold O2;rw [Int.mul_comm v.x,Int.mul_comm v.y]
theorem PC (c:Curve)(hl:c.Pts.length≤1000000): ∀(r:List Spot) (i:Nat),c.Pts.drop i=r→loop (Hf c) (i:Int)=some (if r.all CX then .inl ()else .inr 2):=by
  intro r
  induction r with
  |nil=>
   intro i hi
   have:=O6 hi
   refine D0 ?_
   unfold Hf
   simp only [show ¬(i:Int)<c.Pts.length by omega,decide_false,bK,List.all_nil,if_true]
  |cons p r ih=>
   intro i hi
   have hlt:=N5 hi
   have hstep:Hf c (i:Int)=if CX p then some (.go ((i+1:Nat):Int))else some (.out (.inr 2)):=by
     unfold Hf
     simp only [show (i:Int)<c.Pts.length by omega,decide_true,bJ,Ff hi,lB,RU]
     cases h:CX p with
     |true=>simp only [bR,bK,if_true];rw [G9 (by omega)];rfl
     |false=>simp
   cases h:CX p with
   |true=>
    rw [h,bL rfl]at hstep
    rw [L4 hstep,ih (i+1) (L0 hi)]
    simp [h]
   |false=>
    rw [h]at hstep
    rw [D0 hstep]
    simp [h]
theorem oG {v:CurveVector}(hv:jY v): ∃l,Ok (O2 v v)=some l∧(C3 (l*l) !=O2 v v)= !(rt (O2 v v)*rt (O2 v v)==O2 v v)∧(rt (O2 v v)*rt (O2 v v)=O2 v v→l=rt (O2 v v)):=by
  have hb:=dW hv hv
  obtain ⟨l,h1,h2,h3,h4,h5⟩:=TS (dX v) (by omega)
  have hmm:l*l≤134217728*134217728:=fS (by omega) (by omega)
  have hmm0:=Xj l
  refine ⟨l,h1,?_,fun h=>h5 (h4.2 h)⟩
  rw [G9 (by omega)]
  by_cases h:l*l=O2 v v
  ·simp [h,h4.1 h]
  ·have h': ¬rt (O2 v v)*rt (O2 v v)=O2 v v:=fun q=>h (h4.2 q)
   have e1:(l*l !=O2 v v)=true:=bne_iff_ne.2 h
   have e2:(rt (O2 v v)*rt (O2 v v)==O2 v v)=false:=beq_eq_false_iff_ne.2 h'
   rw [e1,e2];rfl
theorem PD (c:Curve)(hl:c.Pts.length≤1000000)(hok:c.Pts.all CX=true): ∀(r:List Spot) (p:Spot) (i:Nat) (last:Option CurveVector),c.Pts.drop i=p::r→
    (i=0∧last=none∨∃j a,i=j+1∧c.Pts.drop j=a::p::r∧last=some (V9 a p))→
    loop (He c) (i:Int)=some (if ZP last (p::r)=0 then .inl ()else .inr (ZP last (p::r))):=by
  intro r
  induction r with
  |nil=>
   intro p i last hi hlast
   have hlt:=N5 hi
   have:=O6 (L0 hi)
   refine D0 ?_
   unfold He
   rw [G9 (n:=(i:Int)+1) (by omega)]
   simp only [show ¬(i:Int)+1< (c.Pts.length:Int) by omega,decide_false,bK,ZP,if_true]
  |cons q r ih=>
   intro p i last hi hlast
   have hlt:=N5 hi
   have hi1:=L0 hi
   have hlt1:=N5 hi1
   have hp:CX p=true:=lX.1 hok p (List.mem_of_mem_drop (i:=i) (by rw [hi];simp))
   have hq:CX q=true:=lX.1 hok q (List.mem_of_mem_drop (i:=i) (by rw [hi];simp))
   have hv:=LS hp hq
   have hg1:B7 c.Pts ((i:Int)+1)=some q:=by have:=Ff hi1;simpa using this
   obtain ⟨l,hl1,hl2,hl3⟩:=oG hv
   have hstep:He c (i:Int)=
    if rt (O2 (V9 p q) (V9 p q))*rt (O2 (V9 p q) (V9 p q))≠O2 (V9 p q) (V9 p q)then some (.out (.inr 3))
    else if rt (O2 (V9 p q) (V9 p q))<1000∨rt (O2 (V9 p q) (V9 p q))>1048576 then some (.out (.inr 2))
    else match last with
      |some u=>if O2 u (V9 p q)≤0 then some (.out (.inr 12))else some (.go ((i+1:Nat):Int))
      |none=>some (.go ((i+1:Nat):Int)):=by
     unfold He
     rw [G9 (n:=(i:Int)+1) (by omega)]
     simp only [show (i:Int)+1< (c.Pts.length:Int) by omega,decide_true,bJ,Ff hi,hg1,lB,Zc hp hq,CZ hv hv,hl1,hl2]
     by_cases h1:rt (O2 (V9 p q) (V9 p q))*rt (O2 (V9 p q) (V9 p q))=O2 (V9 p q) (V9 p q)
     ·simp only [h1,beq_self_eq_true,bR,bK,ne_eq,not_true_eq_false,if_false,hl3 h1]
      by_cases h2:rt (O2 (V9 p q) (V9 p q))<1000∨rt (O2 (V9 p q) (V9 p q))>1048576
      ·rw [bL h2]
       have:(decide (rt (O2 (V9 p q) (V9 p q))<1000)||decide (rt (O2 (V9 p q) (V9 p q))>1048576))=true:=by simpa using h2
       rw [this];rfl
      ·rw [bM h2]
       have:(decide (rt (O2 (V9 p q) (V9 p q))<1000)||decide (rt (O2 (V9 p q) (V9 p q))>1048576))=false:=by simpa using h2
       rw [this]
       simp only [bK]
       rcases hlast with ⟨rfl,rfl⟩|⟨j,a,rfl,hj,rfl⟩
       ·simp only [Int.natCast_zero,gt_iff_lt,Int.lt_irrefl,decide_false,bK,bO,lB]
        rfl
       ·have h4:(((j+1:Nat):Int))>0:=by omega
        have ha:CX a=true:=lX.1 hok a (List.mem_of_mem_drop (i:=j) (by rw [hj];simp))
        have hva:=LS ha hp
        have hgj:B7 c.Pts (C3 (((j+1:Nat):Int) - 1))=some a:=by
          rw [G9 (by omega),show (((j+1:Nat):Int) - 1)=(j:Int) by omega]
          exact Ff hj
        simp only [h4,decide_true,bJ,hgj,lB,Zc ha hp,CZ hv hva,bN]
        rw [iQ (V9 p q) (V9 a p)]
        by_cases h5:O2 (V9 a p) (V9 p q)≤0
        ·simp [h5]
        ·simp [h5]
     ·have:(rt (O2 (V9 p q) (V9 p q))*rt (O2 (V9 p q) (V9 p q))==O2 (V9 p q) (V9 p q))=false:=by simpa using h1
      simp only [this,bS,bJ,ne_eq,h1,not_false_eq_true,if_true]
   rw [LU]
   have hrec:=ih q (i+1) (some (V9 p q)) hi1 (.inr ⟨i,p,rfl,hi,rfl⟩)
   by_cases h1:rt (O2 (V9 p q) (V9 p q))*rt (O2 (V9 p q) (V9 p q))≠O2 (V9 p q) (V9 p q)
   ·rw [bL h1]at hstep
    rw [D0 hstep,bL h1];rfl
   ·rw [bM h1]at hstep ⊢
    by_cases h2:rt (O2 (V9 p q) (V9 p q))<1000∨rt (O2 (V9 p q) (V9 p q))>1048576
    ·rw [bL h2]at hstep
     rw [D0 hstep,bL h2];rfl
    ·rw [bM h2]at hstep ⊢
     cases last with
     |none=>rw [L4 hstep,hrec]
     |some u=>
      dsimp only at hstep ⊢
      by_cases h5:O2 u (V9 p q)≤0
      ·rw [bL h5]at hstep
       rw [D0 hstep];simp [h5]
      ·rw [bM h5]at hstep
       rw [L4 hstep,hrec];simp [h5]
theorem GC (c:Curve)(hl:c.Pts.length≤1000000):Ro c=some (Fs c.Pts):=by
  unfold Ro Fs
  by_cases h1:c.Pts.length<2
  ·rw [bL h1,show decide ((c.Pts.length:Int)<2)=true by simp;omega];rfl
  ·rw [bM h1,show decide ((c.Pts.length:Int)<2)=false by simp;omega]
   simp only [bK]
   by_cases h2:c.Pts.length>16
   ·rw [bL h2,show decide ((c.Pts.length:Int)>16)=true by simp;omega];rfl
   ·rw [bM h2,show decide ((c.Pts.length:Int)>16)=false by simp;omega]
    have hg:=PC c hl c.Pts 0 (by simp)
    rw [show ((0:Nat):Int)=0 from rfl]at hg
    simp only [bK,hg]
    cases h3:c.Pts.all CX with
    |false=>rfl
    |true=>
     simp only [if_true,thenS]
     cases hp:c.Pts with
     |nil=>rw [hp]at h1;simp at h1
     |cons p r=>
      have:=PD c hl h3 r p 0 none (by rw [hp];rfl) (.inl ⟨rfl,rfl⟩)
      rw [show ((0:Nat):Int)=0 from rfl]at this
      rw [this]
      by_cases h4:ZP none (p::r)=0
      ·rw [bL h4,h4]
      ·rw [bM h4]
/-- What a valid chain is. -/
inductive Good:Option CurveVector→List Spot→Prop
  |one (last:Option CurveVector) (p:Spot):Good last [p]
  |cons (last:Option CurveVector) (p q:Spot) (r:List Spot) (h1:rt (O2 (V9 p q) (V9 p q))*rt (O2 (V9 p q) (V9 p q))=O2 (V9 p q) (V9 p q)) (h2:1000≤rt (O2 (V9 p q) (V9 p q))) (h3:rt (O2 (V9 p q) (V9 p q))≤1048576)
     (h4: ∀u,last=some u→0<O2 u (V9 p q)) (h:Good (some (V9 p q)) (q::r)):Good last (p::q::r)
theorem ZQ: ∀(r:List Spot) (p:Spot) (last:Option CurveVector),ZP last (p::r)=0→Good last (p::r):=by
  intro r
  induction r with
  |nil=>intro p last _;exact .one _ _
  |cons q r ih=>
   intro p last h
   rw [LU]at h
   split at h
   ·cases h
   ·rename_i h1
    split at h
    ·cases h
    ·rename_i h2
     have h1:rt (O2 (V9 p q) (V9 p q))*rt (O2 (V9 p q) (V9 p q))=O2 (V9 p q) (V9 p q):=by simpa using h1
     cases last with
     |none=>exact .cons _ _ _ _ h1 (by omega) (by omega) (fun u hu=>by cases hu) (ih q _ h)
     |some u=>
      dsimp only at h
      split at h
      ·cases h
      ·exact .cons _ _ _ _ h1 (by omega) (by omega) (fun u' hu=>by cases hu;omega) (ih q _ h)
theorem ZR {last:Option CurveVector}{l:List Spot}(h:Good last l):ZP last l=0:=by
  induction h with
  |one=>rfl
  |cons last p q r h1 h2 h3 h4 h ih=>
   rw [LU,bM (by simpa using h1),bM (by omega)]
   cases last with
   |none=>exact ih
   |some u=>dsimp only;rw [bM (by have:=h4 u rfl;omega)];exact ih
structure Valid (l:List Spot):Prop where
  two:2≤l.length
  most:l.length≤16
  ok:l.all CX=true
  good:Good none l
theorem checkM_zero {l:List Spot}:Fs l=0↔Valid l:=by
  unfold Fs
  constructor
  ·intro h
   split at h
   ·cases h
   ·rename_i h1
    split at h
    ·cases h
    ·rename_i h2
     split at h
     ·rename_i h3
      cases l with
      |nil=>simp at h1
      |cons p r=>exact ⟨by omega,by omega,h3,ZQ r p none h⟩
     ·cases h
  ·rintro ⟨h1,h2,h3,h4⟩
   rw [bM (by omega),bM (by omega),bL h3]
   exact ZR h4
/-- The pieces of a chain: the number, the piece. -/
noncomputable def DA:Nat→Int→List Spot→List (Int×CurvePiece)
  |i,s,p::q::r=>((i:Int),⟨p,V9 p q,rt (O2 (V9 p q) (V9 p q)),s⟩)::DA (i+1) (C3 (s+rt (O2 (V9 p q) (V9 p q)))) (q::r)
  |_,_,_=> []
theorem LV (i:Nat)(s:Int)(p q:Spot)(r:List Spot):DA i s (p::q::r)=((i:Int),⟨p,V9 p q,rt (O2 (V9 p q) (V9 p q)),s⟩)::DA (i+1) (C3 (s+rt (O2 (V9 p q) (V9 p q)))) (q::r):=by conv=>lhs;unfold DA
theorem ZS (pts:List Spot)(hok:pts.all CX=true): ∀(r:List Spot) (p:Spot) (i:Nat) (s:Int),pts.drop i=p::r→Oe pts r.length i s=some (DA i s (p::r)):=by
  intro r
  induction r with
  |nil=>intro p i s _;rfl
  |cons q r ih=>
   intro p i s hi
   have hi1:=L0 hi
   have hp:CX p=true:=lX.1 hok p (List.mem_of_mem_drop (i:=i) (by rw [hi];simp))
   have hq:CX q=true:=lX.1 hok q (List.mem_of_mem_drop (i:=i) (by rw [hi];simp))
   have hv:=LS hp hq
   have h0:pts[i]? =some p:=by have:=congrArg (fun z=>z[0]?) hi;simpa using this
   have h1:pts[i+1]? =some q:=by have:=congrArg (fun z=>z[0]?) hi1;simpa using this
   rw [lK,Oe,h0,h1]
   simp only [lB,IL hp hq,CY hv hv,IK]
   rw [ih q (i+1) _ hi1,LV]
   rfl
theorem dY {pts:List Spot}(h:Valid pts):Zv pts=some (DA 0 0 pts):=by
  unfold Zv
  have:=h.most
  rw [bL (by omega)]
  cases hp:pts with
  |nil=>have:=h.two;rw [hp]at this;simp at this
  |cons p r=>exact ZS (p::r) (by rw [← hp];exact h.ok) r p 0 0 rfl
/-- The lengths. -/
noncomputable def HO:List Spot→List Int
  |p::q::r=>rt (O2 (V9 p q) (V9 p q))::HO (q::r)
  |_=> []
theorem BU (p q:Spot)(r:List Spot):HO (p::q::r)=rt (O2 (V9 p q) (V9 p q))::HO (q::r):=by conv=>lhs;unfold HO
theorem AG: ∀(r:List Spot) (p:Spot),(HO (p::r)).length=r.length
  | [],_=>rfl
  |q::r,p=>by rw [BU,lK,AG r q,lK]
theorem LW: ∀(r:List Spot) (p:Spot) (i:Nat) (s:Int),(DA i s (p::r)).map (·.2.l)=HO (p::r)
  | [],_,_,_=>rfl
  |q::r,p,i,s=>by rw [LV,BU,lQ,LW r q]
theorem ZT: ∀(L:List (Int×CurvePiece)) (out:List Int),out.length+L.length≤1000000000→loopL Ce (fun x=>x) L out=some (out++L.map (·.2.l)):=by
  intro L
  induction L with
  |nil=>intro out _;simp [loopL]
  |cons a L ih=>
   intro out h
   simp only [lK]at h
   have:Ce out a=some (.go (out++ [a.2.l])):=by
     unfold Ce
     rw [Lu (by simp;omega)];rfl
   rw [loopL,this]
   dsimp only
   rw [ih _ (by simp;omega)]
   simp
theorem PE (c:Curve)(hl:c.Pts.length≤1000000):Ik c=some (if Fs c.Pts=0 then HO c.Pts else []):=by
  unfold Ik
  rw [GB c hl,lB]
  by_cases h:Fs c.Pts=0
  ·rw [bL h,h]
   have hv:=checkM_zero.1 h
   have:=hv.most
   simp only [bne_self_eq_false,bK,dY hv,lB]
   cases hp:c.Pts with
   |nil=>have:=hv.two;rw [hp]at this;simp at this
   |cons p r=>
    have e:=LW r p 0 0
    rw [ZT _ _ (by
     have:=congrArg List.length e
     rw [lR,AG]at this
     rw [this];rw [hp]at hl;simp at hl ⊢;omega)]
    rw [e];rfl
  ·rw [bM h,show (Fs c.Pts !=0)=true from bne_iff_ne.2 h];rfl
theorem LX (c:Curve)(hl:c.Pts.length≤1000000)(hok:c.Pts.all CX=true): ∀(r:List Spot) (p:Spot) (i:Nat) (out:List Int) (last:Option CurveVector),c.Pts.drop i=p::r→Good last (p::r)→out.length+r.length≤1000000→
    loop (Fq c) (out,(i:Int))=some (out++HO (p::r)):=by
  intro r
  induction r with
  |nil=>
   intro p i out last hi _ _
   have hlt:=N5 hi
   have:=O6 (L0 hi)
   refine D0 ?_
   unfold Fq
   dsimp only
   rw [G9 (n:=(i:Int)+1) (by omega)]
   simp only [show ¬(i:Int)+1< (c.Pts.length:Int) by omega,decide_false,bK,HO,lO]
  |cons q r ih=>
   intro p i out last hi hg ho
   have hlt:=N5 hi
   have hi1:=L0 hi
   have hlt1:=N5 hi1
   have hp:CX p=true:=lX.1 hok p (List.mem_of_mem_drop (i:=i) (by rw [hi];simp))
   have hq:CX q=true:=lX.1 hok q (List.mem_of_mem_drop (i:=i) (by rw [hi];simp))
   have hv:=LS hp hq
   have hg1:B7 c.Pts ((i:Int)+1)=some q:=by have:=Ff hi1;simpa using this
   obtain ⟨l,hl1,hl2,hl3⟩:=oG hv
   cases hg with
   |cons _ _ _ _ h1 h2 h3 h4 hg=>
    have hll:=hl3 h1
    subst hll
    simp only [lK]at ho
    have hstep:Fq c (out,(i:Int))=some (.go (out++ [rt (O2 (V9 p q) (V9 p q))],((i+1:Nat):Int))):=by
      unfold Fq
      dsimp only
      rw [G9 (n:=(i:Int)+1) (by omega)]
      simp only [show (i:Int)+1< (c.Pts.length:Int) by omega,decide_true,bJ,Ff hi,hg1,lB,Zc hp hq,CZ hv hv,hl1]
      rw [Lu (by simp;omega)]
      rfl
    rw [L4 hstep,ih q (i+1) _ _ hi1 hg (by simp;omega),BU]
    simp
theorem PF (c:Curve)(hl:c.Pts.length≤1000000):So c=some (if Fs c.Pts=0 then HO c.Pts else []):=by
  unfold So
  rw [GC c hl,lB]
  by_cases h:Fs c.Pts=0
  ·rw [bL h,h]
   have hv:=checkM_zero.1 h
   simp only [bne_self_eq_false,bK]
   cases hp:c.Pts with
   |nil=>have:=hv.two;rw [hp]at this;simp at this
   |cons p r=>
    have:=LX c hl hv.ok r p 0 [] none (by rw [hp];rfl) (by rw [← hp];exact hv.good) (by rw [hp]at hl;simp at hl ⊢;omega)
    rw [show ((0:Nat):Int)=0 from rfl]at this
    rw [this];rfl
  ·rw [bM h,show (Fs c.Pts !=0)=true from bne_iff_ne.2 h];rfl
/-- A sum, as the programs take it. -/
def JS:Int→List Int→Int
  |s,[]=>s
  |s,a::l=>JS (C3 (s+a)) l
theorem LY (l:List Int)(hl:l.length≤1000000): ∀(r:List Int) (i:Nat) (s:Int),l.drop i=r→loop (Z9 l) (s,(i:Int))=some (JS s r):=by
  intro r
  induction r with
  |nil=>
   intro i s hi
   have:=O6 hi
   refine D0 ?_
   unfold Z9
   simp only [show ¬(i:Int)<l.length by omega,decide_false,bK,JS]
  |cons a r ih=>
   intro i s hi
   have hlt:=N5 hi
   have hstep:Z9 l (s,(i:Int))=some (.go (C3 (s+a),((i+1:Nat):Int))):=by
     unfold Z9
     simp only [show (i:Int)<l.length by omega,decide_true,bJ,Ff hi,lB]
     rw [G9 (n:=(i:Int)+1) (by omega)];rfl
   rw [L4 hstep,ih (i+1) _ (L0 hi),JS]
theorem LZ (l:List Int)(hl:l.length≤1000000): ∀(r:List Int) (i:Nat) (s:Int),l.drop i=r→loop (Di l) (s,(i:Int))=some (JS s r):=by
  intro r
  induction r with
  |nil=>
   intro i s hi
   have:=O6 hi
   refine D0 ?_
   unfold Di
   simp only [show ¬(i:Int)<l.length by omega,decide_false,bK,JS]
  |cons a r ih=>
   intro i s hi
   have hlt:=N5 hi
   have hstep:Di l (s,(i:Int))=some (.go (C3 (s+a),((i+1:Nat):Int))):=by
     unfold Di
     simp only [show (i:Int)<l.length by omega,decide_true,bJ,Ff hi,lB]
     rw [G9 (n:=(i:Int)+1) (by omega)];rfl
   rw [L4 hstep,ih (i+1) _ (L0 hi),JS]
noncomputable def Qn (c:Curve):List Int:=if Fs c.Pts=0 then HO c.Pts else []
theorem rR: ∀l:List Spot,(HO l).length≤l.length
  | []=>by simp [HO]
  |p::r=>by rw [AG];simp
theorem RX (c:Curve):(Qn c).length≤c.Pts.length:=by
  unfold Qn
  split
  ·exact rR _
  ·simp
theorem DT (c:Curve)(hl:c.Pts.length≤1000000):Il c=some (JS 0 (Qn c)):=by
  unfold Il
  rw [PE c hl,lB]
  have:=RX c
  have h:=LY (Qn c) (by omega) (Qn c) 0 0 (by simp)
  rw [show ((0:Nat):Int)=0 from rfl]at h
  show (loop (Z9 (Qn c)) (0,0)).bind _=_
  rw [h];rfl
theorem PG (c:Curve)(hl:c.Pts.length≤1000000):Iv c=some (JS 0 (Qn c)):=by
  unfold Iv
  rw [PF c hl,lB]
  have:=RX c
  have h:=LZ (Qn c) (by omega) (Qn c) 0 0 (by simp)
  rw [show ((0:Nat):Int)=0 from rfl]at h
  show (loop (Di (Qn c)) (0,0)).bind _=_
  rw [h];rfl
/-- A quarter turn, so many times. -/
def iR:Nat→CurveVector→CurveVector
  |0,v=>v
  |n+1,v=>iR n ⟨-v.y,v.x⟩
theorem XJ: ∀(n:Nat) (v w:CurveVector),O2 (iR n v) (iR n w)=O2 v w
  |0,_,_=>rfl
  |n+1,v,w=>by rw [iR,iR,XJ n];unfold O2;grind
/-- A piece's vector, made of numbers: in one quadrant. -/
def uV (n:Nat)(v:CurveVector):Prop:= ∃x y L:Int,v=iR n ⟨x,y⟩∧0<x∧0≤y∧x*x+y*y=L*L∧1000≤L∧L≤3029∧x≤L∧y≤L
inductive Ch (Q:CurveVector→Prop):List Spot→Prop
  |one (p:Spot):Ch Q [p]
  |cons (p q:Spot) (r:List Spot) (h:Q (V9 p q)) (hr:Ch Q (q::r)):Ch Q (p::q::r)
theorem RY {n:Nat}: ∀(r:List Spot) (p:Spot) (last:Option CurveVector),Ch (uV n) (p::r)→(∀u,last=some u→uV n u)→Good last (p::r)
  | [],p,last,_,_=> .one _ _
  |q::r,p,last,hc,hl=>by
   cases hc with
   |cons _ _ _ h1 h2=>
    have hq:=h1
    obtain ⟨x,y,L,hv,hx,hy,hsq,hL1,hL2,hxL,hyL⟩:=h1
    have hd:O2 (V9 p q) (V9 p q)=L*L:=by rw [hv,XJ];unfold O2;exact hsq
    have hrt:rt (O2 (V9 p q) (V9 p q))=L:=by rw [hd];exact oF (by omega) (by omega)
    refine .cons _ _ _ _ (by rw [hrt,hd]) (by rw [hrt];exact hL1) (by rw [hrt];omega) (fun u hu=> ?_) (RY r q _ h2 (fun u hu=>by cases hu;exact hq))
    obtain ⟨x',y',L',hv',hx',hy',_⟩:=hl u hu
    rw [hv,hv',XJ]
    unfold O2
    have:=Int.mul_pos hx' hx
    have:=wJ hy' hy
    dsimp only
    omega
/-- What the curves made of numbers are like. -/
structure Made (l:List Spot):Prop where
  two:2≤l.length
  six:l.length≤6
  ch: ∃n,Ch (uV n) l
  bd: ∀p∈l, -50000≤p.X∧p.X≤50000∧ -50000≤p.Y∧p.Y≤50000
theorem Made.valid {l:List Spot}(h:Made l):Valid l:=by
  obtain ⟨n,hc⟩:=h.ch
  have:=h.two;have:=h.six
  refine ⟨h.two,by omega,lX.2 fun p hp=>okS_iff.2 (by have:=h.bd p hp;omega),?_⟩
  match l,h,hc with
  |p::r,_,hc=>exact RY r p none hc (fun u hu=>by cases hu)
  | [],h,_=>exact absurd h.two (by simp)
/-! ### Loops that look for the first error -/
def I0 {α β:Type}(g:Nat→α→Option β):Nat→List α→Option β
  |_,[]=>none
  |i,a::r=>match g i a with
   |some e=>some e
   |none=>I0 g (i+1) r
def MA {β:Type}:Option β→Sum Unit β
  |some e=> .inr e
  |none=> .inl ()
theorem W1 {α β:Type}(l:List α)(F:Int→Option (Stp Int (Sum Unit β)))(g:Nat→α→Option β)(hF: ∀(i:Nat) a,l[i]? =some a→F (i:Int)=some (match g i a with|some e=> .out (.inr e)|none=> .go ((i+1:Nat):Int)))(h0:F (l.length:Int)=some (.out (.inl ()))):
    loop F 0=some (MA (I0 g 0 l)):=by
  have key: ∀(r:List α) (i:Nat),l.drop i=r→i≤l.length→loop F (i:Int)=some (MA (I0 g i r)):=by
    intro r
    induction r with
    |nil=>
     intro i hi hil
     have:i=l.length:=by have:=List.drop_eq_nil_iff.1 hi;omega
     subst this
     exact D0 h0
    |cons a r ih=>
     intro i hi hil
     have hlt:i<l.length:=by
       rcases Nat.lt_or_ge i l.length with q|q
       ·exact q
       ·rw [List.drop_eq_nil_of_le q]at hi;cases hi
     have ha:l[i]? =some a:=by have:=congrArg (fun z=>z[0]?) hi;simpa using this
     have hr:l.drop (i+1)=r:=by have:=congrArg (fun z=>z.drop 1) hi;simpa using this
     have hs:=hF i a ha
     unfold I0
     cases hg:g i a with
     |some e=>rw [hg]at hs;exact D0 hs
     |none=>rw [hg]at hs;rw [L4 hs];exact ih (i+1) hr (by omega)
  have:=key l 0 rfl (by omega)
  exact this
theorem firstE_none {α β:Type}{g:Nat→α→Option β}: ∀{l:List α} {i:Nat},I0 g i l=none↔∀(j:Nat) a,l[j]? =some a→g (i+j) a=none
  | [],i=>by simp [I0]
  |a::r,i=>by
   unfold I0
   cases h:g i a with
   |some e=>
    constructor
    ·intro h';cases h'
    ·intro h';have:=h' 0 a rfl;rw [Nat.add_zero,h]at this;cases this
   |none=>
    dsimp only
    rw [firstE_none (l:=r)]
    constructor
    ·intro h' j b hj
     cases j with
     |zero=>cases hj;exact h
     |succ j=>have:=h' j b hj;rwa [show i+1+j=i+ (j+1) by omega]at this
    ·intro h' j b hj
     have:=h' (j+1) b hj
     rwa [show i+ (j+1)=i+1+j by omega]at this
/-! ### Numbers -/
def CC (n a b:Int):Bool:=decide (a≤n)&&decide (n≤b)
theorem Xm (n a b:Int):Cd n a b=some (CC n a b):=rfl
theorem Zd (n a b:Int):Fy n a b=some (CC n a b):=rfl
def Cg (kind:Int):Int×Int×Int:=if kind=1 then (2000,30,90)else if kind=2 then (1000,20,60)else if kind=3 then (300,100,300)else (0,0,0)
theorem BV (k:Int):Cw k=some (Cg k):=by
  unfold Cw Cg
  by_cases h:k<0∨k≥4
  ·rw [show ((decide (k<0))||(decide (k≥4)))=true by simpa using h,bJ,bM (by omega),bM (by omega),bM (by omega)]
  ·rw [show ((decide (k<0))||(decide (k≥4)))=false by rw [bU];simpa using h,bK]
   obtain ⟨h1,h2⟩:=not_or.1 h
   rcases (show k=0∨k=1∨k=2∨k=3 by omega)with rfl|rfl|rfl|rfl<;>rfl
theorem Ze (k:Int):Is k=some (Cg k):=by
  unfold Is Cg
  by_cases h1:k=1
  ·subst h1;rfl
  ·by_cases h2:k=2
   ·subst h2;rfl
   ·by_cases h3:k=3
    ·subst h3;rfl
    ·rw [bM h1,bM h2,bM h3]
     rw [show (k==1)=false by simpa using h1,show (k==2)=false by simpa using h2,show (k==3)=false by simpa using h3];rfl
theorem cA {n:Int}(h: -9223372036854775808≤n∧n≤9223372036854775807):C3 n=n:=Go.IntWalk.i64_in n h
theorem C8 {α:Type}{l:List α}{i:Nat}{a:α}(h:l[i]? =some a):B7 l (i:Int)=some a:=by
  unfold B7;rw [bL (by omega),bZ];exact h
theorem H6 {α:Type}{l:List α}{i:Nat}{a:α}(h:l[i]? =some a):i<l.length:=(lI.1 h).1
theorem PP {α:Type}(c:Bool)(a b:α):cond c (some a) (some b)=some (cond c a b):=by cases c<;>rfl
def Fk (high:Int):Int→List Int→Bool
  |_,[]=>true
  |low,n::r=>decide (low≤n)&&decide (n<high)&&Fk high (n+1) r
theorem NI (l:List Int)(low high:Int)(hl:l.length≤1000000)(hh:high≤1000000000)(h0:0≤low):Eg l low high=some (Fk high low l):=by
  have key: ∀(r:List Int) (i:Nat) (lo:Int),0≤lo→l.drop i=r→i≤l.length→loop (Bh l high) (lo,(i:Int))=some (if Fk high lo r then .inl ()else .inr false):=by
    intro r
    induction r with
    |nil=>
     intro i lo _ hi hil
     have:=O6 hi
     refine D0 ?_
     unfold Bh
     dsimp only
     rw [show decide ((i:Int)< (l.length:Int))=false from bG (by omega)];rfl
    |cons n r ih=>
     intro i lo hlo hi hil
     have hlt:=N5 hi
     have hs:Bh l high (lo,(i:Int))=some (if decide (lo≤n)&&decide (n<high)then .go (n+1,((i+1:Nat):Int))else .out (.inr false)):=by
       unfold Bh
       dsimp only
       rw [show decide ((i:Int)< (l.length:Int))=true from bF (by omega),Ff hi,bJ,lB,cA (n:=(i:Int)+1) (by omega)]
       by_cases q:lo≤n∧n<high
       ·rw [show ((decide (n<lo))||(decide (n≥high)))=false by rw [bU];simp;omega,bK,cA (n:=n+1) (by omega),bL (by simpa using q)];rfl
       ·rw [show ((decide (n<lo))||(decide (n≥high)))=true by simp;omega,bJ,bM (by simpa using q)]
     unfold Fk
     cases q:(decide (lo≤n)&&decide (n<high))
     ·rw [q]at hs;rw [D0 hs];rfl
     ·rw [q]at hs
      simp only [bP,bH]at q
      rw [L4 hs,ih (i+1) (n+1) (by omega) (L0 hi) (by omega)];rfl
  unfold Eg
  have:=key l 0 low h0 rfl (by omega)
  rw [show ((0:Nat):Int)=0 from rfl]at this
  rw [this]
  cases Fk high low l<;>rfl
theorem JT (l:List Int)(low high:Int)(hl:l.length≤1000000):Jn l low high=some (Fk high low l):=by
  have key: ∀(r:List Int) (i:Nat) (lo:Int),low≤lo→(i=0→lo=low)→(0<i→l[i - 1]? =some (lo - 1))→l.drop i=r→i≤l.length→loop (Dx l low high) (i:Int)=some (if Fk high lo r then .inl ()else .inr false):=by
    intro r
    induction r with
    |nil=>
     intro i lo _ _ _ hi hil
     have:=O6 hi
     refine D0 ?_
     unfold Dx
     rw [show decide ((i:Int)< (l.length:Int))=false from bG (by omega)];rfl
    |cons n r ih=>
     intro i lo hlo h0 h1 hi hil
     have hlt:=N5 hi
     have hn:l[i]? =some n:=by have:=congrArg (fun z=>z[0]?) hi;simpa using this
     have hs:Dx l low high (i:Int)=some (if decide (lo≤n)&&decide (n<high)then .go ((i+1:Nat):Int)else .out (.inr false)):=by
       unfold Dx
       rw [show decide ((i:Int)< (l.length:Int))=true from bF (by omega),Ff hi,bJ,lB,PP,lB,PP,lB,cA (n:=(i:Int)+1) (by omega)]
       by_cases q1:n<low
       ·rw [bF q1,bM (by simp;omega)];rfl
       ·rw [bG q1]
        simp only [bS,bJ,bT]
        by_cases q2:n≥high
        ·rw [bF q2,bM (by simp;omega)];rfl
        ·rw [bG q2]
         simp only [bS,bN,bT]
         by_cases q3:(i:Int)>0
         ·have e:B7 l (C3 ((i:Int) - 1))=some (lo - 1):=by
            rw [cA (n:=(i:Int) - 1) (by omega),show (i:Int) - 1=((i - 1:Nat):Int) by omega]
            exact C8 (h1 (by omega))
          rw [bF q3,bJ,bJ,e,lB,bN]
          by_cases q4:n≤lo - 1
          ·rw [bF q4,bM (by simp;omega)];rfl
          ·rw [bG q4,bL (by simp;omega)];rfl
         ·have:lo=low:=h0 (by omega)
          rw [bG q3,bK,lB,bO,bL (by simp;omega)];rfl
     unfold Fk
     cases q:(decide (lo≤n)&&decide (n<high))
     ·rw [q]at hs;rw [D0 hs];rfl
     ·rw [q]at hs
      simp only [bP,bH]at q
      rw [L4 hs,ih (i+1) (n+1) (by omega) (fun z=>by omega) (fun _=>by rw [Nat.add_sub_cancel,hn];congr 1;omega) (L0 hi) (by omega)];rfl
  unfold Jn
  have:=key l 0 low (Int.le_refl _) (fun _=>rfl) (fun z=>by omega) rfl (by omega)
  rw [show ((0:Nat):Int)=0 from rfl]at this
  rw [this]
  cases Fk high low l<;>rfl
noncomputable def Xf (c:Curve):Int:=JS 0 (Qn c)
theorem rS {m:Map}{i:Nat}{l:Lane}(h:m.Lanes[i]? =some l)(hl:l.Curve_.Pts.length≤1000000):Fo m (i:Int)=some (Xf l.Curve_):=by
  unfold Fo
  rw [C8 h,lB,DT _ hl];rfl
/-- The lists of a map are of bearable lengths. -/
structure Bear (m:Map):Prop where
  lanes:m.Lanes.length≤1000000
  pts: ∀l∈m.Lanes,l.Curve_.Pts.length≤1000000∧l.Next.length≤1000000
noncomputable def laneE (n:Nat)(i:Nat)(l:Lane):Option Int:=
  if (Cg l.Kind).1=0 then some 4
  else if Fs l.Curve_.Pts≠0 then some (Fs l.Curve_.Pts)
  else if (CC l.Half 200 4000&&CC l.Limit 1 (Cg l.Kind).1)=false then some 2
  else if 3<l.Next.length then some 8
  else if Fk n (i+1) l.Next=false then some 11 else none
theorem oH {m:Map}(B:Bear m):Ap ⟨m⟩=some ((I0 (laneE m.Lanes.length) 0 m.Lanes).getD 0):=by
  have h:=W1 m.Lanes (U6 ⟨m⟩) (laneE m.Lanes.length) (fun i l hl=>by
    have hi:=H6 hl
    have hb:=B.lanes
    obtain ⟨p1,p2⟩:=B.pts l (lG hl)
    unfold U6 laneE
    dsimp only
    rw [show decide ((i:Int)< (m.Lanes.length:Int))=true from bF (by omega),C8 hl,bJ,lB,BV,lB,GB _ p1,lB,Xm,Xm,lB,PP,lB,cA (n:=(i:Int)+1) (by omega),NI _ _ _ p2 (by omega) (by omega),lB]
    by_cases h1:(Cg l.Kind).1=0
    ·rw [bL h1,show ((Cg l.Kind).1==0)=true by simpa using h1];rfl
    ·rw [bM h1,show ((Cg l.Kind).1==0)=false by simpa using h1,bK]
     by_cases h2:Fs l.Curve_.Pts≠0
     ·rw [bL h2,show (Fs l.Curve_.Pts !=0)=true by simpa using h2];rfl
     ·rw [bM h2,show (Fs l.Curve_.Pts !=0)=false by simpa using h2,bK]
      cases CC l.Half 200 4000
      ·rfl
      ·cases CC l.Limit 1 (Cg l.Kind).1
       ·rfl
       ·simp only [bR,bS,bJ,bK,bT,Bool.and_self]
        rw [bM (by decide)]
        by_cases h3:3<l.Next.length
        ·rw [bL h3,show decide ((l.Next.length:Int)>3)=true from bF (by omega)];rfl
        ·rw [bM h3,show decide ((l.Next.length:Int)>3)=false from bG (by omega),bK]
         cases Fk (m.Lanes.length:Int) ((i:Int)+1) l.Next<;>rfl) (by
    unfold U6
    dsimp only
    rw [show decide ((m.Lanes.length:Int)< (m.Lanes.length:Int))=false from bG (by omega)];rfl)
  unfold Ap
  rw [h]
  cases I0 (laneE m.Lanes.length) 0 m.Lanes<;>rfl
theorem oI (k:Int):((decide (k<1))||(decide (k>3)))=decide ((Cg k).1=0):=by
  unfold Cg
  by_cases h1:k=1
  ·subst h1;rfl
  ·by_cases h2:k=2
   ·subst h2;rfl
   ·by_cases h3:k=3
    ·subst h3;rfl
    ·rw [bM h1,bM h2,bM h3]
     simp only [decide_true,bQ,bH]
     omega
theorem oJ {m:Map}(B:Bear m){i:Nat}{l:Lane}(hl:m.Lanes[i]? =some l):Mr m (i:Int)=some ((laneE m.Lanes.length i l).getD 0):=by
  have hi:=H6 hl
  have hb:=B.lanes
  obtain ⟨p1,p2⟩:=B.pts l (lG hl)
  unfold Mr laneE
  rw [C8 hl,lB,oI,GC _ p1,lB,Ze,lB,Zd,Zd,lB,PP,lB,cA (n:=(i:Int)+1) (by omega),JT _ _ _ p2,lB]
  by_cases h1:(Cg l.Kind).1=0
  ·rw [bL h1,bF h1];rfl
  ·rw [bM h1,bG h1,bK]
   by_cases h2:Fs l.Curve_.Pts≠0
   ·rw [bL h2,show (Fs l.Curve_.Pts !=0)=true by simpa using h2];rfl
   ·rw [bM h2,show (Fs l.Curve_.Pts !=0)=false by simpa using h2,bK]
    cases CC l.Half 200 4000
    ·rfl
    ·cases CC l.Limit 1 (Cg l.Kind).1
     ·rfl
     ·simp only [bR,bS,bJ,bK,bT,Bool.and_self]
      rw [bM (by decide)]
      by_cases h3:3<l.Next.length
      ·rw [bL h3,show decide ((l.Next.length:Int)>3)=true from bF (by omega)];rfl
      ·rw [bM h3,show decide ((l.Next.length:Int)>3)=false from bG (by omega),bK]
       cases Fk (m.Lanes.length:Int) ((i:Int)+1) l.Next<;>rfl
theorem RZ {n i:Nat}{l:Lane}{e:Int}(h:laneE n i l=some e):e≠0:=by
  unfold laneE at h
  split at h
  ·cases h;decide
  ·split at h
   ·rename_i h2;cases h;exact h2
   ·split at h
    ·cases h;decide
    ·split at h
     ·cases h;decide
     ·split at h
      ·cases h;decide
      ·cases h
theorem ZU {m:Map}(B:Bear m):loop (Hg m) 0=some (MA (I0 (laneE m.Lanes.length) 0 m.Lanes)):=
  W1 m.Lanes (Hg m) (laneE m.Lanes.length) (fun i l hl=>by
   have hi:=H6 hl
   have hb:=B.lanes
   unfold Hg
   rw [show decide ((i:Int)< (m.Lanes.length:Int))=true from bF (by omega),oJ B hl,bJ,lB,cA (n:=(i:Int)+1) (by omega)]
   cases h:laneE m.Lanes.length i l with
   |none=>rfl
   |some e=>
    rw [Option.getD_some,show (e !=0)=true by simpa using RZ h];rfl) (by
   unfold Hg
   rw [show decide ((m.Lanes.length:Int)< (m.Lanes.length:Int))=false from bG (by omega)];rfl)
theorem Pn {high:Int}: ∀{l:List Int} {low:Int},Fk high low l=true→∀k∈l,low≤k∧k<high
  | [],_,_,k,hk=>by cases hk
  |n::r,low,h,k,hk=>by
   unfold Fk at h
   simp only [bP,bH]at h
   rcases lT.1 hk with rfl|hk
   ·exact h.1
   ·have:=Pn h.2 k hk
    omega
/-- What a lane is that has no error of its own. -/
structure LaneOK (n i:Nat)(l:Lane):Prop where
  kind:(Cg l.Kind).1≠0
  curve:Fs l.Curve_.Pts=0
  half:CC l.Half 200 4000=true
  limit:CC l.Limit 1 (Cg l.Kind).1=true
  few:l.Next.length≤3
  next:Fk n (i+1) l.Next=true
theorem dZ {n i:Nat}{l:Lane}(h:laneE n i l=none):LaneOK n i l:=by
  unfold laneE at h
  split at h
  ·cases h
  ·rename_i h1
   split at h
   ·cases h
   ·rename_i h2
    split at h
    ·cases h
    ·rename_i h3
     split at h
     ·cases h
     ·rename_i h4
      split at h
      ·cases h
      ·rename_i h5
       simp only [Bool.not_eq_false,bP]at h3
       exact ⟨h1,Decidable.not_not.1 h2,h3.1,h3.2,by omega,by simpa using h5⟩
theorem GD {m:Map}(h:I0 (laneE m.Lanes.length) 0 m.Lanes=none){i:Nat}{l:Lane}(hl:m.Lanes[i]? =some l):LaneOK m.Lanes.length i l:=by
  have:=firstE_none.1 h i l hl
  rw [wF]at this
  exact dZ this
theorem NJ {l:List Spot}(h:Fs l=0):2≤l.length:=by
  unfold Fs at h
  split at h
  ·cases h
  ·omega
def IM (l:List Spot):Spot:=l.headD ⟨0,0⟩
def DU (l:List Spot):Spot:=l.getLastD ⟨0,0⟩
theorem UV {l:List Spot}(h:2≤l.length):B7 l 0=some (IM l):=by
  cases l with
  |nil=>simp at h
  |cons a r=>rfl
theorem UW {l:List Spot}(h:2≤l.length)(hl:l.length≤1000000):B7 l (C3 ((l.length:Int) - 1))=some (DU l):=by
  rw [cA (by omega),show (l.length:Int) - 1=((l.length - 1:Nat):Int) by omega]
  refine C8 ?_
  unfold DU
  rw [List.getLastD_eq_getLast?,List.getLast?_eq_getElem?]
  rw [lH (by omega)];rfl
def ZV (a b:Spot):Bool:=a.X==b.X&& (a.Y==b.Y&&true)
def JU (m:Map)(l:Lane)(_:Nat)(k:Int):Option Int:=
  match m.Lanes[k.toNat]? with
  |some n=>if n.Kind≠l.Kind then some 4 else if ZV (IM n.Curve_.Pts) (DU l.Curve_.Pts)=false then some 3 else none
  |none=>none
def nextE (m:Map)(_:Nat)(l:Lane):Option Int:=I0 (JU m l) 0 l.Next
theorem SA {m:Map}(B:Bear m)(H:I0 (laneE m.Lanes.length) 0 m.Lanes=none){i:Nat}{l:Lane}(hl:m.Lanes[i]? =some l){j:Nat}{k:Int}(hk:l.Next[j]? =some k):
    ∃n,B7 m.Lanes k=some n∧m.Lanes[k.toNat]? =some n∧2≤n.Curve_.Pts.length∧n.Curve_.Pts.length≤1000000:=by
  have L:=GD H hl
  have hb:=Pn L.next k (lG hk)
  have hlt:k.toNat<m.Lanes.length:=by omega
  refine ⟨m.Lanes[k.toNat],?_,lH hlt,NJ (GD H (lH hlt)).curve,(B.pts _ (List.getElem_mem hlt)).1⟩
  unfold B7
  rw [bL (by omega),lH hlt]
theorem iS {m:Map}{l:Lane}{j:Nat}{k e:Int}(h:JU m l j k=some e):e≠0:=by
  unfold JU at h
  split at h
  ·split at h
   ·cases h;decide
   ·split at h
    ·cases h;decide
    ·cases h
  ·cases h
theorem UX {m:Map}(B:Bear m)(H:I0 (laneE m.Lanes.length) 0 m.Lanes=none){i:Nat}{l:Lane}(hl:m.Lanes[i]? =some l):
    loop (S8 ⟨m⟩ l (DU l.Curve_.Pts)) 0=some (MA (nextE m i l))∧loop (Dy m l) 0=some (MA (nextE m i l)):=by
  have L:=GD H hl
  obtain ⟨p1,p2⟩:=B.pts l (lG hl)
  constructor
  ·refine W1 l.Next _ (JU m l) (fun j k hk=> ?_) ?_
   ·have hj:=H6 hk
    obtain ⟨n,g1,g2,g3,g4⟩:=SA B H hl hk
    unfold S8 JU
    dsimp only
    rw [show decide ((j:Int)< (l.Next.length:Int))=true from bF (by omega),C8 hk,bJ,lB,g1,lB,lB,UV g3,lB,cA (n:=(j:Int)+1) (by omega),g2]
    dsimp only
    rw [show ((IM n.Curve_.Pts).X==(DU l.Curve_.Pts).X&& ((IM n.Curve_.Pts).Y==(DU l.Curve_.Pts).Y&&true))=ZV (IM n.Curve_.Pts) (DU l.Curve_.Pts) from rfl]
    by_cases h1:n.Kind≠l.Kind
    ·rw [bL h1,show (n.Kind !=l.Kind)=true by simpa using h1];rfl
    ·rw [bM h1,show (n.Kind !=l.Kind)=false by simpa using h1]
     cases ZV (IM n.Curve_.Pts) (DU l.Curve_.Pts)<;>rfl
   ·unfold S8
    rw [show decide ((l.Next.length:Int)< (l.Next.length:Int))=false from bG (by omega)];rfl
  ·refine W1 l.Next _ (JU m l) (fun j k hk=> ?_) ?_
   ·have hj:=H6 hk
    obtain ⟨n,g1,g2,g3,g4⟩:=SA B H hl hk
    unfold Dy JU
    rw [show decide ((j:Int)< (l.Next.length:Int))=true from bF (by omega),C8 hk,bJ,lB,g1,lB,UV g3,lB,UW (NJ L.curve) p1,lB,cA (n:=(j:Int)+1) (by omega),g2]
    dsimp only
    rw [show ((IM n.Curve_.Pts).X==(DU l.Curve_.Pts).X&& ((IM n.Curve_.Pts).Y==(DU l.Curve_.Pts).Y&&true))=ZV (IM n.Curve_.Pts) (DU l.Curve_.Pts) from rfl]
    by_cases h1:n.Kind≠l.Kind
    ·rw [bL h1,show (n.Kind !=l.Kind)=true by simpa using h1];rfl
    ·rw [bM h1,show (n.Kind !=l.Kind)=false by simpa using h1]
     cases ZV (IM n.Curve_.Pts) (DU l.Curve_.Pts)<;>rfl
   ·unfold Dy
    rw [show decide ((l.Next.length:Int)< (l.Next.length:Int))=false from bG (by omega)];rfl
theorem UY {m:Map}(B:Bear m)(H:I0 (laneE m.Lanes.length) 0 m.Lanes=none):
    Z5 ⟨m⟩=some ((I0 (nextE m) 0 m.Lanes).getD 0)∧Ms m=some ((I0 (nextE m) 0 m.Lanes).getD 0):=by
  have hb:=B.lanes
  constructor
  ·have h:=W1 m.Lanes (S9 ⟨m⟩) (nextE m) (fun i l hl=>by
     have hi:=H6 hl
     have L:=GD H hl
     obtain ⟨p1,p2⟩:=B.pts l (lG hl)
     unfold S9
     dsimp only
     rw [show decide ((i:Int)< (m.Lanes.length:Int))=true from bF (by omega),C8 hl,bJ,lB,UW (NJ L.curve) p1,lB,(UX B H hl).1,cA (n:=(i:Int)+1) (by omega)]
     cases nextE m i l<;>rfl) (by
     unfold S9
     dsimp only
     rw [show decide ((m.Lanes.length:Int)< (m.Lanes.length:Int))=false from bG (by omega)];rfl)
   unfold Z5
   rw [h]
   cases I0 (nextE m) 0 m.Lanes<;>rfl
  ·have h:=W1 m.Lanes (Dz m) (nextE m) (fun i l hl=>by
     have hi:=H6 hl
     unfold Dz
     rw [show decide ((i:Int)< (m.Lanes.length:Int))=true from bF (by omega),C8 hl,bJ,lB,(UX B H hl).2,cA (n:=(i:Int)+1) (by omega)]
     cases nextE m i l<;>rfl) (by
     unfold Dz
     rw [show decide ((m.Lanes.length:Int)< (m.Lanes.length:Int))=false from bG (by omega)];rfl)
   unfold Ms
   rw [h]
   cases I0 (nextE m) 0 m.Lanes<;>rfl
/-- The place of the first element with a property. -/
theorem SB {α:Type}{f:Int→Option (Stp Int (Sum Unit Int))}(l:List α)(P:α→Bool)(hl:l.length≤1000000000)(hf: ∀(i:Nat) a,l[i]? =some a→f (i:Int)=some (if P a then .out (.inr (i:Int))else .go (C3 ((i:Int)+1))))(he:f (l.length:Int)=some (.out (.inl ()))):
    loop f 0=some (match l.findIdx? P with|some i=> .inr (i:Int)|none=> .inl ()):=by
  have key: ∀(r:List α) (i:Nat),l.drop i=r→i≤l.length→loop f (i:Int)=some (match r.findIdx? P with|some j=> .inr ((i+j:Nat):Int)|none=> .inl ()):=by
    intro r
    induction r with
    |nil=>
     intro i hi hil
     have:=O6 hi
     obtain rfl:i=l.length:=by omega
     rw [D0 he];rfl
    |cons a r ih=>
     intro i hi _
     have hlt:=N5 hi
     have h0:l[i]? =some a:=by have:=congrArg (fun z=>z[0]?) hi;simpa using this
     have hs:=hf i a h0
     rw [List.findIdx?_cons]
     by_cases hp:P a=true
     ·rw [bL hp]at hs
      rw [D0 hs,bL hp];simp
     ·rw [bM hp]at hs
      rw [G9 (by omega)]at hs
      rw [L4 hs,show ((i:Int)+1)=((i+1:Nat):Int) by omega,ih (i+1) (L0 hi) (by omega),bM hp]
      cases r.findIdx? P with
      |none=>rfl
      |some j=>simp only [lF];congr 3;omega
  have:=key l 0 rfl (by omega)
  rw [show ((0:Nat):Int)=0 from rfl]at this
  rw [this]
  cases l.findIdx? P<;>simp
/-- -1, or the place. -/
def MB {α:Type}(P:α→Bool)(l:List α):Int:=match l.findIdx? P with|some i=>(i:Int)|none=> -1
theorem BW {α:Type}(P:α→Bool)(l:List α):decide (MB P l≥0)=l.any P:=by
  unfold MB
  cases h:l.findIdx? P with
  |none=>
   have:=List.findIdx?_eq_none_iff.1 h
   rw [show l.any P=false by rw [List.any_eq_false];intro x hx;simpa using this x hx]
   decide
  |some i=>
   have:=List.findIdx?_isSome (xs:=l) (p:=P)
   rw [h]at this
   rw [← this]
   simp
/-- What both twins compute of a list. -/
theorem Vn {α:Type}{f:Int→Option (Stp Int (Sum Unit Int))}(l:List α)(P:α→Bool)(hl:l.length≤1000000000)(hf: ∀(i:Nat) a,l[i]? =some a→f (i:Int)=some (if P a then .out (.inr (i:Int))else .go (C3 ((i:Int)+1))))(he:f (l.length:Int)=some (.out (.inl ()))):
    thenS (loop f 0) (fun _=>some (-1)) (fun r=>some r)=some (MB P l):=by
  rw [SB l P hl hf he]
  unfold MB
  cases l.findIdx? P<;>rfl
theorem iT (l:List Phase)(hl:l.length≤1000000):F4 l=some (l.any fun p=> !CC p.Ticks 1 10000):=by
  unfold F4 H5
  rw [Vn l (fun p=> !CC p.Ticks 1 10000) (by omega) (fun i a h=>by
   have:=H6 h
   unfold F3 An
   rw [show decide ((i:Int)< (l.length:Int))=true from bF (by omega),C8 h,bJ,lB,Xm,lB,lB]
   cases CC a.Ticks 1 10000<;>rfl) (by
   unfold F3
   simp)]
  rw [lB,BW]
theorem eA (m:Map)(l:List Phase)(hl:l.length≤1000000)(hm:m.Lanes.length≤1000000)(hg: ∀p∈l,p.Green.length≤1000000):E9 l ⟨m⟩=some (l.any fun p=> !Fk m.Lanes.length 0 p.Green):=by
  unfold E9 G8
  rw [Vn l (fun p=> !Fk m.Lanes.length 0 p.Green) (by omega) (fun i a h=>by
   have:=H6 h
   unfold E8 X6
   dsimp only
   rw [show decide ((i:Int)< (l.length:Int))=true from bF (by omega),C8 h,bJ,lB,NI _ _ _ (hg a (lG h)) (by omega) (by omega),lB,lB]
   cases Fk (m.Lanes.length:Int) 0 a.Green<;>rfl) (by
   unfold E8
   simp)]
  rw [lB,BW]
structure BearS (m:Map):Prop where
  many:m.Signals.length≤1000000
  phases: ∀s∈m.Signals,s.Phases.length≤1000000∧∀p∈s.Phases,p.Green.length≤1000000
def signalE (m:Map)(_:Nat)(s:Signal):Option Int:=
  if s.Phases.length=0 then some 6
  else if 6<s.Phases.length then some 8
  else if CC s.Offset 0 1099511627776=false then some 2
  else if (s.Phases.any fun p=> !CC p.Ticks 1 10000)=true then some 2
  else if (s.Phases.any fun p=> !Fk m.Lanes.length 0 p.Green)=true then some 11 else none
theorem eB {m:Map}(B:Bear m)(S:BearS m):X0 ⟨m⟩=some ((I0 (signalE m) 0 m.Signals).getD 0):=by
  have h:=W1 m.Signals (R3 ⟨m⟩) (signalE m) (fun i s hs=>by
    have hi:=H6 hs
    have hb:=S.many
    obtain ⟨p1,p2⟩:=S.phases s (lG hs)
    unfold R3 signalE
    dsimp only
    rw [show decide ((i:Int)< (m.Signals.length:Int))=true from bF (by omega),C8 hs,bJ,lB,Xm,lB,iT _ p1,lB,eA m _ p1 B.lanes p2,lB,cA (n:=(i:Int)+1) (by omega)]
    by_cases h1:s.Phases.length=0
    ·rw [bL h1,h1];rfl
    ·rw [bM h1,show ((s.Phases.length:Int)==0)=false by simp only [beq_eq_false_iff_ne];omega,bK]
     by_cases h2:6<s.Phases.length
     ·rw [bL h2,show decide ((s.Phases.length:Int)>6)=true from bF (by omega)];rfl
     ·rw [bM h2,show decide ((s.Phases.length:Int)>6)=false from bG (by omega),bK]
      cases CC s.Offset 0 1099511627776
      ·rfl
      ·cases (s.Phases.any fun p=> !CC p.Ticks 1 10000)
       ·cases (s.Phases.any fun p=> !Fk m.Lanes.length 0 p.Green)<;>rfl
       ·rfl) (by
    unfold R3
    dsimp only
    rw [show decide ((m.Signals.length:Int)< (m.Signals.length:Int))=false from bG (by omega)];rfl)
  unfold X0
  rw [h]
  cases I0 (signalE m) 0 m.Signals<;>rfl
theorem ZW (s:Signal)(hl:s.Phases.length≤1000000): ∀(r:List Phase) (i:Nat) (b:Bool),s.Phases.drop i=r→i≤s.Phases.length→loop (Bg s) (b,(i:Int))=some (b&& !(r.any fun p=> !CC p.Ticks 1 10000)):=by
  intro r
  induction r with
  |nil=>
   intro i b hi hil
   have:=O6 hi
   refine D0 ?_
   unfold Bg
   dsimp only
   rw [show decide ((i:Int)< (s.Phases.length:Int))=false from bG (by omega)]
   simp
  |cons p r ih=>
   intro i b hi hil
   have hlt:=N5 hi
   have hs:Bg s (b,(i:Int))=some (.go (b&&CC p.Ticks 1 10000,((i+1:Nat):Int))):=by
     unfold Bg
     dsimp only
     rw [show decide ((i:Int)< (s.Phases.length:Int))=true from bF (by omega),Ff hi,cA (n:=(i:Int)+1) (by omega)]
     cases b<;>rfl
   rw [L4 hs,ih (i+1) _ (L0 hi) (by omega),List.any_cons]
   cases b<;>cases CC p.Ticks 1 10000<;>simp
theorem XK (m:Map)(s:Signal)(hl:s.Phases.length≤1000000)(hg: ∀p∈s.Phases,p.Green.length≤1000000):loop (Bf m s) 0=some (if (s.Phases.any fun p=> !Fk m.Lanes.length 0 p.Green)=true then .inr 11 else .inl ()):=by
  have h:=W1 s.Phases (Bf m s) (fun _ p=>if Fk m.Lanes.length 0 p.Green then none else some 11) (fun i p hp=>by
    have:=H6 hp
    unfold Bf
    rw [show decide ((i:Int)< (s.Phases.length:Int))=true from bF (by omega),C8 hp,bJ,lB,JT _ _ _ (hg p (lG hp)),lB,cA (n:=(i:Int)+1) (by omega)]
    cases Fk (m.Lanes.length:Int) 0 p.Green<;>rfl) (by
    unfold Bf
    rw [show decide ((s.Phases.length:Int)< (s.Phases.length:Int))=false from bG (by omega)];rfl)
  rw [h]
  have key: ∀(l:List Phase) (i:Nat),MA (I0 (fun (_:Nat) (p:Phase)=>if Fk (m.Lanes.length:Int) 0 p.Green=true then none else some (11:Int)) i l)=if (l.any fun p=> !Fk m.Lanes.length 0 p.Green)=true then .inr 11 else .inl ():=by
    intro l
    induction l with
    |nil=>intro i;rfl
    |cons p r ih=>
     intro i
     unfold I0
     rw [List.any_cons]
     cases hq:Fk (m.Lanes.length:Int) 0 p.Green
     ·rfl
     ·exact ih (i+1)
  rw [key]
end Go.Abs.World
/-! Loops over lists, as functions on lists. -/
namespace Go.Abs
open Go
section
variable {α β σ S τ:Type}
/-- What a loop over a list makes, with a state, and with a way out. -/
def SC (step:Nat→σ→α→Sum σ τ)(fin:σ→τ):Nat→σ→List α→τ
  |_,s,[]=>fin s
  |i,s,a::r=>match step i s a with
   | .inl s'=>SC step fin (i+1) s' r
   | .inr t=>t
theorem Z3 {l:List α}{i:Nat}{a:α}{r:List α}(h:l.drop i=a::r):l[i]? =some a:=by
  have:=congrArg (fun z=>z[0]?) h
  simpa using this
theorem tL {F:S→Option (Stp S τ)}(pk:Nat→σ→S)(l:List α)(inv:Nat→σ→Prop)(step:Nat→σ→α→Sum σ τ)(fin:σ→τ){s0:σ}{S0:S}(hS:pk 0 s0=S0)(hi:inv 0 s0)
    (hF: ∀i a s,l[i]? =some a→inv i s→F (pk i s)=some (match step i s a with| .inl s'=> .go (pk (i+1) s')| .inr t=> .out t))
    (hI: ∀i a s s',l[i]? =some a→inv i s→step i s a= .inl s'→inv (i+1) s')
    (h0: ∀s,inv l.length s→F (pk l.length s)=some (.out (fin s))):loop F S0=some (SC step fin 0 s0 l):=by
  have key: ∀(r:List α) (i:Nat) (s:σ),l.drop i=r→i≤l.length→inv i s→loop F (pk i s)=some (SC step fin i s r):=by
    intro r
    induction r with
    |nil=>
     intro i s hi hil hv
     have:=O6 hi
     obtain rfl:i=l.length:=by omega
     exact D0 (h0 s hv)
    |cons a r ih=>
     intro i s hi hil hv
     have hlt:=N5 hi
     have ha:=Z3 hi
     have hs:=hF i a s ha hv
     unfold SC
     cases h:step i s a with
     |inl s'=>rw [h]at hs;rw [L4 hs];exact ih (i+1) s' (L0 hi) (by omega) (hI i a s s' ha hv h)
     |inr t=>rw [h]at hs;exact D0 hs
  rw [← hS]
  exact key l 0 s0 rfl (by omega) hi
/-- The same without a way out. -/
def MC (step:Nat→σ→α→σ):Nat→σ→List α→σ
  |_,s,[]=>s
  |i,s,a::r=>MC step (i+1) (step i s a) r
theorem OH (step:Nat→σ→α→σ)(fin:σ→τ): ∀(l:List α) (i:Nat) (s:σ),SC (fun i s a=> .inl (step i s a)) fin i s l=fin (MC step i s l)
  | [],_,_=>rfl
  |_::r,i,_=>OH step fin r (i+1) _
theorem ZX {F:S→Option (Stp S τ)}(pk:Nat→σ→S)(l:List α)(inv:Nat→σ→Prop)(step:Nat→σ→α→σ)(fin:σ→τ){s0:σ}{S0:S}(hS:pk 0 s0=S0)(hi:inv 0 s0)
    (hF: ∀i a s,l[i]? =some a→inv i s→F (pk i s)=some (.go (pk (i+1) (step i s a))))
    (hI: ∀i a s,l[i]? =some a→inv i s→inv (i+1) (step i s a))
    (h0: ∀s,inv l.length s→F (pk l.length s)=some (.out (fin s))):loop F S0=some (fin (MC step 0 s0 l)):=by
  rw [← OH step fin]
  exact tL pk l inv _ fin hS hi hF (fun i a s s' h1 h2 h3=>by cases h3;exact hI i a s h1 h2) h0
/-- The elements that a loop gathers. -/
def Hm (g:Nat→α→Option β):Nat→List α→List β
  |_,[]=> []
  |i,a::r=>match g i a with
   |some b=>b::Hm g (i+1) r
   |none=>Hm g (i+1) r
theorem HC (g:Nat→α→Option β): ∀(l:List α) (i:Nat),(Hm g i l).length≤l.length
  | [],_=>wB _
  |a::r,i=>by
   have:=HC g r (i+1)
   unfold Hm
   cases g i a<;>simp only [lK]<;>omega
theorem DB (g:Nat→α→Option β): ∀(l:List α) (i:Nat) (s:List β),MC (fun i s a=>match g i a with|some b=>s++ [b]|none=>s) i s l=s++Hm g i l
  | [],_,s=>by simp [MC,Hm]
  |a::r,i,s=>by
   unfold MC Hm
   rw [DB g r (i+1)]
   cases g i a<;>simp
theorem tM {F:S→Option (Stp S τ)}(pk:Nat→List β→S)(l:List α)(g:Nat→α→Option β)(fin:List β→τ){S0:S}(hS:pk 0 []=S0)
    (hF: ∀i a (s:List β),l[i]? =some a→s.length≤i→F (pk i s)=some (.go (pk (i+1) (match g i a with|some b=>s++ [b]|none=>s))))
    (h0: ∀s,F (pk l.length s)=some (.out (fin s))):loop F S0=some (fin (Hm g 0 l)):=by
  have:=ZX pk l (fun i s=>s.length≤i) (fun i s a=>match g i a with|some b=>s++ [b]|none=>s) fin hS (by simp) hF (fun i a s _ hs=>by
    cases g i a<;>simp<;>omega) (fun s _=>h0 s)
  rw [this,DB,lP]
theorem eC {F:List β×Int→Option (Stp (List β×Int) τ)}(l:List α)(g:Nat→α→Option β)(fin:List β→τ)
    (hF: ∀(i:Nat) a (s:List β),l[i]? =some a→s.length≤i→F (s,(i:Int))=some (.go ((match g i a with|some b=>s++ [b]|none=>s),((i+1:Nat):Int))))
    (h0: ∀s,F (s,(l.length:Int))=some (.out (fin s))):loop F ([],0)=some (fin (Hm g 0 l)):=tM (fun i s=>(s,(i:Int))) l g fin rfl hF h0
/-- Is there one? -/
theorem ZY {F:Int→Option (Stp Int (Sum Unit β))}(l:List α)(p:α→Bool)(v:β)(hF: ∀(i:Nat) a,l[i]? =some a→F (i:Int)=some (if p a then .out (.inr v)else .go ((i+1:Nat):Int)))(h0:F (l.length:Int)=some (.out (.inl ()))):
    loop F 0=some (if l.any p then .inr v else .inl ()):=by
  have key: ∀(l:List α) (i:Nat),SC (fun _ _ a=>if p a then Sum.inr (Sum.inr v)else Sum.inl ()) (fun _=>(Sum.inl ():Sum Unit β)) i () l=if l.any p then .inr v else .inl ():=by
    intro l
    induction l with
    |nil=>intro i;rfl
    |cons a r ih=>
     intro i
     unfold SC
     rw [List.any_cons]
     cases h:p a
     ·exact ih (i+1)
     ·rfl
  rw [← key l 0]
  exact tL (F:=F) (σ:=Unit) (fun i _=>(i:Int)) l (fun _ _=>True) _ _ (s0:=()) rfl trivial (fun i a _ h _=>by rw [hF i a h];cases p a<;>rfl) (fun _ _ _ _ _ _ _=>trivial) (fun _ _=>h0)
end
theorem K6 {i:Nat}{n:Nat}(h:i<n):decide ((i:Int)< (n:Int))=true:=bF (by omega)
theorem J2 (n:Nat):decide ((n:Int)< (n:Int))=false:=bG (by omega)
theorem G6 {i:Nat}{n:Nat}(h:i<n)(hn:n≤1000000000000):C3 ((i:Int)+1)=((i+1:Nat):Int):=by rw [G9 (by omega)];omega
end Go.Abs
namespace Go.Abs.World
open Go Go.Abs
structure BearZ (m:Map):Prop where
  many:m.Zones.length≤1000000
  parts: ∀z∈m.Zones,z.Parts.length≤1000000
noncomputable def T4 (m:Map)(k:Int):Int:=((m.Lanes[k.toNat]?).map fun l=>Xf l.Curve_).getD 0
noncomputable def AH (m:Map)(p:Part):Bool:=decide (p.From<0)||decide (p.From≥p.To)||decide (p.To>T4 m p.Lane_)||decide (p.Rank<0)||decide (p.Rank>100)
noncomputable def zoneE (m:Map)(_:Nat)(z:Zone):Option Int:=
  if z.Parts.length<2 then some 6
  else if 6<z.Parts.length then some 8
  else if z.Signal_<0∨(m.Signals.length:Int)<z.Signal_ then some 2
  else if Fk m.Lanes.length 0 (z.Parts.map (·.Lane_))=false then some 11
  else if z.Parts.any (AH m)=true then some 2 else none
theorem DC {m:Map}{k:Int}(h0:0≤k)(h1:k<m.Lanes.length): ∃l,m.Lanes[k.toNat]? =some l∧B7 m.Lanes k=some l:=by
  have hlt:k.toNat<m.Lanes.length:=by omega
  refine ⟨m.Lanes[k.toNat],lH hlt,?_⟩
  unfold B7
  rw [bL h0,lH hlt]
theorem PQ {m:Map}(B:Bear m){k:Int}(h0:0≤k)(h1:k<m.Lanes.length):Fo m k=some (T4 m k):=by
  obtain ⟨l,e1,e2⟩:=DC h0 h1
  have:=rS (m:=m) e1 (B.pts l (lG e1)).1
  rw [show ((k.toNat:Nat):Int)=k by omega]at this
  rw [this,T4,e1];rfl
theorem SD {m:Map}(B:Bear m){k:Int}(h0:0≤k)(h1:k<m.Lanes.length): ∃l,B7 m.Lanes k=some l∧Iv l.Curve_=some (T4 m k):=by
  obtain ⟨l,e1,e2⟩:=DC h0 h1
  refine ⟨l,e2,?_⟩
  rw [PG _ (B.pts l (lG e1)).1,T4,e1];rfl
theorem ZZ {α β:Type}(f:α→β): ∀(l:List α) (i:Nat),Hm (fun _ a=>some (f a)) i l=l.map f
  | [],_=>rfl
  |a::r,i=>by rw [Hm,ZZ f r];rfl
theorem oK {z:Zone}{F:List Int×Int→Option (Stp (List Int×Int) (List Int))}(hl:z.Parts.length≤1000000)
    (hF: ∀x,F x=cond (decide (x.2< (z.Parts.length:Int))) ((B7 z.Parts x.2).bind fun v=>(Z2 x.1 [v.Lane_]).bind fun w=>some (.go (w,C3 (x.2+1)))) (some (.out x.1))):
    loop F ([],0)=some (z.Parts.map (·.Lane_)):=by
  rw [← ZZ (fun p:Part=>p.Lane_) z.Parts 0]
  refine tM (fun i s=>(s,(i:Int))) z.Parts (fun _ p=>some p.Lane_) id rfl (fun i a s ha hs=> ?_) (fun s=> ?_)
  ·have hi:=H6 ha
   rw [hF,K6 hi,C8 ha,bJ,lB,Lu (by simp;omega),lB,G6 hi (by omega)]
  ·rw [hF,J2];rfl
theorem oL {m:Map}(B:Bear m)(Z:BearZ m):Aq ⟨m⟩=some ((I0 (zoneE m) 0 m.Zones).getD 0):=by
  have hb:=B.lanes
  have h:=W1 m.Zones (U8 ⟨m⟩) (zoneE m) (fun i z hz=>by
    have hi:=H6 hz
    have hm:=Z.many
    have p1:=Z.parts z (lG hz)
    unfold U8 zoneE
    dsimp only
    rw [K6 hi,C8 hz,bJ,lB,oK p1 (F:=Bd z) (fun x=>rfl),lB,NI _ _ _ (by simpa using p1) (by omega) (by omega),lB,G6 hi (by omega)]
    by_cases h1:z.Parts.length<2
    ·rw [bL h1,show decide ((z.Parts.length:Int)<2)=true from bF (by omega)];rfl
    ·rw [bM h1,show decide ((z.Parts.length:Int)<2)=false from bG (by omega),bK]
     by_cases h2:6<z.Parts.length
     ·rw [bL h2,show decide ((z.Parts.length:Int)>6)=true from bF (by omega)];rfl
     ·rw [bM h2,show decide ((z.Parts.length:Int)>6)=false from bG (by omega),bK]
      by_cases h3:z.Signal_<0∨(m.Signals.length:Int)<z.Signal_
      ·rw [bL h3,show ((decide (z.Signal_<0))||(decide (z.Signal_>(m.Signals.length:Int))))=true by simpa using h3];rfl
      ·rw [bM h3,show ((decide (z.Signal_<0))||(decide (z.Signal_>(m.Signals.length:Int))))=false by rw [bU];simpa using h3,bK]
       cases h4:Fk (m.Lanes.length:Int) 0 (z.Parts.map (·.Lane_))
       ·rfl
       ·rw [bM (by decide)]
        have:=ZY (F:=U7 ⟨m⟩ z) z.Parts (AH m) (2:Int) (fun j p hp=>by
          have hj:=H6 hp
          have hk:=Pn h4 p.Lane_ (List.mem_map.2 ⟨p,lG hp,rfl⟩)
          unfold U7 AH
          dsimp only
          rw [K6 hj,C8 hp,bJ,lB,PQ B hk.1 hk.2,G6 hj (by omega)]
          cases h5:(decide (p.From<0)||decide (p.From≥p.To))
          ·simp only [bS,bJ,lB]
           cases (false||decide (p.To>T4 m p.Lane_)||decide (p.Rank<0)||decide (p.Rank>100))<;>rfl
          ·rfl) (by unfold U7;rw [J2];rfl)
        rw [this]
        cases z.Parts.any (AH m)<;>rfl) (by
    unfold U8
    dsimp only
    rw [J2];rfl)
  unfold Aq
  rw [h]
  cases I0 (zoneE m) 0 m.Zones<;>rfl
theorem oM {m:Map}(B:Bear m)(Z:BearZ m){i:Nat}{z:Zone}(hz:m.Zones[i]? =some z):Mt m z=some ((zoneE m i z).getD 0):=by
  have hb:=B.lanes
  have p1:=Z.parts z (lG hz)
  unfold Mt zoneE
  rw [oK p1 (F:=Md z) (fun x=>rfl),lB,JT _ _ _ (by simpa using p1),lB]
  by_cases h1:z.Parts.length<2
  ·rw [bL h1,show decide ((z.Parts.length:Int)<2)=true from bF (by omega)];rfl
  ·rw [bM h1,show decide ((z.Parts.length:Int)<2)=false from bG (by omega),bK]
   by_cases h2:6<z.Parts.length
   ·rw [bL h2,show decide ((z.Parts.length:Int)>6)=true from bF (by omega)];rfl
   ·rw [bM h2,show decide ((z.Parts.length:Int)>6)=false from bG (by omega),bK]
    by_cases h3:z.Signal_<0∨(m.Signals.length:Int)<z.Signal_
    ·rw [bL h3,show ((decide (z.Signal_<0))||(decide (z.Signal_>(m.Signals.length:Int))))=true by simpa using h3];rfl
    ·rw [bM h3,show ((decide (z.Signal_<0))||(decide (z.Signal_>(m.Signals.length:Int))))=false by rw [bU];simpa using h3,bK]
     cases h4:Fk (m.Lanes.length:Int) 0 (z.Parts.map (·.Lane_))
     ·rfl
     ·rw [bM (by decide)]
      have:=ZY (F:=Ea m z) z.Parts (AH m) (2:Int) (fun j p hp=>by
        have hj:=H6 hp
        have hk:=Pn h4 p.Lane_ (List.mem_map.2 ⟨p,lG hp,rfl⟩)
        obtain ⟨l,e1,e2⟩:=SD B hk.1 hk.2
        unfold Ea AH
        rw [K6 hj,C8 hp,bJ,lB,e1,G6 hj (by omega)]
        cases h5:(decide (p.From<0)||decide (p.From≥p.To))
        ·simp only [bS,bJ,lB,e2]
         cases (false||decide (p.To>T4 m p.Lane_)||decide (p.Rank<0)||decide (p.Rank>100))<;>rfl
        ·rfl) (by unfold Ea;rw [J2];rfl)
      rw [this]
      cases z.Parts.any (AH m)<;>rfl
structure BearW (m:Map):Prop where
  many:m.Works.length≤1000000
noncomputable def workE (m:Map)(_:Nat)(w:Work):Option Int:=
  if w.Lane_<0∨(m.Lanes.length:Int)≤w.Lane_ then some 7
  else if (decide (w.From<0)||decide (w.From>w.To)||decide (w.To>T4 m w.Lane_)||decide (w.Begin<0)||decide (w.Begin≥w.End)||decide (w.End>1099511627776)|| !CC w.Limit 0 ((m.Lanes[w.Lane_.toNat]?).map fun l=>(Cg l.Kind).1).get!)=true then some 2 else none
theorem oN {m:Map}(B:Bear m)(W:BearW m):Ar ⟨m⟩=some ((I0 (workE m) 0 m.Works).getD 0):=by
  have hb:=B.lanes
  have h:=W1 m.Works (U9 ⟨m⟩) (workE m) (fun i w hw=>by
    have hi:=H6 hw
    have hm:=W.many
    unfold U9 workE
    dsimp only
    rw [K6 hi,C8 hw,bJ,lB,G6 hi (by omega)]
    by_cases h1:w.Lane_<0∨(m.Lanes.length:Int)≤w.Lane_
    ·rw [bL h1,show ((decide (w.Lane_<0))||(decide (w.Lane_≥(m.Lanes.length:Int))))=true by simpa using h1];rfl
    ·rw [bM h1,show ((decide (w.Lane_<0))||(decide (w.Lane_≥(m.Lanes.length:Int))))=false by rw [bU];simpa using h1,bK]
     obtain ⟨l,e1,e2⟩:=DC (m:=m) (k:=w.Lane_) (by omega) (by omega)
     rw [e2,lB,BV,lB,PQ B (by omega) (by omega),Xm,e1]
     simp only [lF,Option.get!_some]
     cases (decide (w.From<0)||decide (w.From>w.To))
     ·simp only [bS,bJ,lB]
      cases (false||decide (w.To>T4 m w.Lane_)||decide (w.Begin<0)||decide (w.Begin≥w.End)||decide (w.End>1099511627776))
      ·simp only [bS,bJ,lB]
       by_cases hq:CC w.Limit 0 (Cg l.Kind).1=true<;>simp [hq]
      ·rfl
     ·rfl) (by
    unfold U9
    dsimp only
    rw [J2];rfl)
  unfold Ar
  rw [h]
  cases I0 (workE m) 0 m.Works<;>rfl
theorem oO {m:Map}(B:Bear m){i:Nat}(w:Work):Mu m w=some ((workE m i w).getD 0):=by
  have hb:=B.lanes
  unfold Mu workE
  by_cases h1:w.Lane_<0∨(m.Lanes.length:Int)≤w.Lane_
  ·rw [bL h1,show ((decide (w.Lane_<0))||(decide (w.Lane_≥(m.Lanes.length:Int))))=true by simpa using h1];rfl
  ·rw [bM h1,show ((decide (w.Lane_<0))||(decide (w.Lane_≥(m.Lanes.length:Int))))=false by rw [bU];simpa using h1,bK]
   obtain ⟨l,e1,e2⟩:=DC (m:=m) (k:=w.Lane_) (by omega) (by omega)
   obtain ⟨l',e3,e4⟩:=SD B (k:=w.Lane_) (by omega) (by omega)
   rw [e2]at e3
   cases e3
   rw [e2,lB,Ze,lB,e4,Zd,e1]
   simp only [lF,Option.get!_some]
   cases (decide (w.From<0)||decide (w.From>w.To))
   ·simp only [bS,bJ,lB]
    cases (false||decide (w.To>T4 m w.Lane_)||decide (w.Begin<0)||decide (w.Begin≥w.End)||decide (w.End>1099511627776))
    ·simp only [bS,bJ,lB]
     by_cases hq:CC w.Limit 0 (Cg l.Kind).1=true<;>simp [hq]
    ·rfl
   ·rfl
theorem eD {m:Map}(S:BearS m)(i:Nat){s:Signal}(hs:s∈m.Signals):Iu m s=some ((signalE m i s).getD 0):=by
  obtain ⟨p1,p2⟩:=S.phases s hs
  unfold Iu signalE
  rw [Zd,lB,show (0:Int)=((0:Nat):Int) from rfl,ZW s p1 s.Phases 0 _ rfl (by omega),lB]
  rw [show ((0:Nat):Int)=0 from rfl,XK m s p1 p2]
  by_cases h1:s.Phases.length=0
  ·rw [bL h1,h1];rfl
  ·rw [bM h1,show ((s.Phases.length:Int)==0)=false by simp only [beq_eq_false_iff_ne];omega,bK]
   by_cases h2:6<s.Phases.length
   ·rw [bL h2,show decide ((s.Phases.length:Int)>6)=true from bF (by omega)];rfl
   ·rw [bM h2,show decide ((s.Phases.length:Int)>6)=false from bG (by omega),bK]
    cases CC s.Offset 0 1099511627776
    ·rfl
    ·cases (s.Phases.any fun p=> !CC p.Ticks 1 10000)
     ·cases (s.Phases.any fun p=> !Fk m.Lanes.length 0 p.Green)<;>rfl
     ·rfl
/-- All lists of a map are of bearable lengths. -/
structure BearM (m:Map):Prop where
  toBear:Bear m
  toBearS:BearS m
  toBearZ:BearZ m
  toBearW:BearW m
theorem BearM.lanes {m:Map}(B:BearM m):m.Lanes.length≤1000000:=B.toBear.lanes
noncomputable def BX (m:Map):Int:=
  if CC m.Version 0 1099511627776=false then 2
  else if m.Lanes.length=0 then 6
  else if 12<m.Lanes.length∨12<m.Zones.length∨4<m.Signals.length∨8<m.Works.length then 8
  else ((I0 (laneE m.Lanes.length) 0 m.Lanes).or ((I0 (nextE m) 0 m.Lanes).or ((I0 (signalE m) 0 m.Signals).or ((I0 (zoneE m) 0 m.Zones).or (I0 (workE m) 0 m.Works))))).getD 0
theorem Ed {α:Type}{g:Nat→α→Option Int}(h: ∀i a e,g i a=some e→e≠0): ∀{l:List α} {i:Nat} {e:Int},I0 g i l=some e→e≠0
  | [],_,_,q=>by cases q
  |a::r,i,e,q=>by
   unfold I0 at q
   cases hg:g i a with
   |some e'=>rw [hg]at q;cases q;exact h i a e hg
   |none=>rw [hg]at q;exact Ed h q
theorem MD {m:Map}{i:Nat}{z:Zone}{e:Int}(h:zoneE m i z=some e):e≠0:=by
  unfold zoneE at h
  repeat' split at h
  all_goals first|(cases h;decide)|cases h
theorem DD {m:Map}{i:Nat}{z:Signal}{e:Int}(h:signalE m i z=some e):e≠0:=by
  unfold signalE at h
  repeat' split at h
  all_goals first|(cases h;decide)|cases h
theorem SE {m:Map}{i:Nat}{z:Work}{e:Int}(h:workE m i z=some e):e≠0:=by
  unfold workE at h
  repeat' split at h
  all_goals first|(cases h;decide)|cases h
theorem SF {m:Map}{i:Nat}{z:Lane}{e:Int}(h:nextE m i z=some e):e≠0:=Ed (fun _ _ _=>iS) h
/-- A loop that goes on as long as there is no error. -/
theorem oP {α:Type}{F:Int×Int→Option (Stp (Int×Int) Int)}(l:List α)(g:Nat→α→Option Int)(hg: ∀i a e,g i a=some e→e≠0)(hl:l.length≤1000000)
    (hF: ∀(i:Nat) a,l[i]? =some a→F (0,(i:Int))=some (.go ((g i a).getD 0,((i+1:Nat):Int)))) (h0: ∀(i:Nat) (e:Int),e≠0→F (e,(i:Int))=some (.out e)) (h1:F (0,(l.length:Int))=some (.out 0)) (e0:Option Int) (he: ∀e,e0=some e→e≠0):
    loop F (e0.getD 0,0)=some ((e0.or (I0 g 0 l)).getD 0):=by
  have key: ∀(r:List α) (i:Nat),l.drop i=r→i≤l.length→loop F (0,(i:Int))=some ((I0 g i r).getD 0):=by
    intro r
    induction r with
    |nil=>
     intro i hi hil
     have:=O6 hi
     obtain rfl:i=l.length:=by omega
     exact D0 h1
    |cons a r ih=>
     intro i hi hil
     have hlt:=N5 hi
     have hs:=hF i a (Z3 hi)
     rw [L4 hs]
     unfold I0
     cases h:g i a with
     |some e=>exact D0 (h0 (i+1) e (hg i a e h))
     |none=>exact ih (i+1) (L0 hi) (by omega)
  cases e0 with
  |some e=>exact D0 (h0 0 e (he e rfl))
  |none=>exact key l 0 rfl (by omega)
theorem Zf {m:Map}(B:BearM m):Ol m=some (BX m):=by
  have hb:=B.lanes
  unfold Ol BX
  rw [Zd,lB]
  cases CC m.Version 0 1099511627776
  ·rfl
  ·simp only [bR,bK,Bool.true_eq_false,if_false]
   by_cases h1:m.Lanes.length=0
   ·rw [bL h1,h1];rfl
   ·rw [bM h1,show ((m.Lanes.length:Int)==0)=false by simp only [beq_eq_false_iff_ne];omega,bK]
    by_cases h2:12<m.Lanes.length∨12<m.Zones.length∨4<m.Signals.length∨8<m.Works.length
    ·rw [bL h2,show ((((decide ((m.Lanes.length:Int)>12))||(decide ((m.Zones.length:Int)>12)))||(decide ((m.Signals.length:Int)>4)))||(decide ((m.Works.length:Int)>8)))=true by simp;omega];rfl
    ·rw [bM h2,show ((((decide ((m.Lanes.length:Int)>12))||(decide ((m.Zones.length:Int)>12)))||(decide ((m.Signals.length:Int)>4)))||(decide ((m.Works.length:Int)>8)))=false by simp;omega,bK]
     rw [ZU B.toBear]
     cases H:I0 (laneE m.Lanes.length) 0 m.Lanes with
     |some e=>rfl
     |none=>
      have n1: ∀e,I0 (nextE m) 0 m.Lanes=some e→e≠0:=fun e h=>Ed (fun _ _ _=>SF) h
      have n2: ∀e,(I0 (nextE m) 0 m.Lanes).or (I0 (signalE m) 0 m.Signals)=some e→e≠0:=fun e h=>by
        rcases Option.or_eq_some_iff.1 h with h|⟨_,h⟩
        ·exact n1 e h
        ·exact Ed (fun _ _ _=>DD) h
      have n3: ∀e,((I0 (nextE m) 0 m.Lanes).or (I0 (signalE m) 0 m.Signals)).or (I0 (zoneE m) 0 m.Zones)=some e→e≠0:=fun e h=>by
        rcases Option.or_eq_some_iff.1 h with h|⟨_,h⟩
        ·exact n2 e h
        ·exact Ed (fun _ _ _=>MD) h
      simp only [MA,thenS,Option.none_or]
      rw [(UY B.toBear H).2,lB]
      rw [oP m.Signals (signalE m) (fun _ _ _=>DD) B.toBearS.many (fun i a ha=>by
       have hi:=H6 ha
       have hm:=B.toBearS.many
       unfold Kp
       dsimp only
       rw [K6 hi,C8 ha,bN,show ((0:Int)==0)=true from rfl,bJ,lB,eD B.toBearS i (lG ha),G6 hi (by omega)];rfl) (fun i e he=>by
       unfold Kp
       dsimp only
       rw [show (e==0)=false by simpa using he,Bool.and_false];rfl) (by unfold Kp;dsimp only;rw [J2];rfl) _ n1,lB]
      rw [oP m.Zones (zoneE m) (fun _ _ _=>MD) B.toBearZ.many (fun i a ha=>by
       have hi:=H6 ha
       have hm:=B.toBearZ.many
       unfold Ko
       dsimp only
       rw [K6 hi,C8 ha,bN,show ((0:Int)==0)=true from rfl,bJ,lB,oM B.toBear B.toBearZ ha,G6 hi (by omega)];rfl) (fun i e he=>by
       unfold Ko
       dsimp only
       rw [show (e==0)=false by simpa using he,Bool.and_false];rfl) (by unfold Ko;dsimp only;rw [J2];rfl) _ n2,lB]
      rw [oP m.Works (workE m) (fun _ _ _=>SE) B.toBearW.many (fun i a ha=>by
       have hi:=H6 ha
       have hm:=B.toBearW.many
       unfold Kn
       dsimp only
       rw [K6 hi,C8 ha,bN,show ((0:Int)==0)=true from rfl,bJ,lB,oO B.toBear (i:=i) a,G6 hi (by omega)];rfl) (fun i e he=>by
       unfold Kn
       dsimp only
       rw [show (e==0)=false by simpa using he,Bool.and_false];rfl) (by unfold Kn;dsimp only;rw [J2];rfl) _ n3,lB]
      rw [Option.or_assoc,Option.or_assoc]
theorem Tb {m:Map}(B:BearM m):Gc m=some (BX m):=by
  have hb:=B.lanes
  have s0:Q7 m 0=(W9 ⟨m⟩).bind fun v2=>cond (v2 !=0) (some (.out (.inr v2))) (some (.go 1)):=rfl
  have s1:Q7 m 1=(Ap ⟨m⟩).bind fun v2=>cond (v2 !=0) (some (.out (.inr v2))) (some (.go 2)):=rfl
  have s2:Q7 m 2=(Z5 ⟨m⟩).bind fun v2=>cond (v2 !=0) (some (.out (.inr v2))) (some (.go 3)):=rfl
  have s3:Q7 m 3=(X0 ⟨m⟩).bind fun v2=>cond (v2 !=0) (some (.out (.inr v2))) (some (.go 4)):=rfl
  have s4:Q7 m 4=(Aq ⟨m⟩).bind fun v2=>cond (v2 !=0) (some (.out (.inr v2))) (some (.go 5)):=rfl
  have s5:Q7 m 5=(Ar ⟨m⟩).bind fun v2=>cond (v2 !=0) (some (.out (.inr v2))) (some (.go 6)):=rfl
  have s6:Q7 m 6=some (.out (.inl ())):=rfl
  have stp: ∀(i j:Int) (e:Option Int) (X:Option Int),(∀e',e=some e'→e'≠0)→X=some (e.getD 0)→Q7 m i=X.bind (fun v2=>cond (v2 !=0) (some (.out (.inr v2))) (some (.go j)))→loop (Q7 m) i=match e with|some e'=>some (.inr e')|none=>loop (Q7 m) j:=by
    intro i j e X he hX hs
    subst hX
    rw [lB]at hs
    cases e with
    |none=>exact L4 hs
    |some e'=>
     rw [Option.getD_some,show (e' !=0)=true by simpa using he e' rfl]at hs
     exact D0 hs
  unfold Gc BX
  have hnum:W9 ⟨m⟩=some ((if CC m.Version 0 1099511627776=false then some 2 else if m.Lanes.length=0 then some 6 else if 12<m.Lanes.length∨12<m.Zones.length∨4<m.Signals.length∨8<m.Works.length then some 8 else none:Option Int).getD 0):=by
    unfold W9
    dsimp only
    rw [Xm,lB]
    cases CC m.Version 0 1099511627776
    ·rfl
    ·simp only [bR,bK,Bool.true_eq_false,if_false]
     by_cases h1:m.Lanes.length=0
     ·rw [bL h1,h1];rfl
     ·rw [bM h1,show ((m.Lanes.length:Int)==0)=false by simp only [beq_eq_false_iff_ne];omega,bK]
      by_cases h2:12<m.Lanes.length∨12<m.Zones.length∨4<m.Signals.length∨8<m.Works.length
      ·rw [bL h2,show ((((decide ((m.Lanes.length:Int)>12))||(decide ((m.Zones.length:Int)>12)))||(decide ((m.Signals.length:Int)>4)))||(decide ((m.Works.length:Int)>8)))=true by simp;omega];rfl
      ·rw [bM h2,show ((((decide ((m.Lanes.length:Int)>12))||(decide ((m.Zones.length:Int)>12)))||(decide ((m.Signals.length:Int)>4)))||(decide ((m.Works.length:Int)>8)))=false by simp;omega];rfl
  rw [stp 0 1 _ _ (by repeat' split
                      all_goals (intro e' h;first|(cases h;decide)|cases h)) hnum s0]
  by_cases q1:CC m.Version 0 1099511627776=false
  ·rw [bL q1,bL q1];rfl
  ·rw [bM q1,bM q1]
   by_cases q2:m.Lanes.length=0
   ·rw [bL q2,bL q2];rfl
   ·rw [bM q2,bM q2]
    by_cases q3:12<m.Lanes.length∨12<m.Zones.length∨4<m.Signals.length∨8<m.Works.length
    ·rw [bL q3,bL q3];rfl
    ·rw [bM q3,bM q3]
     dsimp only
     rw [stp 1 2 _ _ (fun e' h=>Ed (fun _ _ _=>RZ) h) (oH B.toBear) s1]
     cases H:I0 (laneE m.Lanes.length) 0 m.Lanes with
     |some e=>rfl
     |none=>
      dsimp only
      rw [stp 2 3 _ _ (fun e' h=>Ed (fun _ _ _=>SF) h) (UY B.toBear H).1 s2]
      cases I0 (nextE m) 0 m.Lanes with
      |some e=>rfl
      |none=>
       dsimp only
       rw [stp 3 4 _ _ (fun e' h=>Ed (fun _ _ _=>DD) h) (eB B.toBear B.toBearS) s3]
       cases I0 (signalE m) 0 m.Signals with
       |some e=>rfl
       |none=>
        dsimp only
        rw [stp 4 5 _ _ (fun e' h=>Ed (fun _ _ _=>MD) h) (oL B.toBear B.toBearZ) s4]
        cases I0 (zoneE m) 0 m.Zones with
        |some e=>rfl
        |none=>
         dsimp only
         rw [stp 5 6 _ _ (fun e' h=>Ed (fun _ _ _=>SE) h) (oN B.toBear B.toBearW) s5]
         cases I0 (workE m) 0 m.Works with
         |some e=>rfl
         |none=>dsimp only;rw [D0 s6];rfl
/-- What a valid map is. -/
structure ValR (m:Map):Prop where
  ver:0≤m.Version∧m.Version≤1099511627776
  pos:0<m.Lanes.length
  lanes:m.Lanes.length≤12
  zones:m.Zones.length≤12
  signals:m.Signals.length≤4
  works:m.Works.length≤8
  laneE:I0 (laneE m.Lanes.length) 0 m.Lanes=none
  nextE:I0 (nextE m) 0 m.Lanes=none
  signalE:I0 (signalE m) 0 m.Signals=none
  zoneE:I0 (zoneE m) 0 m.Zones=none
  workE:I0 (workE m) 0 m.Works=none
theorem iU {α:Type}{g:Nat→α→Option Int}{l:List α}(h: ∀i a e,g i a=some e→e≠0)(h0:(I0 g 0 l).getD 0=0):I0 g 0 l=none:=by
  cases q:I0 g 0 l with
  |none=>rfl
  |some e=>rw [q]at h0;exact absurd h0 (Ed h q)
theorem chkR_zero {m:Map}:BX m=0↔ValR m:=by
  unfold BX
  constructor
  ·intro h
   split at h
   ·cases h
   ·rename_i h1
    split at h
    ·cases h
    ·rename_i h2
     split at h
     ·cases h
     ·rename_i h3
      simp only [CC,Bool.not_eq_false,bP,bH]at h1
      have key: ∀{o r:Option Int},(∀e,o=some e→e≠0)→(o.or r).getD 0=0→o=none∧r.getD 0=0:=by
        intro o r ho hr
        cases o with
        |none=>exact ⟨rfl,hr⟩
        |some e=>exact absurd hr (ho e rfl)
      obtain ⟨a1,h⟩:=key (fun e h=>Ed (fun _ _ _=>RZ) h) h
      obtain ⟨a2,h⟩:=key (fun e h=>Ed (fun _ _ _=>SF) h) h
      obtain ⟨a3,h⟩:=key (fun e h=>Ed (fun _ _ _=>DD) h) h
      obtain ⟨a4,h⟩:=key (fun e h=>Ed (fun _ _ _=>MD) h) h
      exact ⟨h1,by omega,by omega,by omega,by omega,by omega,a1,a2,a3,a4,iU (fun _ _ _=>SE) h⟩
  ·rintro ⟨h1,h2,h3,h4,h5,h6,a1,a2,a3,a4,a5⟩
   rw [bM (by simp only [CC,Bool.not_eq_false,bP,bH];exact h1),bM (by omega),bM (by omega),a1,a2,a3,a4,a5];rfl
section
variable {m:Map}
theorem ValR.laneOK (V:ValR m){i:Nat}{l:Lane}(h:m.Lanes[i]? =some l):LaneOK m.Lanes.length i l:=GD V.laneE h
theorem ValR.next (V:ValR m){i:Nat}{l:Lane}(h:m.Lanes[i]? =some l){k:Int}(hk:k∈l.Next):(i:Int)<k∧k<m.Lanes.length:=by
  have:=Pn (V.laneOK h).next k hk
  omega
end
/-- The lanes in which a lane goes on. -/
def nextOf (m:Map)(a:Nat):List Int:=((m.Lanes[a]?).map (·.Next)).getD []
theorem ValR.nextOf {m:Map}(V:ValR m){a:Nat}{k:Int}(hk:k∈World.nextOf m a):(a:Int)<k∧k<m.Lanes.length:=by
  unfold World.nextOf at hk
  cases h:m.Lanes[a]? with
  |none=>rw [h]at hk;cases hk
  |some l=>rw [h]at hk;exact V.next h hk
def oQ (m:Map)(b:Int):Nat→Nat→Bool
  |0,_=>false
  |n+1,a=>(nextOf m a).any fun k=>k==b||oQ m b n k.toNat
/-- Does a lane lead to another one? -/
def uW (m:Map)(a:Nat)(b:Int):Bool:=oQ m b m.Lanes.length a
/-- What is known of the sets of the lanes from a number on. -/
structure Reach (m:Map)(i:Nat)(l:List Nat):Prop where
  len:l.length=12
  small: ∀(a x:Nat),l[a]? =some x→x<2^32
  zero: ∀(a:Nat),a<i→l[a]? =some 0
  bits: ∀(a x:Nat),i≤a→a<m.Lanes.length→l[a]? =some x→∀b:Nat,x.testBit b=uW m a (b:Int)
theorem Reach.get {m:Map}{i:Nat}{l:List Nat}(R:Reach m i l){a:Nat}(h:a<12): ∃x,l[a]? =some x∧x<2^32:=by
  have:=R.len
  exact ⟨l[a],lH (by omega),R.small a _ (lH (by omega))⟩
noncomputable def XR (m:Map)(k:Int):Bool:=(decide (k≥0)&&decide (k<m.Lanes.length))&& (BX m==0)
theorem isM_true {m:Map}{k:Int}:XR m k=true↔0≤k∧k<m.Lanes.length∧ValR m:=by
  unfold XR
  rw [bP,bP,bV,chkR_zero]
  simp only [bH,and_assoc,ge_iff_le]
theorem GF {m:Map}(B:BearM m)(k:Int):Qb m k=some (XR m k):=by
  unfold Qb XR
  rw [Tb B]
  cases (decide (k≥0)&&decide (k< (m.Lanes.length:Int)))<;>rfl
theorem BG {m:Map}(B:BearM m)(k:Int):Qt m k=some (XR m k):=by
  unfold Qt XR
  rw [Zf B]
  cases (decide (k≥0)&&decide (k< (m.Lanes.length:Int)))<;>rfl
theorem DV {m:Map}(B:BearM m){k:Int}(h0:0≤k)(h1:k<m.Lanes.length):Pi m k=some (T4 m k):=by
  obtain ⟨l,e1,e2⟩:=SD B.toBear h0 h1
  unfold Pi
  rw [e1,lB,e2];rfl
noncomputable def Ga (m:Map)(k:Int):Int:=if XR m k then T4 m k else 0
theorem Qo {m:Map}(B:BearM m)(k:Int):Em m k=some (Ga m k):=by
  unfold Em Ga
  rw [GF B,lB]
  cases h:XR m k
  ·rfl
  ·have:=isM_true.1 h
   rw [bL rfl,bR,bK,PQ B.toBear this.1 this.2.1];rfl
theorem Qp {m:Map}(B:BearM m)(k:Int):Mf m k=some (Ga m k):=by
  unfold Mf Ga
  rw [BG B,lB]
  cases h:XR m k
  ·rfl
  ·have:=isM_true.1 h
   rw [bL rfl,bR,bK,DV B this.1 this.2.1];rfl
theorem GG (l:List Int)(hl:l.length≤1000000)(k:Int):O5 l k=some (l.contains k):=by
  unfold O5 V0
  rw [Vn l (fun x=>k==x) (by omega) (fun i a h=>by
   have hi:=H6 h
   unfold O4
   rw [K6 hi,C8 h,bJ,lB]
   cases k==a<;>rfl) (by unfold O4;rw [J2];rfl)]
  rw [lB,BW,List.contains_eq_any_beq]
theorem eE (l:List Int)(hl:l.length≤1000000)(k:Int):Ts l k=some (l.contains k):=by
  unfold Ts
  rw [ZY l (fun x=>x==k) true (fun i a h=>by
   have hi:=H6 h
   unfold Sp
   rw [K6 hi,C8 h,bJ,lB,G6 hi (by omega)]
   cases a==k<;>rfl) (by unfold Sp;rw [J2];rfl)]
  rw [List.contains_eq_any_beq,show (fun x=>x==k)=(fun x=>k==x) from funext fun x=>by rw [Bool.beq_comm]]
  cases l.any fun x=>k==x<;>rfl
/-- What comes before a lane. -/
def Ur (m:Map)(k:Int):List Int:=Hm (fun i (l:Lane)=>if l.Next.contains k then some (i:Int)else none) 0 m.Lanes
theorem iV {m:Map}(B:BearM m)(k:Int):Im m k=some (Ur m k):=by
  unfold Im Ur
  have hb:=B.lanes
  rw [eC m.Lanes (fun i (l:Lane)=>if l.Next.contains k then some (i:Int)else none) id (fun i l s h hs=>by
   have hi:=H6 h
   unfold Dh
   dsimp only
   rw [K6 hi,C8 h,bJ,lB,GG _ (B.toBear.pts l (lG h)).2,lB,Lu (by simp;omega),G6 hi (by omega)]
   cases l.Next.contains k<;>rfl) (fun s=>by unfold Dh;rw [J2];rfl)]
  rfl
theorem eF {m:Map}(B:BearM m)(k:Int):Sq m k=some (Ur m k):=by
  unfold Sq Ur
  have hb:=B.lanes
  rw [eC m.Lanes (fun i (l:Lane)=>if l.Next.contains k then some (i:Int)else none) id (fun i l s h hs=>by
   have hi:=H6 h
   unfold Mv
   dsimp only
   rw [K6 hi,C8 h,bJ,lB,eE _ (B.toBear.pts l (lG h)).2,lB,Lu (by simp;omega),G6 hi (by omega)]
   cases l.Next.contains k<;>rfl) (fun s=>by unfold Mv;rw [J2];rfl)]
  rfl
def Oz (z:Zone)(k:Int):Part×Bool:=match z.Parts.find? (fun p=>p.Lane_==k)with|some p=>(p,true)|none=>(⟨0,0,0,0⟩,false)
theorem rT {z:Zone}(hl:z.Parts.length≤1000000)(k:Int):Of z k=some (Oz z k):=by
  unfold Of L5 Oz
  rw [Vn z.Parts (fun p=>p.Lane_==k) (by omega) (fun i a h=>by
   have hi:=H6 h
   unfold I4 Gz
   rw [K6 hi,C8 h,bJ,lB,lB]
   cases a.Lane_==k<;>rfl) (by unfold I4;rw [J2];rfl),lB]
  unfold MB
  cases h:z.Parts.findIdx? (fun p=>p.Lane_==k)with
  |none=>
   have:z.Parts.find? (fun p=>p.Lane_==k)=none:=by
     rw [List.find?_eq_none]
     have:=List.findIdx?_eq_none_iff.1 h
     intro x hx;simpa using this x hx
   rw [this];rfl
  |some i=>
   obtain ⟨hi,h1,h2⟩:=List.findIdx?_eq_some_iff_getElem.1 h
   have:z.Parts.find? (fun p=>p.Lane_==k)=some z.Parts[i]:=by
     rw [List.find?_eq_some_iff_getElem]
     exact ⟨h1,i,hi,rfl,fun j hj=>by simpa using h2 j hj⟩
   rw [this]
   dsimp only
   rw [show decide ((i:Int)<0)=false from bG (by omega),bK,nK hi];rfl
structure ZoneOK (m:Map)(z:Zone):Prop where
  two:2≤z.Parts.length
  six:z.Parts.length≤6
  sig:0≤z.Signal_∧z.Signal_≤m.Signals.length
  rise:Fk m.Lanes.length 0 (z.Parts.map (·.Lane_))=true
  part: ∀p∈z.Parts,0≤p.From∧p.From<p.To∧p.To≤T4 m p.Lane_∧0≤p.Rank∧p.Rank≤100
theorem eG {m:Map}{i:Nat}{z:Zone}(h:zoneE m i z=none):ZoneOK m z:=by
  unfold zoneE at h
  split at h
  ·cases h
  ·rename_i h1
   split at h
   ·cases h
   ·rename_i h2
    split at h
    ·cases h
    ·rename_i h3
     split at h
     ·cases h
     ·rename_i h4
      split at h
      ·cases h
      ·rename_i h5
       refine ⟨by omega,by omega,by omega,by simpa using h4,fun p hp=> ?_⟩
       have:=List.any_eq_false.1 (bU.2 h5) p hp
       simp only [AH,bQ,bH,not_or,Int.not_lt,Int.not_le,ge_iff_le,gt_iff_lt]at this
       omega
theorem ValR.zoneOK {m:Map}(V:ValR m){z:Zone}(hz:z∈m.Zones):ZoneOK m z:=by
  obtain ⟨i,hi,rfl⟩:=List.mem_iff_getElem.1 hz
  have:=firstE_none.1 V.zoneE i _ (lH hi)
  exact eG this
theorem ZoneOK.lane {m:Map}{z:Zone}(O:ZoneOK m z){p:Part}(hp:p∈z.Parts):0≤p.Lane_∧p.Lane_<m.Lanes.length:=Pn O.rise p.Lane_ (List.mem_map.2 ⟨p,hp,rfl⟩)
theorem gD {m:Map}{k:Int}(h0:0≤k)(h1:k<m.Zones.length): ∃z,m.Zones[k.toNat]? =some z∧B7 m.Zones k=some z:=by
  have hlt:k.toNat<m.Zones.length:=by omega
  refine ⟨m.Zones[k.toNat],lH hlt,?_⟩
  unfold B7
  rw [bL h0,lH hlt]
theorem ME (l:List Int)(hl:l.length≤1000000):Ss l l=some true:=by
  unfold Ss
  rw [ZY l (fun _=>false) false (fun i a h=>by
   have hi:=H6 h
   unfold Mw
   rw [K6 hi,C8 h,G6 hi (by omega)]
   simp) (by unfold Mw;rw [J2];rfl)]
  simp [thenS]
theorem oR:Ln=some true:=law04_awake_le _ (by decide+kernel)
theorem Tc (n:Int){m:Int}(hm:0<m):0≤n % m∧n % m<m:=⟨Int.emod_nonneg n (by omega),wL n hm⟩
theorem iW {n m:Int}(hm:0<m):n % m=if n.tmod m<0 then n.tmod m+m else n.tmod m:=by
  have a:=Int.emod_nonneg n (show m≠0 by omega)
  have b:=wL n hm
  rw [Int.tmod_eq_emod]
  by_cases q:0≤n∨m ∣ n
  ·rw [bL q,bM (by omega)];omega
  ·rw [bM q]
   have:n % m≠0:=fun e=>q (.inr (Int.dvd_of_emod_eq_zero e))
   rw [bL (by omega)];omega
theorem eH {n m:Int}(hm:0<m)(hm2:m≤9223372036854775807):LQ n m=some (n % m):=by
  have h1:=iW (n:=n) hm
  have a:=Tc n hm
  unfold LQ HK
  rw [bM (by omega),lB]
  by_cases q:n.tmod m<0
  ·rw [bL q]at h1
   rw [bF q,bJ,G9 (by omega),← h1]
  ·rw [bM q]at h1
   rw [bG q,bK,← h1]
def XL (kind lim:Int)(next:List Int)(a b c d:Int):Lane:=⟨kind,⟨[⟨a,b⟩,⟨c,d⟩]⟩,if kind=3 then 500 else 1500,lim,next⟩
theorem rU (kind lim:Int)(next:List Int)(a b c d:Int):Z8 kind lim next [a,b,c,d]=some (XL kind lim next a b c d):=by
  unfold Z8 XL
  rw [L4 (s':=(2,[⟨a,b⟩])) rfl,L4 (s':=(4,[⟨a,b⟩,⟨c,d⟩])) rfl,D0 (t:= [⟨a,b⟩,⟨c,d⟩]) rfl,lB]
  by_cases h:kind=3
  ·rw [bL h,h];rfl
  ·rw [bM h,show (kind==3)=false by simpa using h];rfl
def vO (off a b:Int):Signal:=⟨off,[⟨12,[a]⟩,⟨5,[]⟩,⟨9,[b]⟩,⟨4,[]⟩]⟩
/-- The numbers of which a map of the kit is made. -/
structure Par where
  lim:Int
  r:Int
  o:Int
  o':Int
  ver:Int
  wk:List Work
structure ParOK (p:Par):Prop where
  lim:p.lim=1500∨p.lim=600∨p.lim=1000∨p.lim=300
  r:p.r=0∨p.r=1
  o:0≤p.o∧p.o<31
  o':0≤p.o'∧p.o'<31
  ver:0≤p.ver∧p.ver<5
  wk:p.wk= []∨∃b l,0≤b∧b<40∧0≤l∧l≤400∧p.wk= [⟨0,10000,15000,b,b+20,l⟩]
def Qy (k:Nat)(lim:Int):List Lane:=match k with
  |0=> [XL 1 lim [] 0 0 60000 0]
  |1|2=> [XL 1 lim [] 0 0 50000 0,XL 1 1500 [] 30000 (-20000) 30000 20000]
  |3=> [XL 1 lim [1,2] 0 0 30000 0,XL 1 1500 [] 30000 0 60000 0,XL 1 800 [] 30000 0 54000 10000]
  |4=> [XL 1 lim [2] 0 0 30000 0,XL 1 1500 [2] 6000 (-10000) 30000 0,XL 1 1500 [] 30000 0 60000 0]
  |5=> [XL 1 lim [1] 0 0 20000 0,XL 1 lim [] 20000 0 50000 0,XL 3 200 [] 35000 (-8000) 35000 8000]
  |_=> [XL 1 lim [1,2] 0 0 20000 0,XL 1 1500 [] 20000 0 50000 0,XL 1 1000 [] 20000 0 44000 10000,XL 2 700 [] 36000 (-12000) 36000 18000]
def JV (k:Nat)(r:Int):List Zone:=match k with
  |1=> [⟨[⟨0,28000,32000,r⟩,⟨1,18000,22000,2 - 2*r⟩],0⟩]
  |2=> [⟨[⟨0,28000,32000,r⟩,⟨1,18000,22000,2 - 2*r⟩],1⟩]
  |4=> [⟨[⟨0,25000,30000,1⟩,⟨1,20000,26000,0⟩,⟨2,0,5000,0⟩],0⟩]
  |5=> [⟨[⟨1,14000,16000,0⟩,⟨2,6000,10000,3⟩],0⟩]
  |6=> [⟨[⟨1,14000,18000,1⟩,⟨3,10000,14000,0⟩],0⟩,⟨[⟨2,14000,21000,1⟩,⟨3,14500,23000,0⟩],0⟩]
  |7=> [⟨[⟨1,14000,18000,1⟩,⟨3,10000,14000,0⟩],1⟩,⟨[⟨2,14000,21000,1⟩,⟨3,14500,23000,0⟩],2⟩]
  |_=> []
def BY (k:Nat)(o o':Int):List Signal:=match k with
  |2=> [vO o 0 1]
  |7=> [vO o 1 3,vO o' 2 3]
  |_=> []
def MF (k:Nat)(p:Par):Map:=⟨p.ver,Qy k p.lim,JV k p.r,BY k p.o p.o',p.wk⟩
theorem eI (n:Int): ∃k p,k<8∧ParOK p∧GZ n=some (MF k p):=by
  obtain ⟨h0,h1⟩:=Tc n (show (0:Int)<16777216 by decide)
  unfold GZ
  rw [eH (by decide) (by decide),lB]
  generalize n % 16777216=v at h0 h1
  have t: ∀m:Int,0<m→v.tdiv m=v / m:=fun m hm=>by rw [wK h0]
  have u: ∀x m:Int,0≤x→x.tmod m=x % m:=fun x m hx=>by rw [Int.tmod_eq_emod_of_nonneg hx]
  have d: ∀m:Int,0<m→0≤v / m∧v / m<16777216:=fun m hm=>⟨Int.ediv_nonneg h0 (by omega),Int.lt_of_le_of_lt (Int.ediv_le_self m h0) h1⟩
  have W: ∀m:Int,0<m→C3 (v / m)=v / m:=fun m hm=>G9 (by have:=d m hm;omega)
  rw [t 7 (by decide),t 28 (by decide),t 56 (by decide),t 1736 (by decide),t 5208 (by decide),t 208320 (by decide)]
  rw [W 7 (by decide),W 28 (by decide),W 56 (by decide),W 1736 (by decide),W 5208 (by decide),W 208320 (by decide)]
  rw [u (v / 7) _ (d 7 (by decide)).1,u (v / 28) 2 (d 28 (by decide)).1,u (v / 28) 31 (d 28 (by decide)).1,u (v / 56) 31 (d 56 (by decide)).1,u (v / 56) 17 (d 56 (by decide)).1,u (v / 1736) _ (d 1736 (by decide)).1,u (v / 5208) _ (d 5208 (by decide)).1,u (v / 208320) _ (d 208320 (by decide)).1,u v _ h0,u (v / 28) 5 (d 28 (by decide)).1]
  have b1:=Tc (v / 7) (show (0:Int)<4 by decide)
  have b2:=Tc (v / 28) (show (0:Int)<2 by decide)
  have b3:=Tc (v / 28) (show (0:Int)<31 by decide)
  have b4:=Tc (v / 56) (show (0:Int)<31 by decide)
  have b5:=Tc (v / 56) (show (0:Int)<17 by decide)
  have b6:=Tc (v / 5208) (show (0:Int)<40 by decide)
  have b7:=Tc (v / 208320) (show (0:Int)<3 by decide)
  have b8:=Tc v (show (0:Int)<7 by decide)
  have b9:=Tc (v / 28) (show (0:Int)<5 by decide)
  generalize v / 7 % 4=q1 at b1
  generalize v / 28 % 2=q2 at b2
  generalize v / 28 % 31=q3 at b3
  generalize v / 56 % 31=q4 at b4
  generalize v / 56 % 17=q5 at b5
  generalize v / 5208 % 40=q6 at b6
  generalize v / 208320 % 3=q7 at b7
  generalize v % 7=q8 at b8
  generalize v / 28 % 5=q9 at b9
  have e1: ∃lim:Int,B7 ([1500,600,1000,300]:List Int) q1=some lim∧(lim=1500∨lim=600∨lim=1000∨lim=300):=by
    rcases (show q1=0∨q1=1∨q1=2∨q1=3 by omega)with rfl|rfl|rfl|rfl
    ·exact ⟨1500,rfl,by decide⟩
    ·exact ⟨600,rfl,by decide⟩
    ·exact ⟨1000,rfl,by decide⟩
    ·exact ⟨300,rfl,by decide⟩
  obtain ⟨lim,e1,hlim⟩:=e1
  rw [e1,lB]
  have ew: ∀(L:List Lane) (Z:List Zone) (S:List Signal),∃wk,(wk= []∨∃b l,0≤b∧b<40∧0≤l∧l≤400∧wk= [⟨0,10000,15000,b,b+20,l⟩])∧
   (cond (v / 1736 % 3==1) (some (Map.mk q9 L Z S [(Work.mk 0 10000 15000 q6 (C3 (q6+20)) (C3 (q7*200)))])) (some (Map.mk q9 L Z S [])))=some ⟨q9,L,Z,S,wk⟩:=by
    intro L Z S
    cases v / 1736 % 3==1
    ·exact ⟨[], .inl rfl,rfl⟩
    ·exact ⟨[⟨0,10000,15000,q6,q6+20,q7*200⟩], .inr ⟨q6,q7*200,by omega,by omega,by omega,by omega,rfl⟩,by rw [G9 (by omega),G9 (by omega)];rfl⟩
  have er:C3 (2 - C3 (2*q2))=2 - 2*q2:=by rw [G9 (n:=2*q2) (by omega),G9 (by omega)]
  rw [er]
  simp only [rU,lB]
  have fin: ∀(k:Nat) (o o':Int) (L:List Lane) (Z:List Zone) (S:List Signal),k<8→0≤o∧o<31→0≤o'∧o'<31→L=Qy k lim→Z=JV k q2→S=BY k o o'→∃k p,k<8∧ParOK p∧(cond (v / 1736 % 3==1) (some (Map.mk q9 L Z S [(Work.mk 0 10000 15000 q6 (C3 (q6+20)) (C3 (q7*200)))])) (some (Map.mk q9 L Z S [])))=some (MF k p):=by
    intro k o o' L Z S hk h1 h2 e1 e2 e3
    obtain ⟨wk,w1,w2⟩:=ew L Z S
    subst e1 e2 e3
    exact ⟨k,⟨lim,q2,o,o',q9,wk⟩,hk,⟨hlim,by dsimp only;omega,h1,h2,b9,w1⟩,w2⟩
  rcases (show q8=0∨q8=1∨q8=2∨q8=3∨q8=4∨q8=5∨q8=6 by omega)with rfl|rfl|rfl|rfl|rfl|rfl|rfl
  ·exact fin 0 0 0 _ _ _ (by decide) (by decide) (by decide) rfl rfl rfl
  ·exact fin 1 0 0 _ _ _ (by decide) (by decide) (by decide) rfl rfl rfl
  ·exact fin 2 q3 0 _ _ _ (by decide) b3 (by decide) rfl rfl rfl
  ·exact fin 3 0 0 _ _ _ (by decide) (by decide) (by decide) rfl rfl rfl
  ·exact fin 4 0 0 _ _ _ (by decide) (by decide) (by decide) rfl rfl rfl
  ·exact fin 5 0 0 _ _ _ (by decide) (by decide) (by decide) rfl rfl rfl
  ·rcases (show q2=0∨q2=1 by omega)with rfl|rfl
   ·exact fin 6 0 0 _ _ _ (by decide) (by decide) (by decide) rfl rfl rfl
   ·exact fin 7 q4 q5 _ _ _ (by decide) b4 (by omega) rfl rfl rfl
theorem iX:((List.range 8).all fun k=>([1500,600,1000,300]:List Int).all fun lim=>([0,1]:List Int).all fun r=>Pl (MF k ⟨lim,r,0,0,0,[]⟩)==some 0)=true:=by decide+kernel
theorem aA (k:Nat)(lim:Int):(Qy k lim).length≤4∧∀l∈Qy k lim,l.Curve_.Pts.length=2∧l.Next.length≤2:=by
  unfold Qy
  split<;>simp [XL]
theorem OI (k:Nat)(r:Int):(JV k r).length≤2∧∀z∈JV k r,z.Parts.length≤3:=by
  unfold JV
  split<;>simp
theorem eJ (k:Nat)(o o':Int):(BY k o o').length≤2∧∀s∈BY k o o',s.Phases.length=4∧∀p∈s.Phases,p.Green.length≤1:=by
  unfold BY
  split<;>simp [vO]
theorem gE {m:Map}{k:Nat}{lim r o o':Int}(h1:m.Lanes=Qy k lim)(h2:m.Zones=JV k r)(h3:m.Signals=BY k o o')(h4:m.Works.length≤1):BearM m:=by
  obtain ⟨a1,a2⟩:=aA k lim
  obtain ⟨b1,b2⟩:=OI k r
  obtain ⟨c1,c2⟩:=eJ k o o'
  refine ⟨⟨by rw [h1];omega,fun l hl=> ?_⟩,⟨by rw [h3];omega,fun s hs=>⟨?_,fun p hp=> ?_⟩⟩,⟨by rw [h2];omega,fun z hz=> ?_⟩,⟨by omega⟩⟩
  ·rw [h1]at hl;have:=a2 l hl;omega
  ·rw [h3]at hs;have:=(c2 s hs).1;omega
  ·rw [h3]at hs;have:=(c2 s hs).2 p hp;omega
  ·rw [h2]at hz;have:=b2 z hz;omega
theorem ParOK.wk1 {p:Par}(h:ParOK p):p.wk.length≤1:=by
  rcases h.wk with e|⟨b,l,_,_,_,_,e⟩<;>rw [e]<;>simp
theorem oT {k:Nat}{p:Par}(h:ParOK p):BearM (MF k p):=gE rfl rfl rfl h.wk1
theorem wT {k:Nat}{p:Par}(hk:k<8)(h:ParOK p):ValR (MF k ⟨p.lim,p.r,0,0,0,[]⟩):=by
  have h1:=lX.1 iX k (List.mem_range.2 hk)
  have h2:=lX.1 h1 p.lim (by have:=h.lim;simp;omega)
  have h3:=lX.1 h2 p.r (by have:=h.r;simp;omega)
  have h4:=roads_Check_le _ _ (eq_of_beq h3)
  have h5:=Tb (m:=MF k ⟨p.lim,p.r,0,0,0,[]⟩) (gE rfl rfl rfl (wC 1))
  rw [h4]at h5
  exact chkR_zero.1 (lD h5).symm
/-- Another version, other offsets, other works. -/
theorem ValR.change {L:List Lane}{Z:List Zone}{S S':List Signal}{W W':List Work}{v v':Int}(V:ValR ⟨v,L,Z,S,W⟩)(hv:0≤v'∧v'≤1099511627776)(hl:S'.length=S.length)(hs: ∀s∈S',World.signalE ⟨v,L,Z,S,W⟩ 0 s=none)(hw:W'.length≤8)(hw': ∀w∈W',World.workE ⟨v,L,Z,S,W⟩ 0 w=none):ValR ⟨v',L,Z,S',W'⟩:=by
  refine ⟨hv,V.pos,V.lanes,V.zones,by show S'.length≤4;rw [hl];exact V.signals,hw,V.laneE,V.nextE,?_,?_,?_⟩
  ·rw [firstE_none]
   intro j a ha
   exact hs a (lG ha)
  ·have:=V.zoneE
   rw [firstE_none]at this ⊢
   intro j a ha
   have:=this j a ha
   unfold World.zoneE at this ⊢
   dsimp only at this ⊢
   rw [hl]
   exact this
  ·rw [firstE_none]
   intro j a ha
   exact hw' a (lG ha)
theorem iY (k:Nat)(o o' a a':Int):(BY k o o').length=(BY k a a').length:=by unfold BY;split<;>rfl
theorem oU {k:Nat}{o o':Int}(h:0≤o∧o<31)(h':0≤o'∧o'<31){m:Map}(hm:m.Lanes.length=(Qy k 0).length): ∀s∈BY k o o',signalE m 0 s=none:=by
  have key: ∀(off a b:Int),0≤off∧off<31→0≤a∧a<m.Lanes.length→0≤b∧b<m.Lanes.length→signalE m 0 (vO off a b)=none:=by
    intro off a b h1 h2 h3
    unfold signalE vO
    simp only [lK,lM]
    rw [bM (by decide),bM (by decide),bM (by simp [CC];omega),bM (by simp [CC]),bM]
    simp only [List.any_cons,List.any_nil,Fk,Bool.and_true,Bool.or_false,bR,bT,bQ,Bool.not_eq_true',not_or,Bool.not_eq_false,bP,bH]
    omega
  intro s hs
  unfold BY at hs
  split at hs
  ·rw [show (Qy 2 0).length=2 from rfl]at hm
   simp only [bE]at hs
   subst hs
   exact key _ _ _ h (by omega) (by omega)
  ·rw [show (Qy 7 0).length=4 from rfl]at hm
   simp only [lT,List.not_mem_nil,or_false]at hs
   rcases hs with rfl|rfl
   ·exact key _ _ _ h (by omega) (by omega)
   ·exact key _ _ _ h' (by omega) (by omega)
  ·cases hs
theorem eK (k:Nat)(lim:Int):(Qy k lim).length=(Qy k 0).length:=by unfold Qy;split<;>rfl
theorem HD (c:Int)(h:Uq ⟨[⟨0,0⟩,⟨c,0⟩]⟩=some c):Xf ⟨[⟨0,0⟩,⟨c,0⟩]⟩=c:=by
  have h1:=curve_Length_le _ _ h
  rw [DT _ (by simp)]at h1
  exact lD h1
/-- The first lane of a map of the kit: a road, long enough. -/
theorem OJ (k:Nat)(lim:Int): ∃l,(Qy k lim)[0]? =some l∧l.Kind=1∧l.Limit=lim∧20000≤Xf l.Curve_∧Xf l.Curve_≤60000:=by
  have e6:=HD 60000 (by decide+kernel)
  have e5:=HD 50000 (by decide+kernel)
  have e3:=HD 30000 (by decide+kernel)
  have e2:=HD 20000 (by decide+kernel)
  unfold Qy
  split
  ·exact ⟨_,rfl,rfl,rfl,by show 20000≤Xf ⟨[⟨0,0⟩,⟨60000,0⟩]⟩∧Xf ⟨[⟨0,0⟩,⟨60000,0⟩]⟩≤60000;rw [e6];decide⟩
  ·exact ⟨_,rfl,rfl,rfl,by show 20000≤Xf ⟨[⟨0,0⟩,⟨50000,0⟩]⟩∧Xf ⟨[⟨0,0⟩,⟨50000,0⟩]⟩≤60000;rw [e5];decide⟩
  ·exact ⟨_,rfl,rfl,rfl,by show 20000≤Xf ⟨[⟨0,0⟩,⟨50000,0⟩]⟩∧Xf ⟨[⟨0,0⟩,⟨50000,0⟩]⟩≤60000;rw [e5];decide⟩
  ·exact ⟨_,rfl,rfl,rfl,by show 20000≤Xf ⟨[⟨0,0⟩,⟨30000,0⟩]⟩∧Xf ⟨[⟨0,0⟩,⟨30000,0⟩]⟩≤60000;rw [e3];decide⟩
  ·exact ⟨_,rfl,rfl,rfl,by show 20000≤Xf ⟨[⟨0,0⟩,⟨30000,0⟩]⟩∧Xf ⟨[⟨0,0⟩,⟨30000,0⟩]⟩≤60000;rw [e3];decide⟩
  ·exact ⟨_,rfl,rfl,rfl,by show 20000≤Xf ⟨[⟨0,0⟩,⟨20000,0⟩]⟩∧Xf ⟨[⟨0,0⟩,⟨20000,0⟩]⟩≤60000;rw [e2];decide⟩
  ·exact ⟨_,rfl,rfl,rfl,by show 20000≤Xf ⟨[⟨0,0⟩,⟨20000,0⟩]⟩∧Xf ⟨[⟨0,0⟩,⟨20000,0⟩]⟩≤60000;rw [e2];decide⟩
theorem wU {m:Map}{l:Lane}(hl:m.Lanes[0]? =some l)(hk:l.Kind=1){w:Work}(h:w.Lane_=0∧0≤w.From∧w.From≤w.To∧w.To≤Xf l.Curve_∧0≤w.Begin∧w.Begin<w.End∧w.End≤1099511627776∧0≤w.Limit∧w.Limit≤2000):workE m 0 w=none:=by
  obtain ⟨h1,h2,h3,h4,h5,h6,h7,h8,h9⟩:=h
  have hlen:=H6 hl
  unfold workE T4
  rw [h1,show ((0:Int).toNat)=0 from rfl,hl,bM (by omega),bM]
  simp only [lF,Option.getD_some,Option.get!_some,hk,CC,Cg,if_true,bQ,bH,Bool.not_eq_true',not_or,Bool.not_eq_false,bP]
  omega
/-- A map of the kit is valid, with such works. -/
theorem oV {k:Nat}{p:Par}(hk:k<8)(h:ParOK p){W:List Work}(hw:W.length≤8)(hW: ∀w∈W,w.Lane_=0∧0≤w.From∧w.From≤w.To∧w.To≤T4 (MF k p) 0∧0≤w.Begin∧w.Begin<w.End∧w.End≤1099511627776∧0≤w.Limit∧w.Limit≤2000):ValR ⟨p.ver,Qy k p.lim,JV k p.r,BY k p.o p.o',W⟩:=by
  have V:=wT hk h
  obtain ⟨l,l1,l2,l3,l4,l5⟩:=OJ k p.lim
  have hv:=h.ver
  refine ValR.change (v:=0) (S:=BY k 0 0) (W:= []) V (by omega) (iY k _ _ _ _) (fun s hs=>oU h.o h.o' (by exact eK k p.lim) s hs) hw (fun w hwm=> ?_)
  obtain ⟨a1,a2,a3,a4,a5,a6,a7,a8,a9⟩:=hW w hwm
  refine wU (l:=l) l1 l2 ⟨a1,a2,a3,?_,a5,a6,a7,a8,a9⟩
  have:T4 (MF k p) 0=Xf l.Curve_:=by
    unfold T4 MF
    dsimp only
    rw [show ((0:Int).toNat)=0 from rfl,l1];rfl
  omega
theorem iZ (k:Nat)(p:Par):20000≤T4 (MF k p) 0∧T4 (MF k p) 0≤60000:=by
  obtain ⟨l,l1,l2,l3,l4,l5⟩:=OJ k p.lim
  unfold T4 MF
  dsimp only
  rw [show ((0:Int).toNat)=0 from rfl,l1]
  exact ⟨l4,l5⟩
theorem rV {k:Nat}{p:Par}(hk:k<8)(h:ParOK p):ValR (MF k p):=by
  have hl:=iZ k p
  refine oV hk h (wG h.wk1 (by decide)) (fun w hw=> ?_)
  rcases h.wk with e|⟨b,l,h1,h2,h3,h4,e⟩
  ·rw [e]at hw;cases hw
  ·rw [e]at hw
   simp only [bE]at hw
   subst hw
   dsimp only
   omega
/-! ### Limits -/
end Go.Abs.World
namespace Go.Abs
theorem Kz {α β:Type}{g:Nat→α→Option β}{x:β}: ∀{l:List α} {i:Nat},x∈Hm g i l↔∃j a,l[j]? =some a∧g (i+j) a=some x
  | [],i=>by simp [Hm]
  |a::r,i=>by
   unfold Hm
   have ih:=Kz (g:=g) (x:=x) (l:=r) (i:=i+1)
   have sh:(∃j b,(a::r)[j]? =some b∧g (i+j) b=some x)↔g i a=some x∨∃j b,r[j]? =some b∧g (i+1+j) b=some x:=by
     constructor
     ·rintro ⟨j,b,h1,h2⟩
      cases j with
      |zero=>simp at h1;subst h1;exact .inl h2
      |succ j=>exact .inr ⟨j,b,by simpa using h1,by rwa [show i+1+j=i+ (j+1) by omega]⟩
     ·rintro (h|⟨j,b,h1,h2⟩)
      ·exact ⟨0,a,rfl,h⟩
      ·exact ⟨j+1,b,by simpa using h1,by rwa [show i+ (j+1)=i+1+j by omega]⟩
   rw [sh,← ih]
   cases h:g i a with
   |none=>simp
   |some b=>simp [eq_comm]
end Go.Abs
namespace Go.Abs.World
open Go Go.Abs
/-! ### How long lanes are -/
theorem oW: ∀(l:List Int) (s:Int),(∀x∈l,0≤x∧x≤1048576)→0≤s→s+1048576*l.length≤9000000000000000000→s≤JS s l∧JS s l≤s+1048576*l.length
  | [],s,_,_,_=>by simp [JS]
  |a::r,s,h,h0,h1=>by
   have ha:=h a (by simp)
   simp only [lK]at h1 ⊢
   rw [JS,G9 (by omega)]
   have:=oW r (s+a) (fun x hx=>h x (by simp [hx])) (by omega) (by omega)
   omega
theorem oX: ∀{l:List Spot} {last:Option CurveVector},Good last l→∀x∈HO l,1000≤x∧x≤1048576:=by
  intro l last h
  induction h with
  |one last p=>intro x hx;simp [HO]at hx
  |cons last p q r h1 h2 h3 h4 h ih=>
   intro x hx
   rw [BU,lT]at hx
   rcases hx with rfl|hx
   ·exact ⟨h2,h3⟩
   ·exact ih x hx
theorem rW {c:Curve}(h:Fs c.Pts=0):1000≤Xf c∧Xf c≤16777216:=by
  have V:=checkM_zero.1 h
  unfold Xf Qn
  rw [bL h]
  have h16:=V.most
  have h2:=V.two
  have hm:=oX V.good
  cases hp:c.Pts with
  |nil=>rw [hp]at h2;simp at h2
  |cons p r=>
   rw [hp]at hm h16 h2
   cases r with
   |nil=>simp at h2
   |cons q r=>
    simp only [lK]at h16
    rw [BU]at hm ⊢
    have ha:=hm _ (List.mem_cons_self)
    have hl:=AG r q
    rw [JS,G9 (by omega),Int.zero_add]
    have:=oW (HO (q::r)) (rt (O2 (V9 p q) (V9 p q))) (fun x hx=>by have:=hm x (List.mem_cons_of_mem _ hx);omega) (by omega) (by rw [hl];omega)
    rw [hl]at this
    omega
theorem ValR.long {m:Map}(V:ValR m){k:Int}(h0:0≤k)(h1:k<m.Lanes.length):1000≤T4 m k∧T4 m k≤16777216:=by
  obtain ⟨l,e1,e2⟩:=DC h0 h1
  unfold T4
  rw [e1]
  exact rW (V.laneOK e1).curve
/-! ### Routes -/
def Wo (m:Map):Int→List Int→Bool
  |_,[]=>true
  |a,b::r=>(nextOf m a.toNat).contains b&&Wo m b r
noncomputable def R7 (m:Map)(r:List Int):Int:=
  if BX m≠0 then BX m
  else match r with
    | []=>13
    |a::t=>if 7<t.length∨a<0∨(m.Lanes.length:Int)≤a∨Ur m a≠ []∨Wo m a t=false then 13 else 0
/-- What a route is. -/
structure RouteOK (m:Map)(a:Int)(t:List Int):Prop where
  val:ValR m
  most:t.length≤7
  first:0≤a∧a<m.Lanes.length
  source:Ur m a= []
  chain:Wo m a t=true
theorem chkRoute_zero {m:Map}{r:List Int}:R7 m r=0↔∃a t,r=a::t∧RouteOK m a t:=by
  unfold R7
  constructor
  ·intro h
   split at h
   ·exact absurd h (by assumption)
   ·rename_i h1
    have V:=chkR_zero.1 (Decidable.not_not.1 h1)
    split at h
    ·cases h
    ·rename_i a t
     split at h
     ·cases h
     ·rename_i h2
      exact ⟨a,t,rfl,V,by omega,by omega,Decidable.not_not.1 fun q=>h2 (.inr (.inr (.inr (.inl q)))),by
        cases q:Wo m a t with
        |true=>rfl
        |false=>exact absurd (.inr (.inr (.inr (.inr q)))) h2⟩
  ·rintro ⟨a,t,rfl,V,h1,h2,h3,h4⟩
   rw [bM (by rw [chkR_zero.2 V];simp)]
   dsimp only
   rw [bM]
   rintro (q|q|q|q|q)
   ·omega
   ·omega
   ·omega
   ·exact q h3
   ·rw [h4]at q;cases q
theorem UZ {m:Map}(V:ValR m): ∀{t:List Int} {a:Int},Wo m a t=true→0≤a→∀x∈t,a<x∧x<m.Lanes.length
  | [],_,_,_,x,hx=>by cases hx
  |b::r,a,h,h0,x,hx=>by
   rw [Wo,bP,List.contains_iff_mem]at h
   have hb:=V.nextOf h.1
   rcases lT.1 hx with rfl|hx
   ·omega
   ·have:=UZ V h.2 (by omega) x hx;omega
theorem RouteOK.mem {m:Map}{a:Int}{t:List Int}(R:RouteOK m a t){x:Int}(hx:x∈a::t):0≤x∧x<m.Lanes.length:=by
  have:=R.first
  rcases lT.1 hx with rfl|hx
  ·exact this
  ·have:=UZ R.val R.chain (by omega) x hx;omega
theorem eL {m:Map}(B:BearM m)(V:ValR m)(l:List Int)(hl:l.length≤1000000): ∀(r:List Int) (i:Nat) (a:Int),l.drop i=r→i≤l.length→0≤a→a<m.Lanes.length→loop (T3 m l) (a,(i:Int))=some (if Wo m a r=true then .inl ()else .inr 13):=by
  intro r
  induction r with
  |nil=>
   intro i a hi hil h0 h1
   have:=O6 hi
   obtain rfl:i=l.length:=by omega
   refine D0 ?_
   unfold T3
   rw [J2];rfl
  |cons b r ih=>
   intro i a hi hil h0 h1
   have hlt:=N5 hi
   have hb:=Z3 hi
   obtain ⟨ln,e1,e2⟩:=DC h0 h1
   have hs:T3 m l (a,(i:Int))=some (if ln.Next.contains b=true then .go (b,((i+1:Nat):Int))else .out (.inr 13)):=by
     unfold T3
     dsimp only
     rw [K6 hlt,C8 hb,bJ,lB,e2,lB,GG _ (B.toBear.pts _ (lG e1)).2,lB,G6 hlt (by omega)]
     cases ln.Next.contains b<;>rfl
   have hn:nextOf m a.toNat=ln.Next:=by unfold nextOf;rw [e1];rfl
   rw [Wo,hn]
   cases q:ln.Next.contains b
   ·rw [q]at hs;rw [D0 hs];rfl
   ·rw [q]at hs
    have hbm:=V.next e1 (List.contains_iff_mem.1 q)
    rw [L4 hs,ih (i+1) b (L0 hi) (by omega) (by omega) (by omega),bN]
theorem IN {m:Map}(B:BearM m)(r:List Int)(hr:r.length≤1000000):Bk m r=some (R7 m r):=by
  unfold Bk R7
  rw [Tb B,lB]
  by_cases q:BX m=0
  ·have V:=chkR_zero.1 q
   rw [bM (by simpa using q),show (BX m !=0)=false by simpa using q,bK]
   cases r with
   |nil=>rfl
   |cons a t=>
    dsimp only
    simp only [lK]at hr ⊢
    by_cases h8:7<t.length
    ·rw [bL (.inl h8),show ((((t.length+1:Nat):Int)==0)||(decide (((t.length+1:Nat):Int)>8)))=true by simp;omega];rfl
    ·rw [show ((((t.length+1:Nat):Int)==0)||(decide (((t.length+1:Nat):Int)>8)))=false by simp;omega]
     rw [show B7 (a::t) 0=some a from rfl]
     simp only [bS,bJ,lB,bT]
     by_cases h0:a<0
     ·rw [bL (.inr (.inl h0)),bF h0];rfl
     ·rw [bG h0]
      simp only [bS,bJ,lB,bT]
      by_cases h1:(m.Lanes.length:Int)≤a
      ·rw [bL (.inr (.inr (.inl h1))),show decide (a≥(m.Lanes.length:Int))=true from bF h1];rfl
      ·rw [show decide (a≥(m.Lanes.length:Int))=false from bG (by omega)]
       simp only [bS,bJ,bT]
       rw [lB,iV B,lB]
       by_cases hb:Ur m a= []
       ·rw [hb]
        have e1:EZ (a::t) 1 ((t.length+1:Nat):Int)=some t:=by
          unfold EZ
          rw [bL (by simp;omega)]
          simp
        rw [e1,show decide ((([]:List Int).length:Int)>0)=false from rfl,bK,lB]
        have:=eL B V t (by omega) t 0 a rfl (by omega) (by omega) (by omega)
        rw [show ((0:Nat):Int)=0 from rfl]at this
        rw [this]
        by_cases hc:Wo m a t=true
        ·rw [bL hc,bM (by rw [hc];simp;omega)];rfl
        ·rw [bM hc,bL (.inr (.inr (.inr (.inr (by simpa using hc)))))];rfl
       ·rw [bL (.inr (.inr (.inr (.inl hb)))),show decide (((Ur m a).length:Int)>0)=true from bF (by have:=List.length_pos_iff.2 hb;omega)];rfl
  ·rw [bL q,show (BX m !=0)=true by simpa using q];rfl
/-- Where the lanes of a route begin. -/
noncomputable def R8 (m:Map):Int→List Int→List Int
  |_,[]=> []
  |s,a::r=>s::R8 m (s+T4 m a) r
noncomputable def Ho (m:Map):Int→List Int→Int
  |s,[]=>s
  |s,a::r=>Ho m (s+T4 m a) r
theorem Vo (m:Map): ∀(r:List Int) (s:Int),(R8 m s r).length=r.length
  | [],_=>rfl
  |_::r,_=>by rw [R8,lK,Vo m r,lK]
noncomputable def Et (m:Map)(r:List Int):RoadsWay:=if R7 m r=0 then ⟨m,r,R8 m 0 r,Ho m 0 r⟩else ⟨⟨0,[],[],[],[]⟩,[],[],0⟩
theorem Xn {m:Map}(B:BearM m)(r:List Int)(hr:r.length≤1000000):Cx m r=some (Et m r):=by
  unfold Cx Et
  rw [IN B r hr,lB]
  by_cases q:R7 m r=0
  ·rw [bL q,q]
   obtain ⟨a,t,rfl,R⟩:=chkRoute_zero.1 q
   have key: ∀(l:List Int) (i:Nat) (s:Int) (st:List Int),(a::t).drop i=l→i≤(a::t).length→0≤s→s≤16777216*i→st.length=i→loop (Bi m (a::t)) ((i:Int),(st,s))=some (st++R8 m s l,Ho m s l):=by
     intro l
     induction l with
     |nil=>
      intro i s st hi hil _ _ _
      have:=O6 hi
      obtain rfl:i=(a::t).length:=by omega
      refine D0 ?_
      unfold Bi
      rw [J2,R8,Ho,lO];rfl
     |cons x l ih=>
      intro i s st hi hil h0 h1 h2
      have hlt:=N5 hi
      have hx:=Z3 hi
      have hm:=R.mem (lG hx)
      have hl:=R.val.long hm.1 hm.2
      have hm7:=R.most
      simp only [lK]at hlt
      rw [L4 (s':=(((i+1:Nat):Int),(st++ [s],s+T4 m x)))]
      ·rw [ih (i+1) _ _ (L0 hi) (by simp;omega) (by omega) (by omega) (by simp [h2]),R8,Ho,lN];rfl
      ·unfold Bi
       dsimp only
       rw [K6 (by simpa using hlt),C8 hx,bJ,lB,Lu (by simp;omega),lB,PQ B.toBear hm.1 hm.2,lB,G6 hlt (by omega),cA (by omega)]
   have:=key (a::t) 0 0 [] rfl (by omega) (by decide) (by decide) rfl
   rw [show ((0:Nat):Int)=0 from rfl]at this
   show (loop (Bi m (a::t)) (0,([],0))).bind _=_
   rw [this];rfl
  ·rw [bM q,show (R7 m r !=0)=true by simpa using q];rfl
/-- The place in a route at which it enters a zone. -/
noncomputable def Hy (m:Map)(r:List Int)(k:Int):Int:=match m.Zones[k.toNat]? with
  |some z=>if 0≤k∧R7 m r=0 then MB (fun l=>(Oz z l).2) r else -1
  |none=> -1
theorem oY {m:Map}(B:BearM m)(r:List Int)(hr:r.length≤1000000)(k:Int):Lk m r k=some (Hy m r k):=by
  unfold Lk Hy
  rw [Xn B r hr,lB]
  by_cases h:k<0∨(m.Zones.length:Int)≤k
  ·rw [show ((decide (k<0))||(decide (k≥(m.Zones.length:Int))))=true by simpa using h,bJ]
   cases hz:m.Zones[k.toNat]? with
   |none=>rfl
   |some z=>
    have:=H6 hz
    dsimp only
    rw [bM (fun x=>by have:=x.1;omega)]
  ·obtain ⟨z,z1,z2⟩:=gD (m:=m) (k:=k) (by omega) (by omega)
   rw [show ((decide (k<0))||(decide (k≥(m.Zones.length:Int))))=false by rw [bU];simpa using h,bK,z1]
   dsimp only
   have hp:=B.toBearZ.parts z (lG z1)
   have key: ∀l:List Int,l.length≤1000000→J5 l m k=some (MB (fun l=>(Oz z l).2) l):=by
     intro l hl
     unfold J5
     rw [Vn l (fun l=>(Oz z l).2) (by omega) (fun i a h=>by
      have hi:=H6 h
      unfold I5 Da
      rw [K6 hi,C8 h,bJ,lB,z2,lB,rT hp,lB,lB]
      cases (Oz z a).2<;>rfl) (by unfold I5;rw [J2];rfl)]
   unfold Et
   by_cases q:R7 m r=0
   ·rw [bL q,bL ⟨by omega,q⟩,key r hr];rfl
   ·rw [bM q,bM (fun x=>q x.2),key [] (by simp)];rfl
end Go.Abs.World
/-! Lists that are sorted, and how an insertion sort makes them. -/
namespace Go.Abs
open Go
/-- What a comparison must satisfy. -/
structure LtOK {α:Type}(lt:α→α→Bool):Prop where
  asym: ∀a b,lt a b=true→lt b a=false
  trans: ∀a b c,lt b a=false→lt c b=false→lt c a=false
def Srt {α:Type}(lt:α→α→Bool)(l:List α):Prop:=l.Pairwise fun a b=>lt b a=false
section
variable {α:Type}
theorem BZ (U V:List α)(x y:α)(n:Int)(h:n=(U.length:Int)):Kj (U++x::V) n y=U++y::V:=by
  subst h
  simp [Kj]
theorem Qg (U V:List α)(x:α)(n:Int)(h:n=(U.length:Int)):B7 (U++x::V) n=some x:=by
  subst h
  simp [B7]
theorem eM {Q:List α}(h:Q≠ []): ∃Q' q,Q=Q'++ [q]:=⟨Q.dropLast,Q.getLast h,(List.dropLast_concat_getLast h).symm⟩
variable {lt:α→α→Bool}
theorem Srt.ins (L:LtOK lt){Q1 Q2:List α}{x:α}(h:Srt lt (Q1++Q2))(h1: ∀q∈Q1,lt x q=false)(h2: ∀q∈Q2,lt x q=true):Srt lt (Q1++x::Q2):=by
  unfold Srt at h ⊢
  rw [bA]at h ⊢
  refine ⟨h.1,l9.2 ⟨fun b hb=>L.asym _ _ (h2 b hb),h.2.1⟩,fun a ha b hb=> ?_⟩
  rcases lT.1 hb with rfl|hb
  ·exact h1 a ha
  ·exact h.2.2 a ha b hb
theorem LtOK.irr (L:LtOK lt)(a:α):lt a a=false:=by
  cases h:lt a a with
  |false=>rfl
  |true=>rw [L.asym a a h]at h;cases h
theorem Srt.get (L:LtOK lt){l:List α}(h:Srt lt l){i j:Nat}(hij:i≤j)(hj:j<l.length):lt l[j] l[i]=false:=by
  rcases Nat.lt_or_eq_of_le hij with h1|h1
  ·exact bB.1 h i j (by omega) hj h1
  ·subst h1;exact L.irr _
/-- The first place from which a test fails. -/
theorem rX {F:Int×Int→Option (Stp (Int×Int) Int)}(Q:Nat→Bool)(lo hi:Nat)(hle:lo≤hi)
    (hF: ∀x y:Nat,lo≤x→x<y→y≤hi→F ((x:Int),(y:Int))=some (if Q ((x+y) / 2)then .go ((((x+y) / 2+1:Nat):Int),(y:Int))else .go ((x:Int),(((x+y) / 2:Nat):Int))))
    (hstop: ∀x y:Nat,¬x<y→F ((x:Int),(y:Int))=some (.out (x:Int)))
    (mono: ∀c c',lo≤c→c≤c'→c'<hi→Q c'=true→Q c=true):
    ∃s:Nat,loop F ((lo:Int),(hi:Int))=some (s:Int)∧lo≤s∧s≤hi∧(∀c,lo≤c→c<s→Q c=true)∧∀c,s≤c→c<hi→Q c=false:=by
  have key: ∀(k x y:Nat),y - x≤k→lo≤x→x≤y→y≤hi→(∀c,lo≤c→c<x→Q c=true)→(∀c,y≤c→c<hi→Q c=false)→
   ∃s:Nat,loop F ((x:Int),(y:Int))=some (s:Int)∧lo≤s∧s≤hi∧(∀c,lo≤c→c<s→Q c=true)∧∀c,s≤c→c<hi→Q c=false:=by
    intro k
    induction k with
    |zero=>
     intro x y hk h1 h2 h3 h4 h5
     obtain rfl:x=y:=by omega
     exact ⟨x,D0 (hstop x x (by omega)),h1,h3,h4,h5⟩
    |succ k ih=>
     intro x y hk h1 h2 h3 h4 h5
     by_cases hxy:x<y
     ·have hf:=hF x y h1 hxy h3
      cases hq:Q ((x+y) / 2)with
      |true=>
       rw [hq,bL rfl]at hf
       obtain ⟨s,g1,g2⟩:=ih ((x+y) / 2+1) y (by omega) (by omega) (by omega) h3 (fun c hc1 hc2=>mono c ((x+y) / 2) hc1 (by omega) (by omega) hq) h5
       exact ⟨s,by rw [L4 hf];exact g1,g2⟩
      |false=>
       rw [hq,bM (by simp)]at hf
       obtain ⟨s,g1,g2⟩:=ih x ((x+y) / 2) (by omega) h1 (by omega) (by omega) h4 (fun c hc1 hc2=>by
         cases hc:Q c with
         |false=>rfl
         |true=>rw [mono ((x+y) / 2) c (by omega) hc1 hc2 hc]at hq;cases hq)
       exact ⟨s,by rw [L4 hf];exact g1,g2⟩
     ·obtain rfl:x=y:=by omega
      exact ⟨x,D0 (hstop x x (by omega)),h1,h3,h4,h5⟩
  exact key (hi - lo) lo hi (wB _) (wB _) hle (wB _) (fun c h1 h2=>absurd h2 (by omega)) (fun c h1 h2=>absurd h2 (by omega))
/-- The inner loop: an element goes down to its place. -/
theorem NK (L:LtOK lt){F:Int×List α→Option (Stp (Int×List α) (List α))}{P T:List α}(N:Nat)
    (hstop: ∀xs,F ((P.length:Int),xs)=some (.out xs))
    (hF: ∀(U V:List α) (q x:α),P.length≤U.length→(U++q::x::V).length=N→F (((U.length:Int)+1),U++q::x::V)=some (if lt x q then .go ((U.length:Int),U++x::q::V)else .out (U++q::x::V))) (x:α):
    ∀(n:Nat) (Q1 Q2:List α),Q1.length=n→Srt lt (Q1++Q2)→(∀q∈Q2,lt x q=true)→(P++Q1++x::Q2++T).length=N→
     ∃Q,loop F (((P.length+Q1.length:Nat):Int),P++Q1++x::Q2++T)=some (P++Q++T)∧Q.Perm (x::(Q1++Q2))∧Srt lt Q:=by
  intro n
  induction n with
  |zero=>
   intro Q1 Q2 hn hs hg hN
   obtain rfl:=List.length_eq_zero_iff.1 hn
   refine ⟨x::Q2,?_,by simp,?_⟩
   ·rw [D0 (by rw [lM,Nat.add_zero];exact hstop _)]
    simp
   ·exact hs.ins L (by simp) hg
  |succ n ih=>
   intro Q1 Q2 hn hs hg hN
   obtain ⟨Q',q,rfl⟩:=eM (Q:=Q1) (by rintro rfl;simp at hn)
   rw [lL,List.length_singleton]at hn
   have e1:P++ (Q'++ [q])++x::Q2++T=(P++Q')++q::x::(Q2++T):=by simp
   have e2:((P.length+ (Q'++ [q]).length:Nat):Int)=((P++Q').length:Int)+1:=by simp;omega
   have hF1:=hF (P++Q') (Q2++T) q x (by simp) (by rw [← e1];exact hN)
   by_cases hl:lt x q=true
   ·rw [bL hl]at hF1
    obtain ⟨Q,g1,g2,g3⟩:=ih Q' (q::Q2) (by omega) (by simpa using hs) (fun y hy=>by
      rcases lT.1 hy with rfl|hy
      ·exact hl
      ·exact hg y hy) (by rw [← hN];simp)
    refine ⟨Q,?_,g2.trans (by simp),g3⟩
    rw [e1,e2,L4 hF1,← g1]
    congr 1
    simp
   ·rw [bM hl]at hF1
    have hl':lt x q=false:=by simpa using hl
    refine ⟨Q'++ [q]++x::Q2,?_,?_,hs.ins L (fun y hy=> ?_) hg⟩
    ·rw [e1,e2,D0 hF1];simp
    ·have:=List.perm_middle (a:=x) (l₁:=Q'++ [q]) (l₂:=Q2);exact this
    ·rcases lS.1 hy with h|h
     ·have hq:lt q y=false:=by
        unfold Srt at hs
        rw [lN,bA]at hs
        exact hs.2.2 y h q (by simp)
      exact L.trans y q x hq hl'
     ·rw [bE.1 h];exact hl'
/-- The outer loop. -/
theorem VA {F:Int×List α→Option (Stp (Int×List α) (List α))}{P S:List α}(N:Nat)(b:Nat)
    (hend: ∀xs (i:Nat),b≤i→F ((i:Int),xs)=some (.out xs))
    (hF: ∀(Q R:List α) (x:α),(P++Q++x::R++S).length=N→P.length+Q.length<b→Srt lt Q→∃Q',F (((P.length+Q.length:Nat):Int),P++Q++x::R++S)=some (.go (((P.length+Q.length+1:Nat):Int),P++Q'++R++S))∧Q'.Perm (x::Q)∧Srt lt Q'):
    ∀(R Q:List α),(P++Q++R++S).length=N→P.length+Q.length+R.length=b→Srt lt Q→∃Q',loop F (((P.length+Q.length:Nat):Int),P++Q++R++S)=some (P++Q'++S)∧Q'.Perm (Q++R)∧Srt lt Q':=by
  intro R
  induction R with
  |nil=>
   intro Q hN hb hs
   refine ⟨Q,?_,by simp,hs⟩
   rw [D0 (hend _ _ (by simpa using Nat.le_of_eq hb.symm))]
   simp
  |cons x R ih=>
   intro Q hN hb hs
   rw [lK]at hb
   obtain ⟨Q',g1,g2,g3⟩:=hF Q R x hN (by omega) hs
   have hl:Q'.length=Q.length+1:=by rw [g2.length_eq];simp
   obtain ⟨Q2,k1,k2,k3⟩:=ih Q' (by rw [← hN];simp [hl];omega) (by omega) g3
   refine ⟨Q2,?_,k2.trans ((g2.append_right R).trans ?_),k3⟩
   ·rw [L4 g1,← k1,hl]
    congr 1
   ·exact (List.perm_middle (a:=x) (l₁:=Q) (l₂:=R)).symm
end
end Go.Abs
/-! How the lists are sorted. -/
namespace Go.Abs.World
open Go Go.Abs
def gF (a b:Int):Bool:=decide (a<b)
theorem uX:LtOK gF:=⟨fun a b h=>by simp only [gF,bH,bW]at h ⊢;omega,fun a b c h1 h2=>by simp only [gF,bW]at h1 h2 ⊢;omega⟩
theorem rY (a b:Int):Fb a b=some (gF a b):=by
  have h: ∀x:Int,U2 x=some false:=fun x=>by unfold U2;simp
  unfold Fb
  rw [h,lB]
  rfl
theorem jA {α:Type}(U V:List α)(q x:α):U++q::x::V=(U++ [q])++x::V:=by simp
theorem eN (P T:List Int)(x:Int)(Q:List Int)(hs:Srt gF Q)(hN:(P++Q++x::T).length≤1000000):
    ∃Q',loop (F6 (P.length:Int)) (((P.length+Q.length:Nat):Int),P++Q++x::T)=some (P++Q'++T)∧Q'.Perm (x::Q)∧Srt gF Q':=by
  have hstop: ∀xs,F6 (P.length:Int) ((P.length:Int),xs)=some (.out xs):=fun xs=>by
    unfold F6
    simp only [show decide ((P.length:Int)>(P.length:Int))=false from bG (by omega),bK,bO,lB]
  have hF: ∀(U V:List Int) (q y:Int),P.length≤U.length→(U++q::y::V).length=(P++Q++x::T).length→F6 (P.length:Int) (((U.length:Int)+1),U++q::y::V)=some (if gF y q then .go ((U.length:Int),U++y::q::V)else .out (U++q::y::V)):=fun U V q y hP hl=>by
    unfold F6
    have hb:U.length+2≤1000000:=by rw [← hl]at hN;simp at hN;omega
    have e1:C3 ((U.length:Int)+1 - 1)=(U.length:Int):=by rw [G9 (by omega)];omega
    have g1:B7 (U++q::y::V) ((U.length:Int)+1)=some y:=by rw [jA];exact Qg _ _ _ _ (by simp)
    have g2:B7 (U++q::y::V) (U.length:Int)=some q:=Qg _ _ _ _ rfl
    have s1:Kj (U++q::y::V) ((U.length:Int)+1) q=U++q::q::V:=by rw [jA,BZ _ _ _ _ _ (by simp)];simp
    have g3:B7 (U++q::q::V) (U.length:Int)=some q:=Qg _ _ _ _ rfl
    have s2:Kj (U++q::q::V) (U.length:Int) y=U++y::q::V:=BZ _ _ _ _ _ rfl
    simp only [show decide (((U.length:Int)+1)>(P.length:Int))=true from bF (by omega),bJ,bN,e1,g1,g2,s1,g3,s2,lB,rY]
    cases gF y q<;>rfl
  obtain ⟨Q',h1,h2,h3⟩:=NK uX (P:=P) (T:=T) (P++Q++x::T).length hstop hF x Q.length Q [] rfl (by simpa using hs) (by simp) (by simp)
  refine ⟨Q',?_,by simpa using h2,h3⟩
  rw [← h1];congr 1;simp
theorem rZ (P A S:List Int)(hN:(P++A++S).length≤1000000):
    ∃A',K0 (P++A++S) (P.length:Int) ((P.length+A.length:Nat):Int)=some (P++A'++S)∧A'.Perm A∧Srt gF A':=by
  unfold K0
  have hend: ∀(xs:List Int) (i:Nat),P.length+A.length≤i→G5 (P.length:Int) ((P.length+A.length:Nat):Int) ((i:Int),xs)=some (.out xs):=fun xs i hi=>by
    unfold G5
    rw [show decide ((i:Int)< ((P.length+A.length:Nat):Int))=false from bG (by omega)];rfl
  simp only [lL]at hN
  have hw:C3 ((P.length:Int)+1)=((P.length+1:Nat):Int):=by rw [G9 (by omega)];omega
  cases A with
  |nil=>
   refine ⟨[],?_,by simp,List.Pairwise.nil⟩
   rw [hw,D0 (hend _ _ (by simp))]
  |cons a A=>
   have hF: ∀(Q R:List Int) (x:Int),(P++Q++x::R++S).length=(P++a::A++S).length→P.length+Q.length<P.length+ (a::A).length→Srt gF Q→∃Q',G5 (P.length:Int) ((P.length+ (a::A).length:Nat):Int) (((P.length+Q.length:Nat):Int),P++Q++x::R++S)=some (.go (((P.length+Q.length+1:Nat):Int),P++Q'++R++S))∧Q'.Perm (x::Q)∧Srt gF Q':=fun Q R x hl hb hs=>by
     obtain ⟨Q',k1,k2,k3⟩:=eN P (R++S) x Q hs (by simp only [lL,lK]at hl hN ⊢;omega)
     refine ⟨Q',?_,k2,k3⟩
     unfold G5
     have e1:P++Q++x::R++S=P++Q++x::(R++S):=by simp
     rw [show decide (((P.length+Q.length:Nat):Int)< ((P.length+ (a::A).length:Nat):Int))=true from bF (by omega),bJ]
     simp only [e1,k1,lB]
     rw [G9 (by simp only [lK]at hN hb;omega)]
     simp
   obtain ⟨A',h1,h2,h3⟩:=VA (lt:=gF) (P:=P) (S:=S) (P++a::A++S).length (P.length+ (a::A).length) hend hF A [a] (by simp) (by simp;omega) (List.pairwise_singleton _ _)
   refine ⟨A',?_,h2,h3⟩
   rw [hw,← h1];congr 1;simp
theorem gG (n:Nat)(h:n≤12): ∃v,En (IntKind.wrap .u64 (n:Int))=some v:=by
  have: ∀n:Fin 13,(En (IntKind.wrap .u64 ((n.val:Nat):Int))).isSome=true:=by decide+kernel
  exact Option.isSome_iff_exists.1 (this ⟨n,by omega⟩)
theorem sA (xs:List Int)(h:xs.length≤12): ∃ys,Q3 xs=some ys∧ys.Perm xs∧Srt gF ys:=by
  obtain ⟨v,hv⟩:=gG _ h
  obtain ⟨ys,h1,h2,h3⟩:=rZ [] xs [] (by simp;omega)
  refine ⟨ys,?_,h2,h3⟩
  unfold Q3 P1
  rw [hv,lB,D0 (t:=ys)]
  ·rfl
  ·unfold N8
   simp only [lM,wF,lP,lO]at h1
   have e:C3 ((xs.length:Int) - 0)≤12:=by rw [G9 (by omega)];omega
   rw [show decide (C3 ((xs.length:Int) - 0)≤12)=true from bF e,bJ]
   have h1':K0 xs 0 (xs.length:Int)=some ys:=h1
   rw [h1',lB]
theorem oZ:Q4=some ():=by
  obtain ⟨v,hv⟩:=gG 0 (by omega)
  unfold Q4 P2
  rw [show IntKind.wrap .u64 0=IntKind.wrap .u64 ((0:Nat):Int) from rfl,hv,lB,D0 (t:=())]
  ·rfl
  ·unfold N9 M8
   rw [D0 (t:=())]
   ·rfl
   ·rfl
theorem JW: ∀(l:List Int) (x:Int),x∈Hv l↔x∈l
  | [],_=> .rfl
  | [_],_=> .rfl
  |a::b::r,x=>by
   have ih:=JW (b::r) x
   rw [Hv]
   by_cases e:a=b
   ·subst e
    rw [show (a==a)=true by simp,bJ,ih]
    simp
   ·rw [show (a==b)=false by simp [e],bK,lT,ih,lT (a:=x) (b:=a)]
theorem IO: ∀(l:List Int),l.Pairwise (· ≤ ·)→(Hv l).Pairwise (· < ·)
  | [],_=>List.Pairwise.nil
  | [_],_=>List.pairwise_singleton _ _
  |a::b::r,h=>by
   obtain ⟨h1,h2⟩:=l9.1 h
   have ih:=IO (b::r) h2
   rw [Hv]
   by_cases e:a=b
   ·rw [show (a==b)=true by simp [e],bJ];exact ih
   ·rw [show (a==b)=false by simp [e],bK]
    refine l9.2 ⟨fun x hx=> ?_,ih⟩
    have hx':=(JW _ _).1 hx
    have hb:=h1 b (by simp)
    rcases lT.1 hx' with rfl|hx'
    ·omega
    ·have:=(l9.1 h2).1 x hx';omega
theorem SG: ∀{l m:List Int},l.Pairwise (· < ·)→m.Pairwise (· < ·)→(∀x,x∈l↔x∈m)→l=m
  | [],[],_,_,_=>rfl
  | [],b::m,_,_,h=>absurd ((h b).2 (by simp)) (by simp)
  |a::l,[],_,_,h=>absurd ((h a).1 (by simp)) (by simp)
  |a::l,b::m,h1,h2,h=>by
   obtain ⟨a1,a2⟩:=l9.1 h1
   obtain ⟨b1,b2⟩:=l9.1 h2
   have hab:a=b:=by
     rcases lT.1 ((h a).1 (by simp))with e|e
     ·exact e
     ·rcases lT.1 ((h b).2 (by simp))with e'|e'
      ·exact e'.symm
      ·have:=a1 _ e';have:=b1 _ e;omega
   subst hab
   congr 1
   refine SG a2 b2 fun x=>⟨fun hx=> ?_,fun hx=> ?_⟩
   ·rcases lT.1 ((h x).1 (List.mem_cons_of_mem _ hx))with rfl|e
    ·exact absurd (a1 _ hx) (by omega)
    ·exact e
   ·rcases lT.1 ((h x).2 (List.mem_cons_of_mem _ hx))with rfl|e
    ·exact absurd (b1 _ hx) (by omega)
    ·exact e
structure SigOK (s:Signal):Prop where
  pos:0<s.Phases.length
  many:s.Phases.length≤6
  off:0≤s.Offset∧s.Offset≤1099511627776
  ticks: ∀p∈s.Phases,1≤p.Ticks∧p.Ticks≤10000
  green: ∀p∈s.Phases,p.Green.length≤1000000
theorem ValR.sig {m:Map}(B:BearM m)(V:ValR m){i:Nat}{s:Signal}(h:m.Signals[i]? =some s):SigOK s:=by
  have:=firstE_none.1 V.signalE i s h
  unfold World.signalE at this
  split at this
  ·cases this
  split at this
  ·cases this
  split at this
  ·cases this
  split at this
  ·cases this
  rename_i h1 h2 h3 h4
  refine ⟨by omega,by omega,?_,fun p hp=> ?_,(B.toBearS.phases s (lG h)).2⟩
  ·have:CC s.Offset 0 1099511627776=true:=by simpa using h3
   simpa [CC] using this
  ·have:CC p.Ticks 1 10000=true:=by
     cases q:CC p.Ticks 1 10000 with
     |true=>rfl
     |false=>exact absurd (lY.2 ⟨p,hp,by rw [q];rfl⟩) h4
   simpa [CC] using this
def Tg:List Phase→Int
  | []=>0
  |p::r=>p.Ticks+Tg r
def OK (lane:Int):Int→List Phase→Bool
  |_,[]=>false
  |at_,p::r=>if p.Ticks≤at_ then OK lane (at_ - p.Ticks) r else p.Green.contains lane
def DE (s:Signal)(lane tick:Int):Bool:=OK lane ((s.Offset+tick) % Tg s.Phases) s.Phases
theorem gH: ∀{l:List Phase},(∀p∈l,1≤p.Ticks∧p.Ticks≤10000)→(l.length:Int)≤Tg l∧Tg l≤10000*l.length
  | [],_=>by simp [Tg]
  |p::r,h=>by
   have:=gH (l:=r) fun q hq=>h q (List.mem_cons_of_mem _ hq)
   have:=h p (by simp)
   simp only [Tg,lK]
   omega
theorem SigOK.sum {s:Signal}(S:SigOK s):1≤Tg s.Phases∧Tg s.Phases≤60000:=by
  have:=gH S.ticks
  have:=S.pos
  have:=S.many
  omega
theorem xS (s:Signal)(S:SigOK s): ∀(r:List Phase) (i:Nat) (a:Int),s.Phases.drop i=r→i≤s.Phases.length→0≤a→a+10000*r.length≤1000000→loop (Be s) (a,(i:Int))=some (a+Tg r):=by
  intro r
  induction r with
  |nil=>
   intro i a hi hil h0 h1
   have:=O6 hi
   obtain rfl:i=s.Phases.length:=by omega
   refine D0 ?_
   unfold Be
   rw [J2];simp [Tg]
  |cons p r ih=>
   intro i a hi hil h0 h1
   have hlt:=N5 hi
   have hp:=Z3 hi
   have hb:=S.ticks p (lG hp)
   simp only [lK]at h1
   have hs:Be s (a,(i:Int))=some (.go (a+p.Ticks,((i+1:Nat):Int))):=by
     unfold Be
     dsimp only
     rw [K6 hlt,C8 hp,bJ,lB,G9 (by omega),G6 hlt (by have:=S.many;omega)]
   rw [L4 hs,ih (i+1) _ (L0 hi) (by omega) (by omega) (by omega),Tg]
   congr 1;omega
theorem xT (s:Signal)(S:SigOK s)(lane:Int): ∀(r:List Phase) (i:Nat) (a:Int),s.Phases.drop i=r→i≤s.Phases.length→0≤a→a≤1000000→thenS (loop (Ac s lane) (a,(i:Int))) (fun _=>some false) (fun r=>some r)=some (OK lane a r):=by
  intro r
  induction r with
  |nil=>
   intro i a hi hil h0 h1
   have:=O6 hi
   obtain rfl:i=s.Phases.length:=by omega
   rw [D0 (t:= .inl ())]
   ·rfl
   ·unfold Ac
    rw [J2];rfl
  |cons p r ih=>
   intro i a hi hil h0 h1
   have hlt:=N5 hi
   have hp:=Z3 hi
   have hb:=S.ticks p (lG hp)
   by_cases hc:p.Ticks≤a
   ·have hs:Ac s lane (a,(i:Int))=some (.go (a - p.Ticks,((i+1:Nat):Int))):=by
      unfold Ac
      dsimp only
      rw [K6 hlt,C8 hp,bJ,lB,show decide (a≥p.Ticks)=true from bF hc,bJ,G9 (by omega),G6 hlt (by have:=S.many;omega)]
    rw [L4 hs,ih (i+1) _ (L0 hi) (by omega) (by omega) (by omega),OK,bL hc]
   ·have hs:Ac s lane (a,(i:Int))=some (.out (.inr (p.Green.contains lane))):=by
      unfold Ac
      dsimp only
      rw [K6 hlt,C8 hp,bJ,lB,show decide (a≥p.Ticks)=false from bG (by omega),bK,GG _ (S.green p (lG hp)),lB]
    rw [D0 hs,OK,bM hc];rfl
theorem tN {s:Signal}(S:SigOK s){tick:Int}(h:0≤tick):(C3 (s.Offset.tmod (Tg s.Phases)+tick.tmod (Tg s.Phases))).tmod (Tg s.Phases)=(s.Offset+tick) % Tg s.Phases:=by
  obtain ⟨h1,h2⟩:=S.sum
  have ho:=S.off.1
  rw [Int.tmod_eq_emod_of_nonneg ho,Int.tmod_eq_emod_of_nonneg h]
  have a1:=Int.emod_nonneg s.Offset (b:=Tg s.Phases) (by omega)
  have a2:=Int.emod_nonneg tick (b:=Tg s.Phases) (by omega)
  have a3:=wL s.Offset (b:=Tg s.Phases) (by omega)
  have a4:=wL tick (b:=Tg s.Phases) (by omega)
  rw [G9 (by omega),Int.tmod_eq_emod_of_nonneg (by omega),← Int.add_emod]
theorem VB {s:Signal}(S:SigOK s)(lane:Int){tick:Int}(h:0≤tick):Iq s lane tick=some (DE s lane tick):=by
  obtain ⟨h1,h2⟩:=S.sum
  unfold Iq
  have e1:loop (Be s) (0,0)=some (Tg s.Phases):=by
    have:=xS s S s.Phases 0 0 rfl (by omega) (by omega) (by have:=S.many;omega)
    rw [Int.zero_add]at this;exact this
  have hne:Tg s.Phases≠0:=by omega
  rw [e1,lB]
  unfold HK
  rw [bM hne,lB,bM hne,lB,bM hne,lB,tN S h]
  refine xT s S lane s.Phases 0 _ rfl (by omega) (Int.emod_nonneg _ hne) ?_
  have:=wL (s.Offset+tick) (b:=Tg s.Phases) (by omega)
  omega
noncomputable def NL (m:Map)(g lane tick:Int):Bool:=(((decide (tick≥0))&& (decide (g≥0)))&& (decide (g< (m.Signals.length:Int))))&&XR m lane&&DE (m.Signals.getD g.toNat default) lane tick
theorem pA {m:Map}(B:BearM m)(g lane tick:Int):Ll m g lane tick=some (NL m g lane tick):=by
  unfold Ll NL
  rw [GF B]
  cases hc:(((decide (tick≥0))&& (decide (g≥0)))&& (decide (g< (m.Signals.length:Int))))
  ·rfl
  ·cases hi:XR m lane
   ·rfl
   ·simp only [bP,bH]at hc
    obtain ⟨⟨c1,c2⟩,c3⟩:=hc
    have hl:g.toNat<m.Signals.length:=by omega
    have hget:m.Signals[g.toNat]? =some (m.Signals.getD g.toNat default):=by rw [List.getD,lH hl];rfl
    have hg:B7 m.Signals g=some (m.Signals.getD g.toNat default):=by unfold B7;rw [bL c2,hget]
    have S:=((isM_true.1 hi).2.2).sig B hget
    simp only [bJ,lB,bN,hg,VB S lane c1]
end Go.Abs.World
