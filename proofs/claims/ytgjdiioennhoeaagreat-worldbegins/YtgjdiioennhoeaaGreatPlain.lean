/-
  Plain facts on the functions: what they compute, and that the law holds of it.
-/
import Derived.Test.YtgjdiioennhoeaaGreatFns4
set_option maxRecDepth 100000
set_option synthInstance.maxHeartbeats 0
set_option synthInstance.maxSize 100000
set_option linter.unusedVariables false
namespace Go.Abs.World
open Go Go.Abs
noncomputable def Sm (p1:State)(x1:(Int×State)):Option (Stp (Int×State) State):=
  cond (decide (x1.1< (p1.Agents.length:Int))) ((B7 p1.Agents x1.1).bind fun v2=>(Bo ([]:List Int) v2.Route).bind fun v3=>(Bo x1.2.Agents [(Agent.mk v3 v2.S v2.V v2.Len v2.Begin v2.Obey v2.Gone)]).bind fun v4=>some (.go ((C5 (x1.1+1)),(State.mk x1.2.Tick v4 x1.2.In)))) (some (.out x1.2))
noncomputable def OM (p1:State):Option State:=
  (Bo ([]:List Stay) p1.In).bind fun v1=>(loop (Sm p1) (0,(State.mk p1.Tick [] v1))).bind fun y1=>some y1
def AR:type_of% @Pq:=fun p4 x1=>cond (decide ((C5 (x1.1+1))< (p4.length:Int))) ((B7 p4 x1.1).bind fun v1=>(B7 p4 (C5 (x1.1+1))).bind fun v2=>(Bo x1.2 [(Spot.mk v1 v2)]).bind fun v3=>some (.go ((C5 (x1.1+2)),v3))) (some (.out x1.2))
instance kit_road_l1_le (a)(b):Le (AR a b) (Pq a b):=by unfold AR Pq;infer_instance
def EK:type_of% @Y4:=fun p1 p2 p3 p4=>(O1 (AR p4) (0,[])).bind fun y1=>cond (p1==3) (some (Lane.mk p1 (Curve.mk y1) 500 p2 p3)) (some (Lane.mk p1 (Curve.mk y1) 1500 p2 p3))
instance kit_road_le (a)(b)(c)(d):Le (EK a b c d) (Y4 a b c d):=by unfold EK Y4;infer_instance
def GN:type_of% @Vj:=(EK 1 1500 [] [0,0,100000,0]).bind fun v1=>(EK 1 1500 [] [50000,(-50000),50000,50000]).bind fun v2=>some (Map.mk 0 [v1,v2] [(Zone.mk [(Part.mk 0 48000 52000 1),(Part.mk 1 48000 52000 0)] 0)] [] [])
instance kit_Cross_le:Le (GN) (Vj):=by unfold GN Vj;infer_instance
def Vc:type_of% @Mq:=fun p1 p2 p3=>some (Agent.mk [p1] p2 p3 4000 0 false false)
instance law04_agent_le (a)(b)(c):Le (Vc a b c) (Mq a b c):=by unfold Vc Mq;infer_instance
def Eo:type_of% @T7:=fun p1=>Bo [] p1
instance slices_Clone_Stay_Stay_le (a):Le (Eo a) (T7 a):=by unfold Eo T7;infer_instance
def Lw:type_of% @Cc:=fun p1=>Bo [] p1
instance slices_Clone_int_int_le (a):Le (Lw a) (Cc a):=by unfold Lw Cc;infer_instance
def Lf:type_of% @Bp:=fun p1=>(Lw p1.Route).bind fun v1=>some (Agent.mk v1 p1.S p1.V p1.Len p1.Begin p1.Obey p1.Gone)
instance world_ownAgent_le (a):Le (Lf a) (Bp a):=by unfold Lf Bp;infer_instance
def Wk:type_of% @Dr:=fun p1 x1=>cond (decide (x1.1< (p1.Agents.length:Int))) ((B7 p1.Agents x1.1).bind fun v2=>(Lf v2).bind fun v3=>(Bo x1.2.Agents [v3]).bind fun v4=>some (.go ((C5 (x1.1+1)),(State.mk x1.2.Tick v4 x1.2.In)))) (some (.out x1.2))
instance world_Copy_l1_le (a)(b):Le (Wk a b) (Dr a b):=by unfold Wk Dr;infer_instance
def Xv:type_of% @Ka:=fun p1=>(Eo p1.In).bind fun v1=>(O1 (Wk p1) (0,(State.mk p1.Tick [] v1))).bind fun y1=>some y1
instance world_Copy_le (a):Le (Xv a) (Ka a):=by unfold Xv Ka;infer_instance
def Fo:type_of% @Bu:=fun p1 p2 p3=>some ((decide (p2≤p1))&& (decide (p1≤p3)))
instance roads_within_le (a)(b)(c):Le (Fo a b c) (Bu a b c):=by unfold Fo Bu;infer_instance
def Nh:type_of% @W0:=fun p1=>(Fo p1.Map_.Version 0 1099511627776).bind fun v1=>cond (!v1) (some 2) (cond ((p1.Map_.Lanes.length:Int)==0) (some 6) (cond ((((decide ((p1.Map_.Lanes.length:Int)>12))||(decide ((p1.Map_.Zones.length:Int)>12)))||(decide ((p1.Map_.Signals.length:Int)>4)))||(decide ((p1.Map_.Works.length:Int)>8))) (some 8) (some 0)))
instance roads_check_numbers_le (a):Le (Nh a) (W0 a):=by unfold Nh W0;infer_instance
def Lu:type_of% @Cq:=fun p1=>cond ((decide (p1<0))||(decide (p1≥4))) (some (0,0,0)) ((B7 ([(0,0,0),(2000,30,90),(1000,20,60),(300,100,300)]:List (Int×Int×Int)) p1).bind fun v1=>some (v1.1,v1.2.1,v1.2.2))
instance roads_Bounds_le (a):Le (Lu a) (Cq a):=by unfold Lu Cq;infer_instance
def Wl:type_of% @Cl:=fun p1 x1=>cond (decide (x1< (p1.length:Int))) ((B7 p1 x1).bind fun v1=>cond ((decide ((Us false v1.X v1.Y)< (-16777216)))||(decide ((Us true v1.X v1.Y)>16777216))) (some (.out (.inr false))) (some (.go (C5 (x1+1))))) (some (.out (.inl ())))
instance curve_fair_l1_le (a)(b):Le (Wl a b) (Cl a b):=by unfold Wl Cl;infer_instance
def DM:type_of% @Mr:=fun p1=>thenS (O1 (Wl p1) 0) (fun _=>some true) (fun r=>some r)
instance curve_fair_le (a):Le (DM a) (Mr a):=by unfold DM Mr;infer_instance
def Xw:type_of% @Kb:=fun p1 p2=>some (CurveVector.mk (C5 (p2.X - p1.X)) (C5 (p2.Y - p1.Y)))
instance curve_from_le (a)(b):Le (Xw a b) (Kb a b):=by unfold Xw Kb;infer_instance
def Hr:type_of% @Z6:=fun p1 p2=>some (C5 ((C5 (p1.x*p2.x))+ (C5 (p1.y*p2.y))))
instance curve_vector_dot_le (a)(b):Le (Hr a b) (Z6 a b):=by unfold Hr Z6;infer_instance
def Wm:type_of% @Fh:=fun p1 x1=>cond (decide (x1.1<x1.2)) (cond (decide ((C5 ((C5 ((C5 (x1.1+x1.2)).tdiv 2))* (C5 ((C5 (x1.1+x1.2)).tdiv 2))))<p1)) (some (.go ((C5 ((C5 ((C5 (x1.1+x1.2)).tdiv 2))+1)),x1.2))) (some (.go (x1.1,(C5 ((C5 (x1.1+x1.2)).tdiv 2)))))) (some (.out x1.1))
instance curve_root_l1_le (a)(b):Le (Wm a b) (Fh a b):=by unfold Wm Fh;infer_instance
def Xx:type_of% @Hz:=fun p1=>(O1 (Wm p1) (0,67108864)).bind fun y1=>some (y1,((C5 (y1*y1))==p1))
instance curve_root_le (a):Le (Xx a) (Hz a):=by unfold Xx Hz;infer_instance
def Ua:type_of% @Bq:=fun p1 x1=>cond (decide (x1.1< (C5 ((p1.Pts.length:Int) - 1)))) ((B7 p1.Pts x1.1).bind fun v2=>(B7 p1.Pts (C5 (x1.1+1))).bind fun v3=>(Xw v2 v3).bind fun v4=>(Hr v4 v4).bind fun v5=>(Xx v5).bind fun v6=>cond (!v6.2) (some (.out (.inr 3))) (cond ((decide (v6.1<1000))||(decide (v6.1>1048576))) (some (.out (.inr 2))) (((cond (decide (x1.1>0)) (Hr x1.2 v4) (some default))).bind fun v7=>cond ((decide (x1.1>0))&& (decide (v7≤0))) (some (.out (.inr 12))) (some (.go ((C5 (x1.1+1)),v4)))))) (some (.out (.inl ())))
instance curve_Check_l1_le (a)(b):Le (Ua a b) (Bq a b):=by unfold Ua Bq;infer_instance
def Vd:type_of% @Hb:=fun p1=>cond (decide ((p1.Pts.length:Int)<2)) (some 6) (cond (decide ((p1.Pts.length:Int)>16)) (some 5) ((DM p1.Pts).bind fun v1=>cond (!v1) (some 2) (thenS (O1 (Ua p1) (0,(CurveVector.mk 0 0))) (fun _=>some 0) (fun r=>some r))))
instance curve_Check_le (a):Le (Vd a) (Hb a):=by unfold Vd Hb;infer_instance
def Rw:type_of% @Ax:=fun p1 p3 x1=>cond (decide (x1.2< (p1.length:Int))) ((B7 p1 x1.2).bind fun v1=>cond ((decide (v1<x1.1))||(decide (v1≥p3))) (some (.out (.inr false))) (some (.go ((C5 (v1+1)),(C5 (x1.2+1)))))) (some (.out (.inl ())))
instance roads_rising_l1_le (a)(b)(c):Le (Rw a b c) (Ax a b c):=by unfold Rw Ax;infer_instance
def Ov:type_of% @Ds:=fun p1 p2 p3=>thenS (O1 (Rw p1 p3) (p2,0)) (fun _=>some true) (fun r=>some r)
instance roads_rising_le (a)(b)(c):Le (Ov a b c) (Ds a b c):=by unfold Ov Ds;infer_instance
def Lx:type_of% @T8:=fun p1 x1=>cond (decide (x1< (p1.Map_.Lanes.length:Int))) ((B7 p1.Map_.Lanes x1).bind fun v1=>(Lu v1.Kind).bind fun v2=>cond (v2.1==0) (some (.out (.inr 4))) ((Vd v1.Curve_).bind fun v3=>cond (v3 !=0) (some (.out (.inr v3))) ((Fo v1.Half 200 4000).bind fun v4=>((cond (!(!v4)) (Fo v1.Limit 1 v2.1) (some default))).bind fun v5=>cond ((!v4)||(!v5)) (some (.out (.inr 2))) (cond (decide ((v1.Next.length:Int)>3)) (some (.out (.inr 8))) ((Ov v1.Next (C5 (x1+1)) (p1.Map_.Lanes.length:Int)).bind fun v6=>cond (!v6) (some (.out (.inr 11))) (some (.go (C5 (x1+1))))))))) (some (.out (.inl ())))
instance roads_check_lanes_l1_le (a)(b):Le (Lx a b) (T8 a b):=by unfold Lx T8;infer_instance
def Pg:type_of% @Ab:=fun p1=>thenS (O1 (Lx p1) 0) (fun _=>some 0) (fun r=>some r)
instance roads_check_lanes_le (a):Le (Pg a) (Ab a):=by unfold Pg Ab;infer_instance
def Ko:type_of% @R6:=fun p1 v1 v2 x2=>cond (decide (x2< (v1.Next.length:Int))) ((B7 v1.Next x2).bind fun v3=>(B7 p1.Map_.Lanes v3).bind fun v4=>cond (v4.Kind !=v1.Kind) (some (.out (.inr 4))) ((B7 p1.Map_.Lanes v3).bind fun v5=>(B7 v5.Curve_.Pts 0).bind fun v6=>cond (!(v6.X==v2.X&& (v6.Y==v2.Y&&true))) (some (.out (.inr 3))) (some (.go (C5 (x2+1)))))) (some (.out (.inl ())))
instance roads_check_joints_l2_le (a)(b)(c)(d):Le (Ko a b c d) (R6 a b c d):=by unfold Ko R6;infer_instance
def Kp:type_of% @R7:=fun p1 x1=>cond (decide (x1< (p1.Map_.Lanes.length:Int))) ((B7 p1.Map_.Lanes x1).bind fun v1=>(B7 v1.Curve_.Pts (C5 ((v1.Curve_.Pts.length:Int) - 1))).bind fun v2=>thenS (O1 (Ko p1 v1 v2) 0) (fun _=>some (.go (C5 (x1+1)))) (fun r=>some (.out (.inr r)))) (some (.out (.inl ())))
instance roads_check_joints_l1_le (a)(b):Le (Kp a b) (R7 a b):=by unfold Kp R7;infer_instance
def Oh:type_of% @Y0:=fun p1=>thenS (O1 (Kp p1) 0) (fun _=>some 0) (fun r=>some r)
instance roads_check_joints_le (a):Le (Oh a) (Y0 a):=by unfold Oh Y0;infer_instance
def Kq:type_of% @Aa:=fun p1=>(Fo p1.Ticks 1 10000).bind fun v1=>some (!v1)
instance roads_check_signals_1_le (a):Le (Kq a) (Aa a):=by unfold Kq Aa;infer_instance
def P1:type_of% @F0:=fun p1 x1=>cond (decide (x1< (p1.length:Int))) ((B7 p1 x1).bind fun v1=>(Kq v1).bind fun v2=>cond v2 (some (.out (.inr x1))) (some (.go (C5 (x1+1))))) (some (.out (.inl ())))
instance slices_IndexFunc_Phase_Phase_roads_check_signals_1_l1_le (a)(b):Le (P1 a b) (F0 a b):=by unfold P1 F0;infer_instance
def Q8:type_of% @H4:=fun p1=>thenS (O1 (P1 p1) 0) (fun _=>some (-1)) (fun r=>some r)
instance slices_IndexFunc_Phase_Phase_roads_check_signals_1_le (a):Le (Q8 a) (H4 a):=by unfold Q8 H4;infer_instance
def P2:type_of% @F1:=fun p1=>(Q8 p1).bind fun v1=>some (decide (v1≥0))
instance slices_ContainsFunc_Phase_Phase_roads_check_signals_1_le (a):Le (P2 a) (F1 a):=by unfold P2 F1;infer_instance
def Il:type_of% @W3:=fun p1 p2=>(Ov p1.Green 0 (p2.Map_.Lanes.length:Int)).bind fun v1=>some (!v1)
instance roads_check_signals_2_b_le (a)(b):Le (Il a b) (W3 a b):=by unfold Il W3;infer_instance
def O4:type_of% @E8:=fun p1 p2 x1=>cond (decide (x1< (p1.length:Int))) ((B7 p1 x1).bind fun v1=>(Il v1 p2).bind fun v2=>cond v2 (some (.out (.inr x1))) (some (.go (C5 (x1+1))))) (some (.out (.inl ())))
instance slices_IndexFunc_Phase_Phase_roads_check_signals_2b_l1_le (a)(b)(c):Le (O4 a b c) (E8 a b c):=by unfold O4 E8;infer_instance
def Q5:type_of% @G8:=fun p1 p2=>thenS (O1 (O4 p1 p2) 0) (fun _=>some (-1)) (fun r=>some r)
instance slices_IndexFunc_Phase_Phase_roads_check_signals_2b_le (a)(b):Le (Q5 a b) (G8 a b):=by unfold Q5 G8;infer_instance
def O5:type_of% @E9:=fun p1 p2=>(Q5 p1 p2).bind fun v1=>some (decide (v1≥0))
instance slices_ContainsFunc_Phase_Phase_roads_check_signals_2b_le (a)(b):Le (O5 a b) (E9 a b):=by unfold O5 E9;infer_instance
def Jl:type_of% @Q3:=fun p1 x1=>cond (decide (x1< (p1.Map_.Signals.length:Int))) ((B7 p1.Map_.Signals x1).bind fun v1=>cond ((v1.Phases.length:Int)==0) (some (.out (.inr 6))) (cond (decide ((v1.Phases.length:Int)>6)) (some (.out (.inr 8))) ((Fo v1.Offset 0 1099511627776).bind fun v2=>cond (!v2) (some (.out (.inr 2))) ((P2 v1.Phases).bind fun v3=>cond v3 (some (.out (.inr 2))) ((O5 v1.Phases p1).bind fun v4=>cond v4 (some (.out (.inr 11))) (some (.go (C5 (x1+1))))))))) (some (.out (.inl ())))
instance roads_check_signals_l1_le (a)(b):Le (Jl a b) (Q3 a b):=by unfold Jl Q3;infer_instance
def Ni:type_of% @W1:=fun p1=>thenS (O1 (Jl p1) 0) (fun _=>some 0) (fun r=>some r)
instance roads_check_signals_le (a):Le (Ni a) (W1 a):=by unfold Ni W1;infer_instance
def EL (pts:List Spot):Nat→Nat→Int→Option (List (Int×CurvePiece))
  |0,_,_=>some []
  |n+1,i,start=>(pts[i]?).bind fun p=>(pts[i+1]?).bind fun q=>(Xw p q).bind fun v=>(Hr v v).bind fun d=>(Xx d).bind fun r=>
   (EL pts n (i+1) (C5 (start+r.1))).bind fun l=>some (((i:Int),CurvePiece.mk p v r.1 start)::l)
instance piecesGo_le (pts:List Spot): ∀(n i:Nat) (s:Int),Le (EL pts n i s) (Ms pts n i s)
  |0,i,s=>Le.refl _
  |n+1,i,s=>by
   rw [Ms,EL]
   have:=fun i s=>piecesGo_le pts n i s
   infer_instance
def ON:type_of% @Xt:=fun pts=>if pts.length≤1000000 then EL pts (pts.length - 1) 0 0 else none
instance piecesC_le (a):Le (ON a) (Xt a):=by unfold ON Xt;infer_instance
def Rx:type_of% @Bv:=fun x1 a1=>(Bo x1 [a1.2.l]).bind fun v3=>some (.go v3)
instance curve_Pieces_l1_le (a)(b):Le (Rx a b) (Bv a b):=by unfold Rx Bv;infer_instance
def Yp:type_of% @Hc:=fun p1=>(Vd p1).bind fun v1=>cond (v1 !=0) (some []) (((ON p1.Pts).bind fun v2=>loopL (Rx) (fun (x1:(List Int))=>x1) v2 []).bind fun y1=>some y1)
instance curve_Pieces_le (a):Le (Yp a) (Hc a):=by unfold Yp Hc;infer_instance
def Ry:type_of% @Y5:=fun v1 x1=>cond (decide (x1.2< (v1.length:Int))) ((B7 v1 x1.2).bind fun v2=>some (.go ((C5 (x1.1+v2)),(C5 (x1.2+1))))) (some (.out x1.1))
instance curve_Length_l1_le (a)(b):Le (Ry a b) (Y5 a b):=by unfold Ry Y5;infer_instance
def Sn:type_of% @Hd:=fun p1=>(Yp p1).bind fun v1=>(O1 (Ry v1) (0,0)).bind fun y1=>some y1
instance curve_Length_le (a):Le (Sn a) (Hd a):=by unfold Sn Hd;infer_instance
def Pv:type_of% @Es:=fun p1 p2=>(B7 p1.Lanes p2).bind fun v1=>(Sn v1.Curve_).bind fun v2=>some v2
instance roads_long_le (a)(b):Le (Pv a b) (Es a b):=by unfold Pv Es;infer_instance
def Ly:type_of% @T9:=fun p1 v1 x3=>cond (decide (x3< (v1.Parts.length:Int))) ((B7 v1.Parts x3).bind fun v5=>((cond (!((decide (v5.From<0))||(decide (v5.From≥v5.To)))) (Pv p1.Map_ v5.Lane_) (some default))).bind fun v6=>cond (((((decide (v5.From<0))||(decide (v5.From≥v5.To)))||(decide (v5.To>v6)))||(decide (v5.Rank<0)))||(decide (v5.Rank>100))) (some (.out (.inr 2))) (some (.go (C5 (x3+1))))) (some (.out (.inl ())))
instance roads_check_zones_l3_le (a)(b)(c):Le (Ly a b c) (T9 a b c):=by unfold Ly T9;infer_instance
def Lz:type_of% @As:=fun v1 x2=>cond (decide (x2.2< (v1.Parts.length:Int))) ((B7 v1.Parts x2.2).bind fun v2=>(Bo x2.1 [v2.Lane_]).bind fun v3=>some (.go (v3,(C5 (x2.2+1))))) (some (.out x2.1))
instance roads_check_zones_l2_le (a)(b):Le (Lz a b) (As a b):=by unfold Lz As;infer_instance
def Ma:type_of% @U0:=fun p1 x1=>cond (decide (x1< (p1.Map_.Zones.length:Int))) ((B7 p1.Map_.Zones x1).bind fun v1=>cond (decide ((v1.Parts.length:Int)<2)) (some (.out (.inr 6))) (cond (decide ((v1.Parts.length:Int)>6)) (some (.out (.inr 8))) (cond ((decide (v1.Signal_<0))||(decide (v1.Signal_>(p1.Map_.Signals.length:Int)))) (some (.out (.inr 2))) ((O1 (Lz v1) ([],0)).bind fun y2=>(Ov y2 0 (p1.Map_.Lanes.length:Int)).bind fun v4=>cond (!v4) (some (.out (.inr 11))) (thenS (O1 (Ly p1 v1) 0) (fun _=>some (.go (C5 (x1+1)))) (fun r=>some (.out (.inr r)))))))) (some (.out (.inl ())))
instance roads_check_zones_l1_le (a)(b):Le (Ma a b) (U0 a b):=by unfold Ma U0;infer_instance
def Ph:type_of% @Ac:=fun p1=>thenS (O1 (Ma p1) 0) (fun _=>some 0) (fun r=>some r)
instance roads_check_zones_le (a):Le (Ph a) (Ac a):=by unfold Ph Ac;infer_instance
def Mb:type_of% @U1:=fun p1 x1=>cond (decide (x1< (p1.Map_.Works.length:Int))) ((B7 p1.Map_.Works x1).bind fun v1=>cond ((decide (v1.Lane_<0))||(decide (v1.Lane_≥(p1.Map_.Lanes.length:Int)))) (some (.out (.inr 7))) ((B7 p1.Map_.Lanes v1.Lane_).bind fun v2=>(Lu v2.Kind).bind fun v3=>((cond (!((decide (v1.From<0))||(decide (v1.From>v1.To)))) (Pv p1.Map_ v1.Lane_) (some default))).bind fun v4=>((cond (!((((((decide (v1.From<0))||(decide (v1.From>v1.To)))||(decide (v1.To>v4)))||(decide (v1.Begin<0)))||(decide (v1.Begin≥v1.End)))||(decide (v1.End>1099511627776)))) (Fo v1.Limit 0 v3.1) (some default))).bind fun v5=>cond (((((((decide (v1.From<0))||(decide (v1.From>v1.To)))||(decide (v1.To>v4)))||(decide (v1.Begin<0)))||(decide (v1.Begin≥v1.End)))||(decide (v1.End>1099511627776)))||(!v5)) (some (.out (.inr 2))) (some (.go (C5 (x1+1)))))) (some (.out (.inl ())))
instance roads_check_works_l1_le (a)(b):Le (Mb a b) (U1 a b):=by unfold Mb U1;infer_instance
def Pi:type_of% @Ad:=fun p1=>thenS (O1 (Mb p1) 0) (fun _=>some 0) (fun r=>some r)
instance roads_check_works_le (a):Le (Pi a) (Ad a):=by unfold Pi Ad;infer_instance
def Fg:type_of% @W4:=fun v p1=>cond (Nat.beq v 148) (Nh p1) (cond (Nat.beq v 149) (Pg p1) (cond (Nat.beq v 150) (Oh p1) (cond (Nat.beq v 151) (Ni p1) (cond (Nat.beq v 152) (Ph p1) (cond (Nat.beq v 153) (Pi p1) (none))))))
instance choose_roads_check_numbers_le (a)(b):Le (Fg a b) (W4 a b):=by unfold Fg W4;infer_instance
def Ub:type_of% @P5:=fun p1 x1=>cond (decide (x1< ([148,149,150,151,152,153].length:Int))) ((B7 [148,149,150,151,152,153] x1).bind fun v1=>(Fg v1 (RoadsCheck.mk p1)).bind fun v2=>cond (v2 !=0) (some (.out (.inr v2))) (some (.go (C5 (x1+1))))) (some (.out (.inl ())))
instance roads_Check_l1_le (a)(b):Le (Ub a b) (P5 a b):=by unfold Ub P5;infer_instance
def Nz:type_of% @Fi:=fun p1=>thenS (O1 (Ub p1) 0) (fun _=>some 0) (fun r=>some r)
instance roads_Check_le (a):Le (Nz a) (Fi a):=by unfold Nz Fi;infer_instance
def Im:type_of% @R8:=fun p1 p2 x1=>cond (decide (x1< (p1.length:Int))) ((B7 p1 x1).bind fun v1=>cond (p2==v1) (some (.out (.inr x1))) (some (.go (C5 (x1+1))))) (some (.out (.inl ())))
instance slices_Index_int_int_l1_le (a)(b)(c):Le (Im a b c) (R8 a b c):=by unfold Im R8;infer_instance
def Gn:type_of% @X7:=fun p1 p2=>thenS (O1 (Im p1 p2) 0) (fun _=>some (-1)) (fun r=>some r)
instance slices_Index_int_int_le (a)(b):Le (Gn a b) (X7 a b):=by unfold Gn X7;infer_instance
def Br:type_of% @N6:=fun p1 p2=>(Gn p1 p2).bind fun v1=>some (decide (v1≥0))
instance slices_Contains_int_int_le (a)(b):Le (Br a b) (N6 a b):=by unfold Br N6;infer_instance
def Rz:type_of% @Cx:=fun p1 p2 x1=>cond (decide (x1.2< (p1.Lanes.length:Int))) ((B7 p1.Lanes x1.2).bind fun v1=>(Br v1.Next p2).bind fun v2=>cond v2 ((Bo x1.1 [x1.2]).bind fun v3=>some (.go (v3,(C5 (x1.2+1))))) (some (.go (x1.1,(C5 (x1.2+1)))))) (some (.out x1.1))
instance roads_before_l1_le (a)(b)(c):Le (Rz a b c) (Cx a b c):=by unfold Rz Cx;infer_instance
def Yq:type_of% @He:=fun p1 p2=>(O1 (Rz p1 p2) ([],0)).bind fun y1=>some y1
instance roads_before_le (a)(b):Le (Yq a b) (He a b):=by unfold Yq He;infer_instance
def Nj:type_of% @S6:=fun p1 v7 x1=>cond (decide (x1.2< (v7.length:Int))) ((B7 v7 x1.2).bind fun v8=>(B7 p1.Lanes x1.1).bind fun v9=>(Br v9.Next v8).bind fun v10=>cond (!v10) (some (.out (.inr 13))) (some (.go (v8,(C5 (x1.2+1)))))) (some (.out (.inl ())))
instance roads_CheckRoute_l1_le (a)(b)(c):Le (Nj a b c) (S6 a b c):=by unfold Nj S6;infer_instance
def Mh:type_of% @Bd:=fun p1 p2=>(Nz p1).bind fun v1=>cond (v1 !=0) (some v1) (((cond (!(((p2.length:Int)==0)||(decide ((p2.length:Int)>8)))) (B7 p2 0) (some default))).bind fun v2=>((cond (!((((p2.length:Int)==0)||(decide ((p2.length:Int)>8)))||(decide (v2<0)))) (B7 p2 0) (some default))).bind fun v3=>((cond (!(((((p2.length:Int)==0)||(decide ((p2.length:Int)>8)))||(decide (v2<0)))||(decide (v3≥(p1.Lanes.length:Int))))) (B7 p2 0) (some default))).bind fun v4=>((cond (!(((((p2.length:Int)==0)||(decide ((p2.length:Int)>8)))||(decide (v2<0)))||(decide (v3≥(p1.Lanes.length:Int))))) (Yq p1 v4) (some default))).bind fun v5=>cond ((((((p2.length:Int)==0)||(decide ((p2.length:Int)>8)))||(decide (v2<0)))||(decide (v3≥(p1.Lanes.length:Int))))||(decide ((v5.length:Int)>0))) (some 13) ((B7 p2 0).bind fun v6=>(XZ p2 1 (p2.length:Int)).bind fun v7=>thenS (O1 (Nj p1 v7) (v6,0)) (fun _=>some 0) (fun r=>some r)))
instance roads_CheckRoute_le (a)(b):Le (Mh a b) (Bd a b):=by unfold Mh Bd;infer_instance
def Sa:type_of% @Ay:=fun p1 p2 x1=>cond (decide (x1.1< (p2.length:Int))) ((B7 p2 x1.1).bind fun v2=>(Bo x1.2.1 [x1.2.2]).bind fun v3=>(Pv p1 v2).bind fun v4=>some (.go ((C5 (x1.1+1)),(v3,(C5 (x1.2.2+v4)))))) (some (.out x1.2))
instance roads_follow_l1_le (a)(b)(c):Le (Sa a b c) (Ay a b c):=by unfold Sa Ay;infer_instance
def Lv:type_of% @Cr:=fun p1 p2=>(Mh p1 p2).bind fun v1=>cond (v1 !=0) (some (RoadsWay.mk (Map.mk 0 [] [] [] []) [] [] 0)) ((O1 (Sa p1 p2) (0,([],0))).bind fun y1=>some (RoadsWay.mk p1 p2 y1.1 y1.2))
instance roads_follow_le (a)(b):Le (Lv a b) (Cr a b):=by unfold Lv Cr;infer_instance
def Kr:type_of% @Ae:=fun p1 p2=>(Lv p1 p2).bind fun v1=>some v1.length
instance roads_RouteLength_le (a)(b):Le (Kr a b) (Ae a b):=by unfold Kr Ae;infer_instance
def Ow:type_of% @Du:=fun p1 p2=>(Lv p1 p2).bind fun v1=>some v1.starts
instance roads_Starts_le (a)(b):Le (Ow a b) (Du a b):=by unfold Ow Du;infer_instance
def Wn:type_of% @Dv:=fun p2 v1 x1=>(B7 v1 x1).bind fun v2=>cond (decide (v2>p2.S)) (some (.go (C5 (x1 - 1)))) (some (.out x1))
instance world_lane_l1_le (a)(b)(c):Le (Wn a b c) (Dv a b c):=by unfold Wn Dv;infer_instance
def Xy:type_of% @Kc:=fun p1 p2=>(Ow p1 p2.Route).bind fun v1=>(O1 (Wn p2 v1) (C5 ((v1.length:Int) - 1))).bind fun y1=>(B7 p2.Route y1).bind fun v3=>(B7 v1 y1).bind fun v4=>some (v3,(C5 (p2.S - v4)))
instance world_lane_le (a)(b):Le (Xy a b) (Kc a b):=by unfold Xy Kc;infer_instance
def Jw:type_of% @Bx:=fun p1=>some (WorldSpan.mk (C5 (p1.S - p1.Len)) p1.S)
instance world_body_le (a):Le (Jw a) (Bx a):=by unfold Jw Bx;infer_instance
def Xz:type_of% @Kd:=fun p1 p2=>(Jw p2).bind fun v1=>(Kr p1 p2.Route).bind fun v2=>some (decide (v1.from_>v2))
instance world_left_le (a)(b):Le (Xz a b) (Kd a b):=by unfold Xz Kd;infer_instance
def Qq:type_of% @Cd:=fun p1 p2 p3=>(B7 p2.Agents p3).bind fun v1=>(Mh p1 v1.Route).bind fun v2=>cond (v2 !=0) (some 13) (((cond (!(((((decide (v1.Len<300))||(decide (v1.Len>20000)))||(decide (v1.Begin<0)))||(decide (v1.Begin>1099511627776)))||(decide (v1.S<0)))) (Kr p1 v1.Route) (some default))).bind fun v3=>cond ((((((decide (v1.Len<300))||(decide (v1.Len>20000)))||(decide (v1.Begin<0)))||(decide (v1.Begin>1099511627776)))||(decide (v1.S<0)))||(decide (v1.S>(C5 ((C5 (v3+v1.Len))+2000))))) (some 2) ((Xy p1 v1).bind fun v4=>(B7 p1.Lanes v4.1).bind fun v5=>(Lu v5.Kind).bind fun v6=>cond ((decide (v1.V<0))||(decide (v1.V>v6.1))) (some 2) ((Xz p1 v1).bind fun v7=>cond ((!(v1.Gone==v7))||(((decide (v1.Begin>p2.Tick))&& (v1.S !=0))||((p3==0)&& (v1.Begin !=0)))) (some 10) (some 0))))
instance world_checkAgent_le (a)(b)(c):Le (Qq a b c) (Cd a b c):=by unfold Qq Cd;infer_instance
def Qr:type_of% @Dw:=fun p1=>some (p1 !=p1)
instance cmp_isNaN_int_le (a):Le (Qr a) (Dw a):=by unfold Qr Dw;infer_instance
def Fu:type_of% @Y6:=fun p1 p2=>(Qr p1).bind fun v1=>(Qr p2).bind fun v2=>cond v1 (cond v2 (some 0) (some (-1))) (cond v2 (some 1) (cond (decide (p1<p2)) (some (-1)) (cond (decide (p1>p2)) (some 1) (some 0))))
instance cmp_Compare_int_le (a)(b):Le (Fu a b) (Y6 a b):=by unfold Fu Y6;infer_instance
def Wo:type_of% @Z7:=fun p1 x1=>cond (decide (x1< (p1.length:Int))) ((B7 p1 x1).bind fun v1=>cond (v1 !=0) (some (.out (.inr v1))) (some (.go (C5 (x1+1))))) (some (.out (.inl ())))
instance cmp_Or_int_l1_le (a)(b):Le (Wo a b) (Z7 a b):=by unfold Wo Z7;infer_instance
def Tj:type_of% @Et:=fun p1=>thenS (O1 (Wo p1) 0) (fun _=>some 0) (fun r=>some r)
instance cmp_Or_int_le (a):Le (Tj a) (Et a):=by unfold Tj Et;infer_instance
def Qs:type_of% @Fj:=fun p1 p2=>(Fu p1.Agent_ p2.Agent_).bind fun v1=>(Fu p1.Zone_ p2.Zone_).bind fun v2=>(Tj [v1,v2]).bind fun v3=>some v3
instance world_order_le (a)(b):Le (Qs a b) (Fj a b):=by unfold Qs Fj;infer_instance
def Sc:type_of% @Eu:=fun p1 p2=>some ((((decide (p1.Since<0))||(decide (p1.Since>p2.Tick)))||(decide (p1.Rank<0)))||(decide (p1.Rank>100)))
instance world_Check_1_b_le (a)(b):Le (Sc a b) (Eu a b):=by unfold Sc Eu;infer_instance
def V5:type_of% @H5:=fun p1 p2 x1=>cond (decide (x1< (p1.length:Int))) ((B7 p1 x1).bind fun v1=>(Sc v1 p2).bind fun v2=>cond v2 (some (.out (.inr x1))) (some (.go (C5 (x1+1))))) (some (.out (.inl ())))
instance slices_IndexFunc_Stay_Stay_world_Check_1b_l1_le (a)(b)(c):Le (V5 a b c) (H5 a b c):=by unfold V5 H5;infer_instance
def Y1:type_of% @K3:=fun p1 p2=>thenS (O1 (V5 p1 p2) 0) (fun _=>some (-1)) (fun r=>some r)
instance slices_IndexFunc_Stay_Stay_world_Check_1b_le (a)(b):Le (Y1 a b) (K3 a b):=by unfold Y1 K3;infer_instance
def V6:type_of% @F7:=fun p1 p2=>(Y1 p1 p2).bind fun v1=>some (decide (v1≥0))
instance slices_ContainsFunc_Stay_Stay_world_Check_1b_le (a)(b):Le (V6 a b) (F7 a b):=by unfold V6 F7;infer_instance
def Uc:type_of% @Cs:=fun p1 p2 x2=>cond (decide (x2< (p2.In.length:Int))) ((B7 p2.In x2).bind fun v3=>((cond ((!((((decide (v3.Agent_<0))||(decide (v3.Agent_≥(p2.Agents.length:Int))))||(decide (v3.Zone_<0)))||(decide (v3.Zone_≥(p1.Zones.length:Int)))))&& (decide (x2>0))) (B7 p2.In (C5 (x2 - 1))) (some default))).bind fun v4=>((cond ((!((((decide (v3.Agent_<0))||(decide (v3.Agent_≥(p2.Agents.length:Int))))||(decide (v3.Zone_<0)))||(decide (v3.Zone_≥(p1.Zones.length:Int)))))&& (decide (x2>0))) (Qs v4 v3) (some default))).bind fun v5=>cond (((((decide (v3.Agent_<0))||(decide (v3.Agent_≥(p2.Agents.length:Int))))||(decide (v3.Zone_<0)))||(decide (v3.Zone_≥(p1.Zones.length:Int))))||((decide (x2>0))&& (decide (v5≥0)))) (some (.out (.inr 11))) (some (.go (C5 (x2+1))))) (some (.out (.inl ())))
instance world_Check_l2_le (a)(b)(c):Le (Uc a b c) (Cs a b c):=by unfold Uc Cs;infer_instance
def Ud:type_of% @Ct:=fun p1 p2 x1=>cond (decide (x1< (p2.Agents.length:Int))) ((Qq p1 p2 x1).bind fun v2=>cond (v2 !=0) (some (.out (.inr v2))) (some (.go (C5 (x1+1))))) (some (.out (.inl ())))
instance world_Check_l1_le (a)(b)(c):Le (Ud a b c) (Ct a b c):=by unfold Ud Ct;infer_instance
def Qt:type_of% @Fk:=fun p1 p2=>(Nz p1).bind fun v1=>cond (v1 !=0) (some v1) (cond ((decide (p2.Tick<0))||(decide (p2.Tick>1099511627776))) (some 2) (cond ((p2.Agents.length:Int)==0) (some 6) (cond (decide ((p2.Agents.length:Int)>8)) (some 8) (thenS (O1 (Ud p1 p2) 0) (fun _=>thenS (O1 (Uc p1 p2) 0) (fun _=>(V6 p2.In p2).bind fun v6=>cond v6 (some 2) (some 0)) (fun r=>some r)) (fun r=>some r)))))
instance world_Check_le (a)(b):Le (Qt a b) (Fk a b):=by unfold Qt Fk;infer_instance
def AS:type_of% @Mt:=fun p1=>some p1.Gone
instance world_New_1_le (a):Le (AS a) (Mt a):=by unfold AS Mt;infer_instance
def W5:type_of% @H7:=fun p1 x1=>cond (decide (x1< (p1.length:Int))) ((B7 p1 x1).bind fun v1=>(AS v1).bind fun v2=>cond v2 (some (.out (.inr x1))) (some (.go (C5 (x1+1))))) (some (.out (.inl ())))
instance slices_IndexFunc_Agent_Agent_world_New_1_l1_le (a)(b):Le (W5 a b) (H7 a b):=by unfold W5 H7;infer_instance
def Z2:type_of% @K6:=fun p1=>thenS (O1 (W5 p1) 0) (fun _=>some (-1)) (fun r=>some r)
instance slices_IndexFunc_Agent_Agent_world_New_1_le (a):Le (Z2 a) (K6 a):=by unfold Z2 K6;infer_instance
def W6:type_of% @H8:=fun p1=>(Z2 p1).bind fun v1=>some (decide (v1≥0))
instance slices_ContainsFunc_Agent_Agent_world_New_1_le (a):Le (W6 a) (H8 a):=by unfold W6 H8;infer_instance
def Oa:type_of% @Ec:=fun p1 p2=>((cond ((decide (p2≥0))&& (decide (p2< (p1.Agents.length:Int)))) (B7 p1.Agents p2) (some default))).bind fun v1=>((cond (((decide (p2≥0))&& (decide (p2< (p1.Agents.length:Int))))&& (!v1.Gone)) (B7 p1.Agents p2) (some default))).bind fun v2=>some ((((decide (p2≥0))&& (decide (p2< (p1.Agents.length:Int))))&& (!v1.Gone))&& (decide (v2.Begin≤p1.Tick)))
instance world_There_le (a)(b):Le (Oa a b) (Ec a b):=by unfold Oa Ec;infer_instance
def Tk:type_of% @Ib:=fun p1=>some ((((decide (p1.S≥0))&& (decide (p1.S≤1099511627776)))&& (decide (p1.Len≥0)))&& (decide (p1.Len≤1099511627776)))
instance world_sane_le (a):Le (Tk a) (Ib a):=by unfold Tk Ib;infer_instance
def Fv:type_of% @Y7:=fun p1=>some (p1 !=p1)
instance cmp_isNaN_int64_le (a):Le (Fv a) (Y7 a):=by unfold Fv Y7;infer_instance
def Ks:type_of% @Af:=fun p1 p2=>(Fv p1).bind fun v1=>(Fv p2).bind fun v2=>cond v1 (cond v2 (some 0) (some (-1))) (cond v2 (some 1) (cond (decide (p1<p2)) (some (-1)) (cond (decide (p1>p2)) (some 1) (some 0))))
instance cmp_Compare_int64_le (a)(b):Le (Ks a b) (Af a b):=by unfold Ks Af;infer_instance
def Ue:type_of% @Ed:=fun p1 p2=>(Ks p1.From p2.From).bind fun v1=>(Fu p1.Zone_ p2.Zone_).bind fun v2=>(Tj [v1,v2]).bind fun v3=>some v3
instance roads_Passes_1_le (a)(b):Le (Ue a b) (Ed a b):=by unfold Ue Ed;infer_instance
def P7:type_of% @C7:=fun p2 x2=>((cond (decide (x2.1>p2)) (B7 x2.2 x2.1) (some default))).bind fun v1=>((cond (decide (x2.1>p2)) (B7 x2.2 (C5 (x2.1 - 1))) (some default))).bind fun v2=>((cond (decide (x2.1>p2)) (Ue v1 v2) (some default))).bind fun v3=>cond ((decide (x2.1>p2))&& (decide (v3<0))) ((B7 x2.2 (C5 (x2.1 - 1))).bind fun v4=>(B7 x2.2 x2.1).bind fun v5=>(B7 x2.2 x2.1).bind fun v6=>(B7 (Mo x2.2 x2.1 v4) (C5 (x2.1 - 1))).bind fun v7=>some (.go ((C5 (x2.1 - 1)),(Mo (Mo x2.2 x2.1 v4) (C5 (x2.1 - 1)) v5)))) (some (.out x2.2))
instance slices_insertionSortCmpFunc_Pass_a_roads_Passes_1_l2_le (a)(b):Le (P7 a b) (C7 a b):=by unfold P7 C7;infer_instance
def P8:type_of% @D5:=fun p2 p3 x1=>cond (decide (x1.1<p3)) ((O1 (P7 p2) (x1.1,x1.2)).bind fun y1=>some (.go ((C5 (x1.1+1)),y1))) (some (.out (x1.2)))
instance slices_insertionSortCmpFunc_Pass_a_roads_Passes_1_l1_le (a)(b)(c):Le (P8 a b c) (D5 a b c):=by unfold P8 D5;infer_instance
def M9:type_of% @D3:=fun p1 p2 p3=>O1 (P8 p2 p3) ((C5 (p2+1)),p1)
instance slices_insertionSortCmpFunc_Pass_a_roads_Passes_1_le (a)(b)(c):Le (M9 a b c) (D3 a b c):=by unfold M9 D3;infer_instance
def U6:type_of% @K8:=fun p2 x3=>cond (decide (x3.2≤p2)) (none) (some (.out x3.1))
instance slices_stableCmpFunc_Pass_a_roads_Passes_1_l3_le (a)(b):Le (U6 a b) (K8 a b):=by unfold U6 K8;infer_instance
def U7:type_of% @G9:=fun p2 v2 x2=>cond (decide (x2<p2)) ((O1 (U6 p2) (0,(C5 (2*x2)))).bind fun y2=>cond (decide ((C5 (y2+x2))<p2)) (none) (some (.go (C5 (x2*2))))) (some (.out (v2)))
instance slices_stableCmpFunc_Pass_a_roads_Passes_1_l2_le (a)(b)(c):Le (U7 a b c) (G9 a b c):=by unfold U7 G9;infer_instance
def U8:type_of% @D9:=fun p2 x1=>cond (decide (x1.2.1≤p2)) ((M9 x1.2.2 x1.1 x1.2.1).bind fun v1=>some (.go (x1.2.1,(C5 (x1.2.1+20)),v1))) (some (.out (x1.1,x1.2.2)))
instance slices_stableCmpFunc_Pass_a_roads_Passes_1_l1_le (a)(b):Le (U8 a b) (D9 a b):=by unfold U8 D9;infer_instance
def X3:type_of% @J9:=fun p1 p2=>(O1 (U8 p2) (0,20,p1)).bind fun y1=>(M9 y1.2 y1.1 p2).bind fun v2=>O1 (U7 p2 v2) 20
instance slices_stableCmpFunc_Pass_a_roads_Passes_1_le (a)(b):Le (X3 a b) (J9 a b):=by unfold X3 J9;infer_instance
def S4:type_of% @G0:=fun p1=>(X3 p1 (p1.length:Int)).bind fun v1=>some v1
instance slices_SortStableFunc_Pass_Pass_a_roads_Passes_1_le (a):Le (S4 a) (G0 a):=by unfold S4 G0;infer_instance
def P9:type_of% @I5:=fun p1 x2=>((cond (decide (x2>p1)) ((none:Option Unit)) (some default))).bind fun v1=>cond ((decide (x2>p1))&&false) (none) (some (.out ()))
instance slices_insertionSortCmpFunc_Pass_n_roads_Passes_1_l2_le (a)(b):Le (P9 a b) (I5 a b):=by unfold P9 I5;infer_instance
def Q0:type_of% @I6:=fun p1 p2 x1=>cond (decide (x1<p2)) ((O1 (P9 p1) x1).bind fun _=>some (.go (C5 (x1+1)))) (some (.out (())))
instance slices_insertionSortCmpFunc_Pass_n_roads_Passes_1_l1_le (a)(b)(c):Le (Q0 a b c) (I6 a b c):=by unfold Q0 I6;infer_instance
def N0:type_of% @E6:=fun p1 p2=>O1 (Q0 p1 p2) (C5 (p1+1))
instance slices_insertionSortCmpFunc_Pass_n_roads_Passes_1_le (a)(b):Le (N0 a b) (E6 a b):=by unfold N0 E6;infer_instance
def U9:type_of% @K9:=fun p1 x3=>cond (decide (x3.2≤p1)) (none) (some (.out x3.1))
instance slices_stableCmpFunc_Pass_n_roads_Passes_1_l3_le (a)(b):Le (U9 a b) (K9 a b):=by unfold U9 K9;infer_instance
def V0:type_of% @I8:=fun p1 x2=>cond (decide (x2<p1)) ((O1 (U9 p1) (0,(C5 (2*x2)))).bind fun y2=>cond (decide ((C5 (y2+x2))<p1)) (none) (some (.go (C5 (x2*2))))) (some (.out (())))
instance slices_stableCmpFunc_Pass_n_roads_Passes_1_l2_le (a)(b):Le (V0 a b) (I8 a b):=by unfold V0 I8;infer_instance
def V1:type_of% @I9:=fun p1 x1=>cond (decide (x1.2≤p1)) ((N0 x1.1 x1.2).bind fun v1=>some (.go (x1.2,(C5 (x1.2+20))))) (some (.out x1.1))
instance slices_stableCmpFunc_Pass_n_roads_Passes_1_l1_le (a)(b):Le (V1 a b) (I9 a b):=by unfold V1 I9;infer_instance
def X4:type_of% @K0:=fun p1=>(O1 (V1 p1) (0,20)).bind fun y1=>(N0 y1 p1).bind fun v2=>O1 (V0 p1) 20
instance slices_stableCmpFunc_Pass_n_roads_Passes_1_le (a):Le (X4 a) (K0 a):=by unfold X4 K0;infer_instance
def S5:type_of% @G1:=(X4 0).bind fun v1=>some ()
instance slices_SortStableFunc_Pass_Pass_n_roads_Passes_1_le:Le (S5) (G1):=by unfold S5 G1;infer_instance
def Sd:type_of% @Y8:=fun v1 x1 v2 x2 v3 x3=>cond (decide (x3.2< (v3.Parts.length:Int))) ((B7 v3.Parts x3.2).bind fun v4=>cond (v4.Lane_==v2) ((B7 v1.starts x1.2).bind fun v5=>(B7 v1.starts x1.2).bind fun v6=>(Bo x3.1 [(Pass.mk x2.2 x3.2 (C5 (v5+v4.From)) (C5 (v6+v4.To)))]).bind fun v7=>some (.go (v7,(C5 (x3.2+1))))) (some (.go (x3.1,(C5 (x3.2+1)))))) (some (.out x3.1))
instance roads_Passes_l3_le (a)(b)(c)(d)(e)(f):Le (Sd a b c d e f) (Y8 a b c d e f):=by unfold Sd Y8;infer_instance
def Se:type_of% @Y9:=fun p1 v1 x1 v2 x2=>cond (decide (x2.2< (p1.Zones.length:Int))) ((B7 p1.Zones x2.2).bind fun v3=>(O1 (Sd v1 x1 v2 x2 v3) (x2.1,0)).bind fun y3=>some (.go (y3,(C5 (x2.2+1))))) (some (.out x2.1))
instance roads_Passes_l2_le (a)(b)(c)(d)(e):Le (Se a b c d e) (Y9 a b c d e):=by unfold Se Y9;infer_instance
def Sf:type_of% @P0:=fun p1 v1 x1=>cond (decide (x1.2< (v1.lanes.length:Int))) ((B7 v1.lanes x1.2).bind fun v2=>(O1 (Se p1 v1 x1 v2) (x1.1,0)).bind fun y2=>some (.go (y2,(C5 (x1.2+1))))) (some (.out x1.1))
instance roads_Passes_l1_le (a)(b)(c):Le (Sf a b c) (P0 a b c):=by unfold Sf P0;infer_instance
def Yr:type_of% @Ai:=fun p1 p2=>(Lv p1 p2).bind fun v1=>(O1 (Sf p1 v1) ([],0)).bind fun y1=>cond (List.isEmpty y1) ((S5).bind fun v9=>some []) ((S4 y1).bind fun v8=>some v8)
instance roads_Passes_le (a)(b):Le (Yr a b) (Ai a b):=by unfold Yr Ai;infer_instance
def Nk:type_of% @Bh:=fun p1 p2 p3=>some (((p1.Zone_==p2)&& (decide (p1.From≤p3.to)))&& (decide (p3.from_≤p1.To)))
instance world_Present_1_b_b_le (a)(b)(c):Le (Nk a b c) (Bh a b c):=by unfold Nk Bh;infer_instance
def S8:type_of% @G3:=fun p1 p2 p3 x1=>cond (decide (x1< (p1.length:Int))) ((B7 p1 x1).bind fun v1=>(Nk v1 p2 p3).bind fun v2=>cond v2 (some (.out (.inr x1))) (some (.go (C5 (x1+1))))) (some (.out (.inl ())))
instance slices_IndexFunc_Pass_Pass_world_Present_1bb_l1_le (a)(b)(c)(d):Le (S8 a b c d) (G3 a b c d):=by unfold S8 G3;infer_instance
def V7:type_of% @J2:=fun p1 p2 p3=>thenS (O1 (S8 p1 p2 p3) 0) (fun _=>some (-1)) (fun r=>some r)
instance slices_IndexFunc_Pass_Pass_world_Present_1bb_le (a)(b)(c):Le (V7 a b c) (J2 a b c):=by unfold V7 J2;infer_instance
def S9:type_of% @G4:=fun p1 p2 p3=>(V7 p1 p2 p3).bind fun v1=>some (decide (v1≥0))
instance slices_ContainsFunc_Pass_Pass_world_Present_1bb_le (a)(b)(c):Le (S9 a b c) (G4 a b c):=by unfold S9 G4;infer_instance
def Wq:type_of% @Fl:=fun p1 p2 p3 p4=>(Tk p2).bind fun v1=>((cond (!(!v1)) (Tk p3) (some default))).bind fun v2=>cond ((!v1)||(!v2)) (some false) ((Jw p2).bind fun v3=>(Yr p1 p2.Route).bind fun v4=>(S9 v4 p4 (WorldSpan.mk v3.from_ p3.S)).bind fun v5=>some v5)
instance world_Present_le (a)(b)(c)(d):Le (Wq a b c d) (Fl a b c d):=by unfold Wq Fl;infer_instance
def Bf:type_of% @N9:=fun p1 p2 p3=>(Oa p1.before p2).bind fun v1=>((cond v1 (B7 p1.before.Agents p2) (some default))).bind fun v2=>((cond v1 (B7 p1.after.Agents p2) (some default))).bind fun v3=>((cond v1 (Wq p1.m v2 v3 p3) (some default))).bind fun v4=>some (v1&&v4)
instance world_scene_present_b_le (a)(b)(c):Le (Bf a b c) (N9 a b c):=by unfold Bf N9;infer_instance
def P3:type_of% @D4:=fun p1 p2 x1=>cond (decide (x1.1<x1.2)) ((B7 p1 (C5 ((IntKind.wrap .u64 (C5 (x1.1+x1.2))).fdiv (2^ (min (1:Int).toNat (IntKind.bits .u64)))))).bind fun v1=>(Qs v1 p2).bind fun v2=>cond (decide (v2<0)) (some (.go ((C5 ((C5 ((IntKind.wrap .u64 (C5 (x1.1+x1.2))).fdiv (2^ (min (1:Int).toNat (IntKind.bits .u64)))))+1)),x1.2))) (some (.go (x1.1,(C5 ((IntKind.wrap .u64 (C5 (x1.1+x1.2))).fdiv (2^ (min (1:Int).toNat (IntKind.bits .u64))))))))) (some (.out x1.1))
instance slices_BinarySearchFunc_Stay_Stay_Stay_world_order_l1_le (a)(b)(c):Le (P3 a b c) (D4 a b c):=by unfold P3 D4;infer_instance
def L3:type_of% @D0:=fun p1 p2=>(O1 (P3 p1 p2) (0,(p1.length:Int))).bind fun y1=>((cond (decide (y1< (p1.length:Int))) (B7 p1 y1) (some default))).bind fun v3=>((cond (decide (y1< (p1.length:Int))) (Qs v3 p2) (some default))).bind fun v4=>some (y1,((decide (y1< (p1.length:Int)))&& (v4==0)))
instance slices_BinarySearchFunc_Stay_Stay_Stay_world_order_le (a)(b):Le (L3 a b) (D0 a b):=by unfold L3 D0;infer_instance
def Uf:type_of% @Gb:=fun p1 p2=>some (p1.Lane_==p2)
instance roads_part_1_b_le (a)(b):Le (Uf a b) (Gb a b):=by unfold Uf Gb;infer_instance
def W7:type_of% @H9:=fun p1 p2 x1=>cond (decide (x1< (p1.length:Int))) ((B7 p1 x1).bind fun v1=>(Uf v1 p2).bind fun v2=>cond v2 (some (.out (.inr x1))) (some (.go (C5 (x1+1))))) (some (.out (.inl ())))
instance slices_IndexFunc_Part_Part_roads_part_1b_l1_le (a)(b)(c):Le (W7 a b c) (H9 a b c):=by unfold W7 H9;infer_instance
def Z3:type_of% @K7:=fun p1 p2=>thenS (O1 (W7 p1 p2) 0) (fun _=>some (-1)) (fun r=>some r)
instance slices_IndexFunc_Part_Part_roads_part_1b_le (a)(b):Le (Z3 a b) (K7 a b):=by unfold Z3 K7;infer_instance
def DN:type_of% @Mu:=fun p1 p2=>(Z3 p1.Parts p2).bind fun v1=>cond (decide (v1<0)) (some ((Part.mk 0 0 0 0),false)) ((B7 p1.Parts v1).bind fun v2=>some (v2,true))
instance roads_part_le (a)(b):Le (DN a b) (Mu a b):=by unfold DN Mu;infer_instance
def Pj:type_of% @Cu:=fun p1 p2 p3=>(B7 p2.Zones p3).bind fun v1=>(DN v1 p1).bind fun v2=>some v2.2
instance roads_Entry_1_b_b_le (a)(b)(c):Le (Pj a b c) (Cu a b c):=by unfold Pj Cu;infer_instance
def W8:type_of% @I0:=fun p1 p2 p3 x1=>cond (decide (x1< (p1.length:Int))) ((B7 p1 x1).bind fun v1=>(Pj v1 p2 p3).bind fun v2=>cond v2 (some (.out (.inr x1))) (some (.go (C5 (x1+1))))) (some (.out (.inl ())))
instance slices_IndexFunc_int_int_roads_Entry_1bb_l1_le (a)(b)(c)(d):Le (W8 a b c d) (I0 a b c d):=by unfold W8 I0;infer_instance
def Z4:type_of% @J0:=fun p1 p2 p3=>thenS (O1 (W8 p1 p2 p3) 0) (fun _=>some (-1)) (fun r=>some r)
instance slices_IndexFunc_int_int_roads_Entry_1bb_le (a)(b)(c):Le (Z4 a b c) (J0 a b c):=by unfold Z4 J0;infer_instance
def AT:type_of% @Jt:=fun p1 p2 p3=>(Lv p1 p2).bind fun v1=>cond ((decide (p3<0))||(decide (p3≥(p1.Zones.length:Int)))) (some (-1)) ((Z4 v1.lanes p1 p3).bind fun v2=>some v2)
instance roads_Entry_le (a)(b)(c):Le (AT a b c) (Jt a b c):=by unfold AT Jt;infer_instance
def Qu:type_of% @Fm:=fun p1 p2 p3=>(AT p1 p2 p3).bind fun v1=>cond (decide (v1≥0)) ((B7 p2 v1).bind fun v2=>some v2) (some (-1))
instance world_entry_le (a)(b)(c):Le (Qu a b c) (Fm a b c):=by unfold Qu Fm;infer_instance
def Zk:type_of% @Ol:=fun p1 p2=>((cond ((decide (p2≥0))&& (decide (p2< (p1.Lanes.length:Int)))) (Nz p1) (some default))).bind fun v1=>some (((decide (p2≥0))&& (decide (p2< (p1.Lanes.length:Int))))&& (v1==0))
instance roads_is_le (a)(b):Le (Zk a b) (Ol a b):=by unfold Zk Ol;infer_instance
def Ug:type_of% @Z0:=fun p1 p2 x2=>cond (decide (x2.2< (p1.Phases.length:Int))) ((B7 p1.Phases x2.2).bind fun v5=>cond (decide (x2.1≥v5.Ticks)) (some (.go ((C5 (x2.1 - v5.Ticks)),(C5 (x2.2+1))))) ((Br v5.Green p2).bind fun v6=>some (.out (.inr v6)))) (some (.out (.inl ())))
instance signs_Green_l2_le (a)(b)(c):Le (Ug a b c) (Z0 a b c):=by unfold Ug Z0;infer_instance
def Uh:type_of% @At:=fun p1 x1=>cond (decide (x1.2< (p1.Phases.length:Int))) ((B7 p1.Phases x1.2).bind fun v1=>some (.go ((C5 (x1.1+v1.Ticks)),(C5 (x1.2+1))))) (some (.out x1.1))
instance signs_Green_l1_le (a)(b):Le (Uh a b) (At a b):=by unfold Uh At;infer_instance
def Ve:type_of% @Hh:=fun p1 p2 p3=>(O1 (Uh p1) (0,0)).bind fun y1=>(ER p1.Offset y1).bind fun v2=>(ER p3 y1).bind fun v3=>(ER (C5 (v2+v3)) y1).bind fun v4=>thenS (O1 (Ug p1 p2) (v4,0)) (fun _=>some false) (fun r=>some r)
instance signs_Green_le (a)(b)(c):Le (Ve a b c) (Hh a b c):=by unfold Ve Hh;infer_instance
def AU:type_of% @Ju:=fun p1 p2 p3 p4=>((cond (((decide (p4≥0))&& (decide (p2≥0)))&& (decide (p2< (p1.Signals.length:Int)))) (Zk p1 p3) (some default))).bind fun v1=>((cond ((((decide (p4≥0))&& (decide (p2≥0)))&& (decide (p2< (p1.Signals.length:Int))))&&v1) (B7 p1.Signals p2) (some default))).bind fun v2=>((cond ((((decide (p4≥0))&& (decide (p2≥0)))&& (decide (p2< (p1.Signals.length:Int))))&&v1) (Ve v2 p3 p4) (some default))).bind fun v3=>some (((((decide (p4≥0))&& (decide (p2≥0)))&& (decide (p2< (p1.Signals.length:Int))))&&v1)&&v3)
instance roads_Green_le (a)(b)(c)(d):Le (AU a b c d) (Ju a b c d):=by unfold AU Ju;infer_instance
def Ui:type_of% @Gc:=fun p1 p2=>some (p1.Lane_==p2)
instance world_Rank_1_b_le (a)(b):Le (Ui a b) (Gc a b):=by unfold Ui Gc;infer_instance
def W9:type_of% @I3:=fun p1 p2 x1=>cond (decide (x1< (p1.length:Int))) ((B7 p1 x1).bind fun v1=>(Ui v1 p2).bind fun v2=>cond v2 (some (.out (.inr x1))) (some (.go (C5 (x1+1))))) (some (.out (.inl ())))
instance slices_IndexFunc_Part_Part_world_Rank_1b_l1_le (a)(b)(c):Le (W9 a b c) (I3 a b c):=by unfold W9 I3;infer_instance
def Z5:type_of% @J1:=fun p1 p2=>thenS (O1 (W9 p1 p2) 0) (fun _=>some (-1)) (fun r=>some r)
instance slices_IndexFunc_Part_Part_world_Rank_1b_le (a)(b):Le (Z5 a b) (J1 a b):=by unfold Z5 J1;infer_instance
def Ya:type_of% @Ic:=fun p1 p2 p3 p4=>(Qu p1 p2.Route p3).bind fun v1=>cond (decide (v1<0)) (some 0) ((B7 p1.Zones p3).bind fun v2=>((cond (decide (v2.Signal_>0)) (AU p1 (C5 (v2.Signal_ - 1)) v1 p4) (some default))).bind fun v3=>cond ((decide (v2.Signal_>0))&&v3) (some 2) (cond (decide (v2.Signal_>0)) (some 0) ((Z5 v2.Parts v1).bind fun v4=>(B7 v2.Parts v4).bind fun v5=>some v5.Rank)))
instance world_Rank_le (a)(b)(c)(d):Le (Ya a b c d) (Ic a b c d):=by unfold Ya Ic;infer_instance
def Jm:type_of% @Q4:=fun p1 x1 v1 x2=>cond (decide (x2.1< (p1.m.Zones.length:Int))) ((Bf (WorldScene.mk p1.m p1.before (State.mk p1.after.Tick p1.after.Agents x2.2) p1.acts p1.crashes) x1.1 x2.1).bind fun v2=>cond (!v2) (some (.go ((C5 (x2.1+1)),x2.2))) ((L3 p1.before.In (Stay.mk x1.1 x2.1 p1.before.Tick 0)).bind fun v3=>(cond v3.2 ((B7 p1.before.In v3.1).bind fun v4=>some v4) ((Ya p1.m v1 x2.1 p1.before.Tick).bind fun v5=>some (Stay.mk x1.1 x2.1 p1.before.Tick v5))).bind fun y2=>(Bo x2.2 [y2]).bind fun v6=>some (.go ((C5 (x2.1+1)),v6)))) (some (.out x2.2))
instance world_scene_stays_o_l2_le (a)(b)(c)(d):Le (Jm a b c d) (Q4 a b c d):=by unfold Jm Q4;infer_instance
def Jn:type_of% @U2:=fun p1 x1=>cond (decide (x1.1< (p1.before.Agents.length:Int))) ((B7 p1.before.Agents x1.1).bind fun v1=>(O1 (Jm p1 x1 v1) (0,x1.2)).bind fun y1=>some (.go ((C5 (x1.1+1)),y1))) (some (.out ((WorldScene.mk p1.m p1.before (State.mk p1.after.Tick p1.after.Agents x1.2) p1.acts p1.crashes))))
instance world_scene_stays_o_l1_le (a)(b):Le (Jn a b) (U2 a b):=by unfold Jn U2;infer_instance
def Nl:type_of% @Z9:=fun p1=>O1 (Jn p1) (0,[])
instance world_scene_stays_o_le (a):Le (Nl a) (Z9 a):=by unfold Nl Z9;infer_instance
def MH (s:State)(i:Nat):Nat→Nat→Option (List (Int×Int))
  |0,_=>some []
  |k+1,j=>(Oa s i).bind fun a=>(Oa s j).bind fun b=>(MH s i k (j+1)).bind fun l=>some (cond (a&&b) (((i:Int),(j:Int))::l) l)
instance pairsJ_le (s:State)(i:Nat): ∀(k j:Nat),Le (MH s i k j) (Yk s i k j)
  |0,j=>Le.refl _
  |k+1,j=>by
   rw [Yk,MH]
   have:=fun j=>pairsJ_le s i k j
   infer_instance
def MI (s:State)(n:Nat):Nat→Nat→Option (List (Int×Int))
  |0,_=>some []
  |k+1,i=>(MH s i (n - (i+1)) (i+1)).bind fun a=>(MI s n k (i+1)).bind fun b=>some (a++b)
instance pairsI_le (s:State)(n:Nat): ∀(k i:Nat),Le (MI s n k i) (AM s n k i)
  |0,i=>Le.refl _
  |k+1,i=>by
   rw [AM,MI]
   have:=fun i=>pairsI_le s n k i
   infer_instance
def MJ:type_of% @AN:=fun s=>if s.Agents.length≤1000000 then MI s s.Agents.length s.Agents.length 0 else none
instance pairsC_le (a):Le (MJ a) (AN a):=by unfold MJ AN;infer_instance
def Fw:type_of% @Az:=fun p1 p2=>some (WorldSpan.mk (C5 (p1.from_ - p2)) (C5 (p1.to - p2)))
instance world_span_less_le (a)(b):Le (Fw a b) (Az a b):=by unfold Fw Az;infer_instance
def Ox:type_of% @Dy:=fun p1 p2=>(Zk p1 p2).bind fun v1=>cond (!v1) (some 0) ((Pv p1 p2).bind fun v2=>some v2)
instance roads_Length_le (a)(b):Le (Ox a b) (Dy a b):=by unfold Ox Dy;infer_instance
def Pb:type_of% @Cv:=fun p1 p2=>some (WorldSpan.mk (Us true p1.from_ p2.from_) (Us false p1.to p2.to))
instance world_span_and_le (a)(b):Le (Pb a b) (Cv a b):=by unfold Pb Cv;infer_instance
def Mi:type_of% @Be:=fun p1=>some (decide (p1.from_>p1.to))
instance world_span_empty_le (a):Le (Mi a) (Be a):=by unfold Mi Be;infer_instance
def Wr:type_of% @Dz:=fun p1 p2 v2 x1=>cond (decide (x1.2< (v2.length:Int))) ((B7 v2 x1.2).bind fun v3=>(B7 p2.Route x1.2).bind fun v4=>(Jw p2).bind fun v5=>(Fw v5 v3).bind fun v6=>(Ox p1 v4).bind fun v7=>(Pb v6 (WorldSpan.mk 0 v7)).bind fun v8=>(Mi v8).bind fun v9=>cond (!v9) ((Bo x1.1 [(Span.mk v4 v8.from_ v8.to)]).bind fun v10=>some (.go (v10,(C5 (x1.2+1))))) (some (.go (x1.1,(C5 (x1.2+1)))))) (some (.out x1.1))
instance world_Body_l1_le (a)(b)(c)(d):Le (Wr a b c d) (Dz a b c d):=by unfold Wr Dz;infer_instance
def Yb:type_of% @Kh:=fun p1 p2=>(Tk p2).bind fun v1=>cond (!v1) (some []) ((Ow p1 p2.Route).bind fun v2=>(O1 (Wr p1 p2 v2) ([],0)).bind fun y1=>some y1)
instance world_Body_le (a)(b):Le (Yb a b) (Kh a b):=by unfold Yb Kh;infer_instance
def Mc:type_of% @Au:=fun p1 p2=>((cond (p2.Lane_==p1.Lane_) (Pb (WorldSpan.mk p2.From p2.To) (WorldSpan.mk p1.From p1.To)) (some default))).bind fun v1=>((cond (p2.Lane_==p1.Lane_) (Mi v1) (some default))).bind fun v2=>some ((p2.Lane_==p1.Lane_)&& (!v2))
instance world_Touching_1_1_b_le (a)(b):Le (Mc a b) (Au a b):=by unfold Mc Au;infer_instance
def R2:type_of% @F5:=fun p1 p2 x1=>cond (decide (x1< (p1.length:Int))) ((B7 p1 x1).bind fun v1=>(Mc v1 p2).bind fun v2=>cond v2 (some (.out (.inr x1))) (some (.go (C5 (x1+1))))) (some (.out (.inl ())))
instance slices_IndexFunc_Span_Span_world_Touching_1_1b_l1_le (a)(b)(c):Le (R2 a b c) (F5 a b c):=by unfold R2 F5;infer_instance
def U3:type_of% @I4:=fun p1 p2=>thenS (O1 (R2 p1 p2) 0) (fun _=>some (-1)) (fun r=>some r)
instance slices_IndexFunc_Span_Span_world_Touching_1_1b_le (a)(b):Le (U3 a b) (I4 a b):=by unfold U3 I4;infer_instance
def R3:type_of% @F6:=fun p1 p2=>(U3 p1 p2).bind fun v1=>some (decide (v1≥0))
instance slices_ContainsFunc_Span_Span_world_Touching_1_1b_le (a)(b):Le (R3 a b) (F6 a b):=by unfold R3 F6;infer_instance
def Oi:type_of% @By:=fun p1 p2=>(R3 p2 p1).bind fun v1=>some v1
instance world_Touching_1_b_le (a)(b):Le (Oi a b) (By a b):=by unfold Oi By;infer_instance
def T0:type_of% @G5:=fun p1 p2 x1=>cond (decide (x1< (p1.length:Int))) ((B7 p1 x1).bind fun v1=>(Oi v1 p2).bind fun v2=>cond v2 (some (.out (.inr x1))) (some (.go (C5 (x1+1))))) (some (.out (.inl ())))
instance slices_IndexFunc_Span_Span_world_Touching_1b_l1_le (a)(b)(c):Le (T0 a b c) (G5 a b c):=by unfold T0 G5;infer_instance
def V8:type_of% @J3:=fun p1 p2=>thenS (O1 (T0 p1 p2) 0) (fun _=>some (-1)) (fun r=>some r)
instance slices_IndexFunc_Span_Span_world_Touching_1b_le (a)(b):Le (V8 a b) (J3 a b):=by unfold V8 J3;infer_instance
def T1:type_of% @G6:=fun p1 p2=>(V8 p1 p2).bind fun v1=>some (decide (v1≥0))
instance slices_ContainsFunc_Span_Span_world_Touching_1b_le (a)(b):Le (T1 a b) (G6 a b):=by unfold T1 G6;infer_instance
def Uj:type_of% @Ee:=fun p1 p2 p3=>(Yb p1 p3).bind fun v1=>(Yb p1 p2).bind fun v2=>(T1 v2 v1).bind fun v3=>some v3
instance world_Touching_le (a)(b)(c):Le (Uj a b c) (Ee a b c):=by unfold Uj Ee;infer_instance
def Ht:type_of% @W2:=fun p1 p2 p3 p4=>(Bf p1 p2 p4).bind fun v1=>((cond v1 (Bf p1 p3 p4) (some default))).bind fun v2=>((cond (v1&&v2) (B7 p1.before.Agents p2) (some default))).bind fun v3=>((cond (v1&&v2) (Qu p1.m v3.Route p4) (some default))).bind fun v4=>((cond (v1&&v2) (B7 p1.before.Agents p3) (some default))).bind fun v5=>((cond (v1&&v2) (Qu p1.m v5.Route p4) (some default))).bind fun v6=>some ((v1&&v2)&& (v4 !=v6))
instance world_scene_clash_b_le (a)(b)(c)(d):Le (Ht a b c d) (W2 a b c d):=by unfold Ht W2;infer_instance
def Ys:type_of% @Fd:=fun p1 v5 a1 x2=>cond (decide (x2< (p1.Zones.length:Int))) ((Ht v5 a1.1 a1.2 x2).bind fun v10=>cond v10 (some (.out (.inr ((State.mk 0 [] []),12)))) (some (.go (C5 (x2+1))))) (some (.out (.inl ())))
instance world_New_l3_le (a)(b)(c)(d):Le (Ys a b c d) (Fd a b c d):=by unfold Ys Fd;infer_instance
def Yt:type_of% @Hl:=fun p1 p2 v5 x1 a1=>(B7 p2 a1.1).bind fun v7=>(B7 p2 a1.2).bind fun v8=>(Uj p1 v7 v8).bind fun v9=>cond v9 (some (.out (.inr ((State.mk 0 [] []),12)))) (thenS (O1 (Ys p1 v5 a1) 0) (fun _=>some (.go ())) (fun r=>some (.out (.inr r))))
instance world_New_l2_le (a)(b)(c)(d)(e):Le (Yt a b c d e) (Hl a b c d e):=by unfold Yt Hl;infer_instance
def Yu:type_of% @Ns:=some ()
instance world_New_i1_le:Le (Yu) (Ns):=by unfold Yu Ns;infer_instance
def GO:type_of% @Nt:=fun p1 p2=>(Xv (State.mk 0 p2 [])).bind fun v1=>(Qt p1 v1).bind fun v2=>cond (v2 !=0) (some ((State.mk 0 [] []),v2)) ((W6 p2).bind fun v3=>cond v3 (some ((State.mk 0 [] []),10)) ((Xv v1).bind fun v4=>(Nl (WorldScene.mk p1 v1 v4 [] [])).bind fun v5=>(Yu).bind fun y1=>thenS ((MJ v5.before).bind fun v6=>loopL (Yt p1 p2 v5) (fun (x1:Unit)=> .inl ()) v6 ()) (fun _=>some (v5.after,0)) (fun r=>some r)))
instance world_New_le (a)(b):Le (GO a b) (Nt a b):=by unfold GO Nt;infer_instance
def Sg:type_of% @Gx:=fun p1=>(cond (decide (p1≥4294967296)) (some ((p1.fdiv (2^ (min (32:Int).toNat (IntKind.bits .u64)))),32)) (some (p1,0))).bind fun y1=>(cond (decide (y1.1≥65536)) (some ((y1.1.fdiv (2^ (min (16:Int).toNat (IntKind.bits .u64)))),(C5 (y1.2+16)))) (some (y1.1,y1.2))).bind fun y2=>cond (decide (y2.1≥256)) ((cY (ByteArray.mk #[0,1,2,2,3,3,3,3,4,4,4,4,4,4,4,4,5,5,5,5,5,5,5,5,5,5,5,5,5,5,5,5,6,6,6,6,6,6,6,6,6,6,6,6,6,6,6,6,6,6,6,6,6,6,6,6,6,6,6,6,6,6,6,6,7,7,7,7,7,7,7,7,7,7,7,7,7,7,7,7,7,7,7,7,7,7,7,7,7,7,7,7,7,7,7,7,7,7,7,7,7,7,7,7,7,7,7,7,7,7,7,7,7,7,7,7,7,7,7,7,7,7,7,7,7,7,7,7,8,8,8,8,8,8,8,8,8,8,8,8,8,8,8,8,8,8,8,8,8,8,8,8,8,8,8,8,8,8,8,8,8,8,8,8,8,8,8,8,8,8,8,8,8,8,8,8,8,8,8,8,8,8,8,8,8,8,8,8,8,8,8,8,8,8,8,8,8,8,8,8,8,8,8,8,8,8,8,8,8,8,8,8,8,8,8,8,8,8,8,8,8,8,8,8,8,8,8,8,8,8,8,8,8,8,8,8,8,8,8,8,8,8,8,8,8,8,8,8,8,8,8,8,8,8,8,8]) (IntKind.wrap .u8 (y2.1.fdiv (2^ (min (8:Int).toNat (IntKind.bits .u64)))))).bind fun v1=>some (C5 ((C5 (y2.2+8))+ (C5 v1)))) ((cY (ByteArray.mk #[0,1,2,2,3,3,3,3,4,4,4,4,4,4,4,4,5,5,5,5,5,5,5,5,5,5,5,5,5,5,5,5,6,6,6,6,6,6,6,6,6,6,6,6,6,6,6,6,6,6,6,6,6,6,6,6,6,6,6,6,6,6,6,6,7,7,7,7,7,7,7,7,7,7,7,7,7,7,7,7,7,7,7,7,7,7,7,7,7,7,7,7,7,7,7,7,7,7,7,7,7,7,7,7,7,7,7,7,7,7,7,7,7,7,7,7,7,7,7,7,7,7,7,7,7,7,7,7,8,8,8,8,8,8,8,8,8,8,8,8,8,8,8,8,8,8,8,8,8,8,8,8,8,8,8,8,8,8,8,8,8,8,8,8,8,8,8,8,8,8,8,8,8,8,8,8,8,8,8,8,8,8,8,8,8,8,8,8,8,8,8,8,8,8,8,8,8,8,8,8,8,8,8,8,8,8,8,8,8,8,8,8,8,8,8,8,8,8,8,8,8,8,8,8,8,8,8,8,8,8,8,8,8,8,8,8,8,8,8,8,8,8,8,8,8,8,8,8,8,8,8,8,8,8,8,8]) (IntKind.wrap .u8 y2.1)).bind fun v2=>some (C5 (y2.2+ (C5 v2))))
instance math_bits_Len64_le (a):Le (Sg a) (Gx a):=by unfold Sg Gx;infer_instance
def Qv:type_of% @Ie:=fun p1=>(Sg p1).bind fun v1=>some v1
instance math_bits_Len_le (a):Le (Qv a) (Ie a):=by unfold Qv Ie;infer_instance
def Uk:type_of% @Ja:=fun p1 p2=>(Fv p1).bind fun v1=>((cond v1 (Fv p2) (some default))).bind fun v2=>some ((v1&& (!v2))||(decide (p1<p2)))
instance cmp_Less_int64_le (a)(b):Le (Uk a b) (Ja a b):=by unfold Uk Ja;infer_instance
def Ak:type_of% @M2:=fun p2 x2=>((cond (decide (x2.1>p2)) (B7 x2.2 x2.1) (some default))).bind fun v1=>((cond (decide (x2.1>p2)) (B7 x2.2 (C5 (x2.1 - 1))) (some default))).bind fun v2=>((cond (decide (x2.1>p2)) (Uk v1 v2) (some default))).bind fun v3=>cond ((decide (x2.1>p2))&&v3) ((B7 x2.2 (C5 (x2.1 - 1))).bind fun v4=>(B7 x2.2 x2.1).bind fun v5=>(B7 x2.2 x2.1).bind fun v6=>(B7 (Mo x2.2 x2.1 v4) (C5 (x2.1 - 1))).bind fun v7=>some (.go ((C5 (x2.1 - 1)),(Mo (Mo x2.2 x2.1 v4) (C5 (x2.1 - 1)) v5)))) (some (.out x2.2))
instance slices_insertionSortOrdered_int64_a_l2_le (a)(b):Le (Ak a b) (M2 a b):=by unfold Ak M2;infer_instance
def Al:type_of% @M3:=fun p2 p3 x1=>cond (decide (x1.1<p3)) ((O1 (Ak p2) (x1.1,x1.2)).bind fun y1=>some (.go ((C5 (x1.1+1)),y1))) (some (.out (x1.2)))
instance slices_insertionSortOrdered_int64_a_l1_le (a)(b)(c):Le (Al a b c) (M3 a b c):=by unfold Al M3;infer_instance
def Bk:type_of% @N7:=fun p1 p2 p3=>O1 (Al p2 p3) ((C5 (p2+1)),p1)
instance slices_insertionSortOrdered_int64_a_le (a)(b)(c):Le (Bk a b c) (N7 a b c):=by unfold Bk N7;infer_instance
def Cg:type_of% @O7:=fun p1 x1=>cond (decide ((C5 (x1.2.1 - x1.1))≤12)) ((Bk p1 x1.1 x1.2.1).bind fun v1=>some (.out (v1))) (cond (x1.2.2.1==0) (none) ((cond (!x1.2.2.2.1) (none) (some ())).bind fun _=>none))
instance slices_pdqsortOrdered_int64_a_l1_le (a)(b):Le (Cg a b) (O7 a b):=by unfold Cg O7;infer_instance
def Dm:type_of% @R9:=fun p1 p2 p3 p4=>O1 (Cg p1) (p2,p3,p4,true,true)
instance slices_pdqsortOrdered_int64_a_le (a)(b)(c)(d):Le (Dm a b c d) (R9 a b c d):=by unfold Dm R9;infer_instance
def Gi:type_of% @X8:=fun p1=>(Qv (IntKind.wrap .u64 (p1.length:Int))).bind fun v1=>(Dm p1 0 (p1.length:Int) v1).bind fun v2=>some v2
instance slices_Sort_int64_int64_a_le (a):Le (Gi a) (X8 a):=by unfold Gi X8;infer_instance
def Am:type_of% @M4:=fun p1 x2=>((cond (decide (x2>p1)) ((none:Option Unit)) (some default))).bind fun v1=>cond ((decide (x2>p1))&&false) (none) (some (.out ()))
instance slices_insertionSortOrdered_int64_n_l2_le (a)(b):Le (Am a b) (M4 a b):=by unfold Am M4;infer_instance
def An:type_of% @M5:=fun p1 p2 x1=>cond (decide (x1<p2)) ((O1 (Am p1) x1).bind fun _=>some (.go (C5 (x1+1)))) (some (.out (())))
instance slices_insertionSortOrdered_int64_n_l1_le (a)(b)(c):Le (An a b c) (M5 a b c):=by unfold An M5;infer_instance
def Bl:type_of% @N8:=fun p1 p2=>O1 (An p1 p2) (C5 (p1+1))
instance slices_insertionSortOrdered_int64_n_le (a)(b):Le (Bl a b) (N8 a b):=by unfold Bl N8;infer_instance
def Ci:type_of% @O8:=fun x1=>cond (decide ((C5 (x1.2.1 - x1.1))≤12)) ((Bl x1.1 x1.2.1).bind fun v1=>some (.out (()))) (cond (x1.2.2.1==0) (none) ((cond (!x1.2.2.2.1) (none) (some ())).bind fun _=>none))
instance slices_pdqsortOrdered_int64_n_l1_le (a):Le (Ci a) (O8 a):=by unfold Ci O8;infer_instance
def Dn:type_of% @S3:=fun p1 p2 p3=>O1 (Ci) (p1,p2,p3,true,true)
instance slices_pdqsortOrdered_int64_n_le (a)(b)(c):Le (Dn a b c) (S3 a b c):=by unfold Dn S3;infer_instance
def Gj:type_of% @X9:=(Qv (IntKind.wrap .u64 0)).bind fun v1=>(Dn 0 0 v1).bind fun v2=>some ()
instance slices_Sort_int64_int64_n_le:Le (Gj) (X9):=by unfold Gj X9;infer_instance
def Yv:type_of% @Nu:=fun p1 p2 p3 v1 x2=>cond (decide (x2.2< (v1.Parts.length:Int))) ((B7 v1.Parts x2.2).bind fun v2=>((cond (v2.Lane_==p2) (B7 p1.Signals (C5 (v1.Signal_ - 1))) (some default))).bind fun v3=>((cond (v2.Lane_==p2) (Ve v3 p2 p3) (some default))).bind fun v4=>cond ((v2.Lane_==p2)&& (!v4)) ((Bo x2.1 [v2.From]).bind fun v5=>some (.go (v5,(C5 (x2.2+1))))) (some (.go (x2.1,(C5 (x2.2+1)))))) (some (.out x2.1))
instance signs_Red_l2_le (a)(b)(c)(d)(e):Le (Yv a b c d e) (Nu a b c d e):=by unfold Yv Nu;infer_instance
def Yw:type_of% @Nv:=fun p1 p2 p3 x1=>cond (decide (x1.2< (p1.Zones.length:Int))) ((B7 p1.Zones x1.2).bind fun v1=>cond (v1.Signal_==0) (some (.go (x1.1,(C5 (x1.2+1))))) ((O1 (Yv p1 p2 p3 v1) (x1.1,0)).bind fun y2=>some (.go (y2,(C5 (x1.2+1)))))) (some (.out x1.1))
instance signs_Red_l1_le (a)(b)(c)(d):Le (Yw a b c d) (Nv a b c d):=by unfold Yw Nv;infer_instance
def GP:type_of% @Vk:=fun p1 p2 p3=>(O1 (Yw p1 p2 p3) ([],0)).bind fun y1=>cond (List.isEmpty y1) ((Gj).bind fun v8=>some []) ((Gi y1).bind fun v6=>(II v6).bind fun v7=>some v7)
instance signs_Red_le (a)(b)(c):Le (GP a b c) (Vk a b c):=by unfold GP Vk;infer_instance
def GQ:type_of% @Vl:=fun p1 p2 p3=>((cond (!(decide (p3<0))) (Zk p1 p2) (some default))).bind fun v1=>cond ((decide (p3<0))||(!v1)) (some []) ((GP p1 p2 p3).bind fun v2=>some v2)
instance roads_Red_le (a)(b)(c):Le (GQ a b c) (Vl a b c):=by unfold GQ Vl;infer_instance
def Mj:type_of% @Dh:=fun p1 p2 p3=>some (Us true 0 (Us false (C5 (p2.V+p1)) p3))
instance world_move_1_b_b_le (a)(b)(c):Le (Mj a b c) (Dh a b c):=by unfold Mj Dh;infer_instance
def Tl:type_of% @Mx:=fun p1 p2=>cond ((decide (p1<1))||(decide (p2<1))) (some 0) ((gK .i64 (C5 ((Us false p1 1000000) - 1)) (Us false p2 1000000)).bind fun v1=>some (C5 ((C5 (v1* (Us false p1 1000000))) - (C5 ((Us false p2 1000000)* (C5 ((C5 (v1* (C5 (v1+1)))).tdiv 2)))))))
instance world_Stop_le (a)(b):Le (Tl a b) (Mx a b):=by unfold Tl Mx;infer_instance
def Kt:type_of% @Bm:=fun p1 p2 p3 p4 p5=>((cond (decide (p1>p2)) (Tl p3 p4) (some default))).bind fun v1=>((cond ((decide (p1>p2))&& (decide ((C5 (p2+v1))<p1))) (Tl p5 p4) (some default))).bind fun v2=>some (((decide (p1>p2))&& (decide ((C5 (p2+v1))<p1)))&& (decide ((C5 ((C5 (p2+p5))+v2))≥p1)))
instance world_keeps_1_b_b_b_b_le (a)(b)(c)(d)(e):Le (Kt a b c d e) (Bm a b c d e):=by unfold Kt Bm;infer_instance
def R4:type_of% @J5:=fun p1 p2 p3 p4 p5 x1=>cond (decide (x1< (p1.length:Int))) ((B7 p1 x1).bind fun v1=>(Kt v1 p2 p3 p4 p5).bind fun v2=>cond v2 (some (.out (.inr x1))) (some (.go (C5 (x1+1))))) (some (.out (.inl ())))
instance slices_IndexFunc_int64_int64_world_keeps_1bbbb_l1_le (a)(b)(c)(d)(e)(f):Le (R4 a b c d e f) (J5 a b c d e f):=by unfold R4 J5;infer_instance
def U4:type_of% @K4:=fun p1 p2 p3 p4 p5=>thenS (O1 (R4 p1 p2 p3 p4 p5) 0) (fun _=>some (-1)) (fun r=>some r)
instance slices_IndexFunc_int64_int64_world_keeps_1bbbb_le (a)(b)(c)(d)(e):Le (U4 a b c d e) (K4 a b c d e):=by unfold U4 K4;infer_instance
def R5:type_of% @J6:=fun p1 p2 p3 p4 p5=>(U4 p1 p2 p3 p4 p5).bind fun v1=>some (decide (v1≥0))
instance slices_ContainsFunc_int64_int64_world_keeps_1bbbb_le (a)(b)(c)(d)(e):Le (R5 a b c d e) (J6 a b c d e):=by unfold R5 J6;infer_instance
def AX:type_of% @Ps:=fun p1 p2 p3 p4 p5=>(R5 p1 p2 p3 p5 p4).bind fun v1=>some (!v1)
instance world_keeps_le (a)(b)(c)(d)(e):Le (AX a b c d e) (Ps a b c d e):=by unfold AX Ps;infer_instance
def Ws:type_of% @Lj:=fun p2 v1 v3 v5 x1=>((cond (decide (x1>(C5 (0 - v3.2.2)))) (Mj x1 p2 v3.1) (some default))).bind fun v6=>((cond (decide (x1>(C5 (0 - v3.2.2)))) (AX v5 v1.2 p2.V v6 v3.2.2) (some default))).bind fun v7=>cond ((decide (x1>(C5 (0 - v3.2.2))))&& (!v7)) (some (.go (C5 (x1 - 1)))) (some (.out x1))
instance world_move_l1_le (a)(b)(c)(d)(e):Le (Ws a b c d e) (Lj a b c d e):=by unfold Ws Lj;infer_instance
def DO:type_of% @Rm:=fun p1 p2 p3 p4=>(Xy p1 p2).bind fun v1=>(B7 p1.Lanes v1.1).bind fun v2=>(Lu v2.Kind).bind fun v3=>((cond p2.Obey (Ox p1 v1.1) (some default))).bind fun v4=>(cond (p2.Obey&& (decide (v1.2≤v4))) ((GQ p1 v1.1 p3).bind fun v5=>(O1 (Ws p2 v1 v3 v5) (Us true (C5 (0 - v3.2.2)) (Us false p4 v3.2.1))).bind fun y2=>some y2) (some (Us true (C5 (0 - v3.2.2)) (Us false p4 v3.2.1)))).bind fun y1=>(Mj y1 p2 v3.1).bind fun v8=>(Xz p1 (Agent.mk p2.Route (C5 (p2.S+v8)) v8 p2.Len p2.Begin p2.Obey p2.Gone)).bind fun v9=>some (Agent.mk p2.Route (C5 (p2.S+v8)) v8 p2.Len p2.Begin p2.Obey v9)
instance world_move_le (a)(b)(c)(d):Le (DO a b c d) (Rm a b c d):=by unfold DO Rm;infer_instance
def DP:type_of% @Rn:=fun p1 p2 p3 p4=>cond ((decide (p3<0))||(decide (p3≥(p2.Agents.length:Int)))) (some (Agent.mk [] 0 0 0 0 false false)) ((B7 p2.Agents p3).bind fun v1=>(Lf v1).bind fun v2=>(Oa p2 p3).bind fun v3=>((cond (!(!v3)) (Qt p1 p2) (some default))).bind fun v4=>cond ((!v3)||(v4 !=0)) (some v2) ((DO p1 v2 p2.Tick p4).bind fun v5=>some v5))
instance world_Move_le (a)(b)(c)(d):Le (DP a b c d) (Rn a b c d):=by unfold DP Rn;infer_instance
def Qw:type_of% @Fs:=fun p1 x1=>cond (decide (x1.1< (p1.Agents.length:Int))) ((B7 p1.Agents x1.1).bind fun v2=>(Lf v2).bind fun v3=>(Bo x1.2.Agents [v3]).bind fun v4=>some (.go ((C5 (x1.1+1)),(State.mk x1.2.Tick v4 x1.2.In)))) (some (.out x1.2))
instance world_Copy_me_l1_le (a)(b):Le (Qw a b) (Fs a b):=by unfold Qw Fs;infer_instance
def Wt:type_of% @Lk:=fun p1=>(Eo p1.In).bind fun v1=>(O1 (Qw p1) (0,(State.mk p1.Tick [] v1))).bind fun y1=>some y1
instance world_Copy_me_le (a):Le (Wt a) (Lk a):=by unfold Wt Lk;infer_instance
def Hu:type_of% @Bi:=fun p1 p2 p3=>(B7 p1.before.Agents p2).bind fun v1=>(Gn v1.Route p3).bind fun v2=>cond (decide (v2<0)) (some (0,false)) ((Ow p1.m v1.Route).bind fun v3=>(B7 v3 v2).bind fun v4=>some (v4,true))
instance world_scene_start_b_le (a)(b)(c):Le (Hu a b c) (Bi a b c):=by unfold Hu Bi;infer_instance
def Iv:type_of% @Bz:=fun p1 p2 p3=>(L3 p1.after.In (Stay.mk p2 p3 0 0)).bind fun v1=>(B7 p1.after.In v1.1).bind fun v2=>some v2
instance world_scene_stay_b_le (a)(b)(c):Le (Iv a b c) (Bz a b c):=by unfold Iv Bz;infer_instance
def Ul:type_of% @Jb:=fun p1 p2 p3 v2 y2 y5 a1 x6=>cond (decide (x6.1< (p1.Zones.length:Int))) ((Ht (WorldScene.mk p1 p2 (State.mk v2.Tick y2 y5) p3 x6.2) a1.1 a1.2 x6.1).bind fun v28=>cond (!v28) (some (.go ((C5 (x6.1+1)),x6.2))) ((Iv (WorldScene.mk p1 p2 (State.mk v2.Tick y2 y5) p3 x6.2) a1.1 x6.1).bind fun v29=>(Iv (WorldScene.mk p1 p2 (State.mk v2.Tick y2 y5) p3 x6.2) a1.2 x6.1).bind fun v30=>(Fu v29.Rank v30.Rank).bind fun v31=>(Ks v30.Since v29.Since).bind fun v32=>(Tj [v31,v32]).bind fun v33=>(cond (v33==(-1)) (some [a1.1]) (cond (v33==1) (some [a1.2]) (some [a1.1,a1.2]))).bind fun y17=>(Bo x6.2 [(Crash.mk p2.Tick a1.1 a1.2 (-1) x6.1 y17)]).bind fun v34=>some (.go ((C5 (x6.1+1)),v34)))) (some (.out x6.2))
instance world_Step_l12_le (a)(b)(c)(d)(e)(f)(g)(h):Le (Ul a b c d e f g h) (Jb a b c d e f g h):=by unfold Ul Jb;infer_instance
def Um:type_of% @My:=fun p1 p2 p3 v2 y2 y5 a1 y12=>(O1 (Ul p1 p2 p3 v2 y2 y5 a1) (0,y12)).bind fun y16=>some y16
instance world_Step_i11_le (a)(b)(c)(d)(e)(f)(g)(h):Le (Um a b c d e f g h) (My a b c d e f g h):=by unfold Um My;infer_instance
def Un:type_of% @Jc:=fun p1 p2 p3 v2 y2 y5 x4 a1 x5=>cond (decide (x5< (p1.Lanes.length:Int))) ((Hu (WorldScene.mk p1 p2 (State.mk v2.Tick y2 y5) p3 x4) a1.1 x5).bind fun v13=>(Hu (WorldScene.mk p1 p2 (State.mk v2.Tick y2 y5) p3 x4) a1.2 x5).bind fun v14=>cond ((!v13.2)||(!v14.2)) (some (.go (C5 (x5+1)))) ((B7 p2.Agents a1.1).bind fun v15=>(B7 p2.Agents a1.2).bind fun v16=>(cond (decide ((C5 (v15.S - v13.1))< (C5 (v16.S - v14.1)))) (some (v14.1,v13.1,a1.2,a1.1)) (some (v13.1,v14.1,a1.1,a1.2))).bind fun y14=>(B7 y2 y14.2.2.1).bind fun v17=>(Jw v17).bind fun v18=>(Fw v18 y14.1).bind fun v19=>(B7 y2 y14.2.2.2).bind fun v20=>(Jw v20).bind fun v21=>(Fw v21 y14.2.1).bind fun v22=>(B7 p2.Agents y14.2.2.2).bind fun v23=>(Jw v23).bind fun v24=>(Fw v24 y14.2.1).bind fun v25=>(Ox p1 x5).bind fun v26=>cond (((((decide (v19.to≥0))&& (decide (v22.to≥0)))&& (decide (v25.from_≤v26)))&& (decide (v19.from_≤v26)))&& (decide (v22.to≥v19.from_))) ((Bo x4 [(Crash.mk p2.Tick a1.1 a1.2 x5 (-1) [y14.2.2.2])]).bind fun v27=>some (.out (.inr v27))) (some (.go (C5 (x5+1)))))) (some (.out (.inl ())))
instance world_Step_l10_le (a)(b)(c)(d)(e)(f)(g)(h)(i):Le (Un a b c d e f g h i) (Jc a b c d e f g h i):=by unfold Un Jc;infer_instance
def Wu:type_of% @Om:=fun p1 p2 p3 v2 y2 y5 x4 a1=>thenS (O1 (Un p1 p2 p3 v2 y2 y5 x4 a1) 0) (fun _=>some x4) (fun r=>some r)
instance world_Step_i9_le (a)(b)(c)(d)(e)(f)(g)(h):Le (Wu a b c d e f g h) (Om a b c d e f g h):=by unfold Wu Om;infer_instance
def Wv:type_of% @Ll:=fun p1 p2 p3 v2 y2 y5 x4 a1=>(Wu p1 p2 p3 v2 y2 y5 x4 a1).bind fun y12=>(Um p1 p2 p3 v2 y2 y5 a1 y12).bind fun y15=>some (.go y15)
instance world_Step_l8_le (a)(b)(c)(d)(e)(f)(g)(h):Le (Wv a b c d e f g h) (Ll a b c d e f g h):=by unfold Wv Ll;infer_instance
def Ww:type_of% @On:=some ()
instance world_Step_i7_le:Le (Ww) (On):=by unfold Ww On;infer_instance
def Wx:type_of% @Oo:=fun p1 p2 p3 v2 y2 y5=>(Ww).bind fun y10=>((MJ p2).bind fun v12=>loopL (Wv p1 p2 p3 v2 y2 y5) (fun (x4:(List Crash))=>x4) v12 []).bind fun y11=>some y11
instance world_Step_i6_le (a)(b)(c)(d)(e)(f):Le (Wx a b c d e f) (Oo a b c d e f):=by unfold Wx Oo;infer_instance
def Wy:type_of% @Lm:=fun p1 p2 p3 v2 y2 x2 v6 x3=>cond (decide (x3.1< (p1.Zones.length:Int))) ((Bf (WorldScene.mk p1 p2 (State.mk v2.Tick y2 x3.2) p3 []) x2.1 x3.1).bind fun v7=>cond (!v7) (some (.go ((C5 (x3.1+1)),x3.2))) ((L3 p2.In (Stay.mk x2.1 x3.1 p2.Tick 0)).bind fun v8=>(cond v8.2 ((B7 p2.In v8.1).bind fun v9=>some v9) ((Ya p1 v6 x3.1 p2.Tick).bind fun v10=>some (Stay.mk x2.1 x3.1 p2.Tick v10))).bind fun y8=>(Bo x3.2 [y8]).bind fun v11=>some (.go ((C5 (x3.1+1)),v11)))) (some (.out x3.2))
instance world_Step_l5_le (a)(b)(c)(d)(e)(f)(g)(h):Le (Wy a b c d e f g h) (Lm a b c d e f g h):=by unfold Wy Lm;infer_instance
def Wz:type_of% @Ln:=fun p1 p2 p3 v2 y2 x2=>cond (decide (x2.1< (p2.Agents.length:Int))) ((B7 p2.Agents x2.1).bind fun v6=>(O1 (Wy p1 p2 p3 v2 y2 x2 v6) (0,x2.2)).bind fun y7=>some (.go ((C5 (x2.1+1)),y7))) (some (.out x2.2))
instance world_Step_l4_le (a)(b)(c)(d)(e)(f):Le (Wz a b c d e f) (Ln a b c d e f):=by unfold Wz Ln;infer_instance
def Xa:type_of% @Oq:=fun p1 p2 p3 v2 y2=>(O1 (Wz p1 p2 p3 v2 y2) (0,[])).bind fun y6=>some y6
instance world_Step_i3_le (a)(b)(c)(d)(e):Le (Xa a b c d e) (Oq a b c d e):=by unfold Xa Oq;infer_instance
def Xb:type_of% @Lp:=fun p1 p2 p3 x1=>cond (decide (x1.1< (p2.Agents.length:Int))) ((cond (decide (x1.1< (p3.length:Int))) ((B7 p3 x1.1).bind fun v3=>some v3) (some 0)).bind fun y4=>(DP p1 p2 x1.1 y4).bind fun v4=>(B7 x1.2 x1.1).bind fun v5=>some (.go ((C5 (x1.1+1)),(Mo x1.2 x1.1 v4)))) (some (.out x1.2))
instance world_Step_l2_le (a)(b)(c)(d):Le (Xb a b c d) (Lp a b c d):=by unfold Xb Lp;infer_instance
def Xc:type_of% @Ot:=fun p1 p2 p3 v2=>(O1 (Xb p1 p2 p3) (0,v2.Agents)).bind fun y3=>some y3
instance world_Step_i1_le (a)(b)(c)(d):Le (Xc a b c d) (Ot a b c d):=by unfold Xc Ot;infer_instance
def DQ:type_of% @Ro:=fun p1 p2 p3=>(Qt p1 p2).bind fun v1=>cond (v1 !=0) (some ((State.mk 0 [] []),[],v1)) (cond (decide (p2.Tick≥1099511627776)) (some ((State.mk 0 [] []),[],2)) ((Wt p2).bind fun v2=>((Xc p1 p2 p3 v2).bind fun y2=>(Xa p1 p2 p3 v2 y2).bind fun y5=>(Wx p1 p2 p3 v2 y2 y5).bind fun y9=>some (y2,y5,y9)).bind fun y1=>some ((State.mk (C5 (v2.Tick+1)) y1.1 y1.2.1),y1.2.2,0)))
instance world_Step_le (a)(b)(c):Le (DQ a b c) (Ro a b c):=by unfold DQ Ro;infer_instance
def IT:type_of% @Jv:=(GN).bind fun v1=>(Vc 0 10000 1000).bind fun v2=>(Vc 1 46000 1000).bind fun v3=>(GO v1 [v2,v3]).bind fun v4=>cond (((v4.2 !=0)||((v4.1.In.length:Int) !=0))||((v4.1.Agents.length:Int) !=2)) (some false) ((DQ v1 v4.1 [50,(-90)]).bind fun v5=>((cond (((v5.2.2==0)&& ((v5.2.1.length:Int)==0))&& ((v5.1.Agents.length:Int)==2)) (B7 v5.1.Agents 0) (some default))).bind fun v6=>((cond ((((v5.2.2==0)&& ((v5.2.1.length:Int)==0))&& ((v5.1.Agents.length:Int)==2))&& (v6.S==11030)) (B7 v5.1.Agents 1) (some default))).bind fun v7=>((cond (((((v5.2.2==0)&& ((v5.2.1.length:Int)==0))&& ((v5.1.Agents.length:Int)==2))&& (v6.S==11030))&& (v7.V==910)) (Tl 100 30) (some default))).bind fun v8=>some ((((((v5.2.2==0)&& ((v5.2.1.length:Int)==0))&& ((v5.1.Agents.length:Int)==2))&& (v6.S==11030))&& (v7.V==910))&& (v8==120)))
instance law04_awake_le:Le (IT) (Jv):=by unfold IT Jv;infer_instance
theorem Lg (n:Int): ∃y,Hz n=some (y,y*y==n)∧0≤y∧y≤67108864∧(∀m,0≤m→m<y→m*m<n)∧(y=67108864∨n≤y*y):=by
  have key:=UW (f:=Fh n) (fun x=>0≤x.1∧x.1≤x.2∧x.2≤67108864∧(∀m,0≤m→m<x.1→m*m<n)∧(x.2=67108864∨n≤x.2*x.2)) (fun x=>(x.2 - x.1).toNat)
    (fun y=>0≤y∧y≤67108864∧(∀m,0≤m→m<y→m*m<n)∧(y=67108864∨n≤y*y)) (by
      rintro ⟨lo,hi⟩ ⟨h1,h2,h3,h4,h5⟩
      dsimp only at h1 h2 h3 h4 h5
      unfold Fh
      dsimp only
      by_cases hlt:lo<hi
      ·have e1:C5 (lo+hi)=lo+hi:=L6 (by omega)
       have e2:C5 ((lo+hi).tdiv 2)=(lo+hi) / 2:=by rw [Int.tdiv_eq_ediv_of_nonneg (by omega)];exact L6 (by omega)
       have hm:lo≤(lo+hi) / 2∧(lo+hi) / 2<hi:=by omega
       generalize hmid:(lo+hi) / 2=mid at*
       have hmm:mid*mid≤67108864*67108864:=ZZ (by omega) (by omega)
       have hmm0:=Vi mid
       have e3:C5 (mid*mid)=mid*mid:=L6 (by omega)
       have e4:C5 (mid+1)=mid+1:=L6 (by omega)
       simp only [e1,e2,e3,e4,hlt,decide_true,bE]
       by_cases hc:mid*mid<n
       ·simp only [hc,decide_true,bE]
        refine ⟨_,rfl,⟨by omega,by omega,h3,fun m hm0 hm1=> ?_,h5⟩,by dsimp only;omega⟩
        rcases Int.lt_or_le m mid with q|q
        ·have:=Int.mul_le_mul (show m≤mid by omega) (show m≤mid by omega) hm0 (by omega);omega
        ·have:m=mid:=by dsimp only at hm1;omega
         subst this;exact hc
       ·simp only [hc,decide_false,bF]
        exact ⟨_,rfl,⟨h1,by dsimp only;omega,by dsimp only;omega,h4, .inr (by dsimp only;omega)⟩,by dsimp only;omega⟩
      ·simp only [hlt,decide_false,bF]
       obtain rfl:lo=hi:=by omega
       exact ⟨_,rfl,h1,h3,h4,h5⟩) (0,67108864) ⟨by decide,by decide,by decide,fun m h1 h2=>by dsimp only at h2;omega, .inl rfl⟩
  obtain ⟨y,hy,h1,h2,h3,h4⟩:=key
  refine ⟨y,?_,h1,h2,h3,h4⟩
  have hmm:y*y≤67108864*67108864:=ZZ (by omega) (by omega)
  have hmm0:=Vi y
  unfold Hz
  rw [hy,lB,L6 (by omega)]
/-- The least number whose square is not less. -/
noncomputable def rt (n:Int):Int:=(Lg n).choose
theorem FL (n:Int):Hz n=some (rt n,rt n*rt n==n):=(Lg n).choose_spec.1
theorem JZ (n:Int):0≤rt n:=(Lg n).choose_spec.2.1
theorem pM (n m:Int)(h1:0≤m)(h2:m<rt n):m*m<n:=(Lg n).choose_spec.2.2.2.1 m h1 h2
theorem pN (n:Int):rt n=67108864∨n≤rt n*rt n:=(Lg n).choose_spec.2.2.2.2
theorem iJ {l:Int}(h0:0≤l)(h1:l≤67108864):rt (l*l)=l:=by
  rcases Int.lt_trichotomy (rt (l*l)) l with q|q|q
  ·rcases pN (l*l)with h|h
   ·omega
   ·have h2:=JZ (l*l)
    have:=Int.mul_lt_mul' (show rt (l*l)≤l by omega) q h2 (by omega);omega
  ·exact q
  ·have:=pM (l*l) l h0 q;omega
theorem LR (n:Int)(h0:0≤n)(h1:n<18014398509481984): ∃r,Na n=some r∧0≤r∧r<134217728∧r*r≤n∧n< (r+1)* (r+1):=by
  have key:=UW (f:=Ou n) (fun x=>0≤x.1∧x.1*x.1≤n∧((∃k:Nat,k≤26∧x.2=2^k∧x.1+2*2^k≤134217728∧n< (x.1+2*2^k)* (x.1+2*2^k))∨(x.2=0∧x.1<134217728∧n< (x.1+1)* (x.1+1)))) (fun x=>x.2.toNat)
    (fun r=>0≤r∧r<134217728∧r*r≤n∧n< (r+1)* (r+1)) (by
      rintro ⟨r,bit⟩ ⟨q1,q2,q3⟩
      dsimp only at q1 q2 q3
      unfold Ou
      dsimp only
      rcases q3 with ⟨k,hk,rfl,q4,q5⟩|⟨rfl,q4,q5⟩
      ·have hp:(0:Int)<2^k:=Int.pow_pos (by decide)
       generalize hb:(2:Int)^k=b at*
       have e1:C5 (r+b)=r+b:=L6 (by omega)
       have hmm:(r+b)* (r+b)≤134217728*134217728:=ZZ (by omega) (by omega)
       have hmm0:=Vi (r+b)
       have e2:C5 ((r+b)* (r+b))=(r+b)* (r+b):=L6 (by omega)
       have e3:C5 (b.tdiv 2)=b / 2:=by rw [Int.tdiv_eq_ediv_of_nonneg (by omega)];exact L6 (by omega)
       have hb0:b>0:=by omega
       simp only [e1,e2,e3,hb0,decide_true,bE]
       have hnext: ∀r',0≤r'→r'*r'≤n→r'+b≤134217728→n< (r'+b)* (r'+b)→(∃j:Nat,j≤26∧b / 2=2^j∧r'+2*2^j≤134217728∧n< (r'+2*2^j)* (r'+2*2^j))∨(b / 2=0∧r'<134217728∧n< (r'+1)* (r'+1)):=by
         intro r' a1 a2 a3 a4
         cases k with
         |zero=>
          have:b=1:=by rw [← hb];rfl
          subst this
          exact .inr ⟨by decide,by omega,a4⟩
         |succ j=>
          have hj:b=2*2^j:=by rw [← hb,Int.pow_succ];omega
          refine .inl ⟨j,by omega,by omega,by omega,by rw [← hj];exact a4⟩
       by_cases hc:(r+b)* (r+b)≤n
       ·simp only [hc,decide_true,bE]
        refine ⟨_,rfl,⟨by dsimp only;omega,hc,hnext (r+b) (by omega) hc (by omega) (by rw [show r+b+b=r+2*b by omega];exact q5)⟩,by dsimp only;omega⟩
       ·simp only [hc,decide_false,bF]
        exact ⟨_,rfl,⟨q1,q2,hnext r q1 q2 (by omega) (by omega)⟩,by dsimp only;omega⟩
      ·simp only [show ¬(0:Int)>0 by decide,decide_false,bF]
       exact ⟨_,rfl,q1,q4,q2,q5⟩) (0,67108864) ⟨by decide,by dsimp only;omega, .inl ⟨26,by decide,by decide,by decide,by dsimp only;omega⟩⟩
  obtain ⟨r,hr,a⟩:=key
  exact ⟨r,by unfold Na;rw [hr];rfl,a⟩
theorem QC {n:Int}(h0:0≤n)(h1:n≤4503599627370496): ∃r,Na n=some r∧0≤r∧r<134217728∧(r*r=n↔rt n*rt n=n)∧(r*r=n→r=rt n):=by
  obtain ⟨r,hr,a1,a2,a3,a4⟩:=LR n h0 (by omega)
  have hr26:r≤67108864:=by
    rcases Int.lt_or_le r 67108865 with q|q
    ·omega
    ·have:=Int.mul_le_mul q q (by decide) (by omega);omega
  refine ⟨r,hr,a1,a2,⟨fun h=> ?_,fun h=> ?_⟩,fun h=> ?_⟩
  ·rw [← h,iJ a1 hr26]
  ·rcases Int.lt_trichotomy r (rt n)with q|q|q
   ·have:=Int.mul_le_mul (show r+1≤rt n by omega) (show r+1≤rt n by omega) (by omega) (JZ n);omega
   ·rw [q];exact h
   ·have h2:=JZ n
    have:=Int.mul_lt_mul' (show rt n≤r by omega) q h2 (by omega);omega
  ·rw [← h,iJ a1 hr26]
def AY (p:Spot):Bool:=decide (-16777216≤p.X)&&decide (p.X≤16777216)&&decide (-16777216≤p.Y)&&decide (p.Y≤16777216)
theorem okS_iff {p:Spot}:AY p=true↔ -16777216≤p.X∧p.X≤16777216∧ -16777216≤p.Y∧p.Y≤16777216:=by simp [AY,and_assoc]
theorem dC (p:Spot):((decide ((Us false p.X p.Y)< (-16777216)))||(decide ((Us true p.X p.Y)>16777216)))= !AY p:=by
  rw [ME,MD]
  cases h:AY p with
  |true=>have:=okS_iff.1 h;simp;omega
  |false=>
   have: ¬(-16777216≤p.X∧p.X≤16777216∧ -16777216≤p.Y∧p.Y≤16777216):=fun q=>by rw [okS_iff.2 q]at h;cases h
   simp;omega
theorem QD (l:List Spot)(hl:l.length≤1000000): ∀(r:List Spot) (i:Nat),l.drop i=r→loop (Cl l) (i:Int)=some (if r.all AY then .inl ()else .inr false):=by
  intro r
  induction r with
  |nil=>
   intro i hi
   have:=Q6 hi
   refine D8 ?_
   unfold Cl
   simp only [show ¬(i:Int)<l.length by omega,decide_false,bF,List.all_nil,if_true]
  |cons p r ih=>
   intro i hi
   have hlt:=O0 hi
   have hstep:Cl l (i:Int)=if AY p then some (.go ((i+1:Nat):Int))else some (.out (.inr false)):=by
     unfold Cl
     simp only [show (i:Int)<l.length by omega,decide_true,bE,Ei hi,lB,dC]
     cases h:AY p with
     |true=>simp only [bM,bF,if_true];rw [L6 (by omega)];rfl
     |false=>simp
   cases h:AY p with
   |true=>
    rw [h,bG rfl]at hstep
    rw [L7 hstep,ih (i+1) (L9 hi)]
    simp [h]
   |false=>
    rw [h]at hstep
    rw [D8 hstep]
    simp [h]
theorem QE (l:List Spot)(hl:l.length≤1000000):Mr l=some (l.all AY):=by
  unfold Mr
  have:=QD l hl l 0 (by simp)
  rw [show ((0:Nat):Int)=0 from rfl]at this
  rw [this]
  cases l.all AY<;>rfl
theorem OO (p:Spot):Td p=some (AY p):=by
  unfold Td AY;rfl
def V2 (p q:Spot):CurveVector:=⟨q.X - p.X,q.Y - p.Y⟩
def N4 (v w:CurveVector):Int:=v.x*w.x+v.y*w.y
/-- A vector between valid spots. -/
def eH (v:CurveVector):Prop:= -33554432≤v.x∧v.x≤33554432∧ -33554432≤v.y∧v.y≤33554432
theorem IU {p q:Spot}(hp:AY p=true)(hq:AY q=true):eH (V2 p q):=by
  have:=okS_iff.1 hp;have:=okS_iff.1 hq
  unfold eH V2;dsimp only;omega
theorem FM {p q:Spot}(hp:AY p=true)(hq:AY q=true):Kb p q=some (V2 p q):=by
  have:=okS_iff.1 hp;have:=okS_iff.1 hq
  unfold Kb V2
  rw [L6 (by omega),L6 (by omega)]
theorem YL {v w:CurveVector}(hv:eH v)(hw:eH w): -2251799813685248≤N4 v w∧N4 v w≤2251799813685248∧(-1125899906842624≤v.x*w.x∧v.x*w.x≤1125899906842624)∧ -1125899906842624≤v.y*w.y∧v.y*w.y≤1125899906842624:=by
  obtain ⟨a1,a2,a3,a4⟩:=hv
  obtain ⟨b1,b2,b3,b4⟩:=hw
  have h1:=gV ⟨a1,a2⟩ ⟨b1,b2⟩
  have h2:=gV ⟨a3,a4⟩ ⟨b3,b4⟩
  unfold N4
  omega
theorem AZ {v w:CurveVector}(hv:eH v)(hw:eH w):Z6 v w=some (N4 v w):=by
  have h:=YL hv hw
  unfold Z6
  rw [L6 (n:=v.x*w.x) (by omega),L6 (n:=v.y*w.y) (by omega),L6 (by unfold N4 at h;omega)]
  rfl
theorem YM (v:CurveVector):0≤N4 v v:=by have:=Vi v.x;have:=Vi v.y;unfold N4;omega
def vs (v:CurveVector):Spot:=⟨v.x,v.y⟩
theorem Xd {p q:Spot}(hp:AY p=true)(hq:AY q=true):Mz q p=some (vs (V2 p q)):=by
  have:=okS_iff.1 hp;have:=okS_iff.1 hq
  unfold Mz V2 vs
  rw [L6 (by omega),L6 (by omega)]
theorem BA {v w:CurveVector}(hv:eH v)(hw:eH w):Pt (vs v) (vs w)=some (N4 v w):=by
  have h:=YL hv hw
  unfold Pt vs
  dsimp only
  rw [L6 (n:=v.x*w.x) (by omega),L6 (n:=v.y*w.y) (by omega),L6 (by unfold N4 at h;omega)]
  rfl
/-- The error of a chain of points, from a piece on; the piece ahead of it. -/
noncomputable def VP:Option CurveVector→List Spot→Int
  |last,p::q::r=>
   if rt (N4 (V2 p q) (V2 p q))*rt (N4 (V2 p q) (V2 p q))≠N4 (V2 p q) (V2 p q)then 3
   else if rt (N4 (V2 p q) (V2 p q))<1000∨rt (N4 (V2 p q) (V2 p q))>1048576 then 2
   else match last with
     |some u=>if N4 u (V2 p q)≤0 then 12 else VP (some (V2 p q)) (q::r)
     |none=>VP (some (V2 p q)) (q::r)
  |_,_=>0
theorem IV (last:Option CurveVector)(p q:Spot)(r:List Spot):VP last (p::q::r)=
    if rt (N4 (V2 p q) (V2 p q))*rt (N4 (V2 p q) (V2 p q))≠N4 (V2 p q) (V2 p q)then 3
    else if rt (N4 (V2 p q) (V2 p q))<1000∨rt (N4 (V2 p q) (V2 p q))>1048576 then 2
    else match last with
      |some u=>if N4 u (V2 p q)≤0 then 12 else VP (some (V2 p q)) (q::r)
      |none=>VP (some (V2 p q)) (q::r):=by
  conv=>lhs;unfold VP
noncomputable def Ey (l:List Spot):Int:=if l.length<2 then 6 else if l.length>16 then 5 else if l.all AY then VP none l else 2
theorem OP (c:Curve)(hl:c.Pts.length≤1000000)(hok:c.Pts.all AY=true): ∀(r:List Spot) (p:Spot) (i:Nat) (last:CurveVector),c.Pts.drop i=p::r→eH last→
    loop (Bq c) ((i:Int),last)=some (if VP (if i=0 then none else some last) (p::r)=0 then .inl ()else .inr (VP (if i=0 then none else some last) (p::r))):=by
  intro r
  induction r with
  |nil=>
   intro p i last hi hlast
   have hlt:=O0 hi
   have:=Q6 (L9 hi)
   refine D8 ?_
   unfold Bq
   dsimp only
   rw [L6 (n:=(c.Pts.length:Int) - 1) (by omega)]
   simp only [show ¬(i:Int)< (c.Pts.length:Int) - 1 by omega,decide_false,bF,VP,if_true]
  |cons q r ih=>
   intro p i last hi hlast
   have hlt:=O0 hi
   have hi1:=L9 hi
   have hlt1:=O0 hi1
   have hp:AY p=true:=lX.1 hok p (List.mem_of_mem_drop (i:=i) (by rw [hi];simp))
   have hq:AY q=true:=lX.1 hok q (List.mem_of_mem_drop (i:=i) (by rw [hi];simp))
   have hv:=IU hp hq
   have hg1:B7 c.Pts ((i:Int)+1)=some q:=by have:=Ei hi1;simpa using this
   have hstep:Bq c ((i:Int),last)=
    if rt (N4 (V2 p q) (V2 p q))*rt (N4 (V2 p q) (V2 p q))≠N4 (V2 p q) (V2 p q)then some (.out (.inr 3))
    else if rt (N4 (V2 p q) (V2 p q))<1000∨rt (N4 (V2 p q) (V2 p q))>1048576 then some (.out (.inr 2))
    else if i≠0∧N4 last (V2 p q)≤0 then some (.out (.inr 12))else some (.go (((i+1:Nat):Int),V2 p q)):=by
     unfold Bq
     dsimp only
     rw [L6 (n:=(c.Pts.length:Int) - 1) (by omega),L6 (n:=(i:Int)+1) (by omega)]
     simp only [show (i:Int)< (c.Pts.length:Int) - 1 by omega,decide_true,bE,Ei hi,hg1,lB,FM hp hq,AZ hv hv,FL]
     by_cases h1:rt (N4 (V2 p q) (V2 p q))*rt (N4 (V2 p q) (V2 p q))=N4 (V2 p q) (V2 p q)
     ·simp only [h1,beq_self_eq_true,bM,bF,ne_eq,not_true_eq_false,if_false]
      by_cases h2:rt (N4 (V2 p q) (V2 p q))<1000∨rt (N4 (V2 p q) (V2 p q))>1048576
      ·rw [bG h2]
       have:(decide (rt (N4 (V2 p q) (V2 p q))<1000)||decide (rt (N4 (V2 p q) (V2 p q))>1048576))=true:=by simpa using h2
       rw [this];rfl
      ·rw [bH h2]
       have:(decide (rt (N4 (V2 p q) (V2 p q))<1000)||decide (rt (N4 (V2 p q) (V2 p q))>1048576))=false:=by simpa using h2
       rw [this]
       simp only [bF]
       by_cases h3:i=0
       ·subst h3
        simp only [Int.natCast_zero,gt_iff_lt,Int.lt_irrefl,decide_false,bF,bJ,lB,not_true_eq_false,false_and,if_false]
        rfl
       ·have h4:(i:Int)>0:=by omega
        simp only [h4,decide_true,bE,AZ hlast hv,lB,bI,h3,not_false_eq_true,true_and]
        by_cases h5:N4 last (V2 p q)≤0<;>simp [h5]
     ·have:(rt (N4 (V2 p q) (V2 p q))*rt (N4 (V2 p q) (V2 p q))==N4 (V2 p q) (V2 p q))=false:=by simpa using h1
      simp only [this,bN,bE,ne_eq,h1,not_false_eq_true,if_true]
   rw [IV]
   by_cases h1:rt (N4 (V2 p q) (V2 p q))*rt (N4 (V2 p q) (V2 p q))≠N4 (V2 p q) (V2 p q)
   ·rw [bG h1]at hstep
    rw [D8 hstep,bG h1];rfl
   ·rw [bH h1]at hstep ⊢
    by_cases h2:rt (N4 (V2 p q) (V2 p q))<1000∨rt (N4 (V2 p q) (V2 p q))>1048576
    ·rw [bG h2]at hstep
     rw [D8 hstep,bG h2];rfl
    ·rw [bH h2]at hstep ⊢
     by_cases h3:i=0
     ·subst h3
      rw [bH (by simp)]at hstep
      rw [L7 hstep,ih q (0+1) (V2 p q) hi1 hv]
      simp
     ·by_cases h5:N4 last (V2 p q)≤0
      ·rw [bG ⟨h3,h5⟩]at hstep
       rw [D8 hstep]
       simp [h3,h5]
      ·rw [bH (fun h=>h5 h.2)]at hstep
       rw [L7 hstep,ih q (i+1) (V2 p q) hi1 hv]
       simp [h3,h5]
theorem DR (c:Curve)(hl:c.Pts.length≤1000000):Hb c=some (Ey c.Pts):=by
  unfold Hb Ey
  by_cases h1:c.Pts.length<2
  ·rw [bG h1,show decide ((c.Pts.length:Int)<2)=true by simp;omega];rfl
  ·rw [bH h1,show decide ((c.Pts.length:Int)<2)=false by simp;omega]
   simp only [bF]
   by_cases h2:c.Pts.length>16
   ·rw [bG h2,show decide ((c.Pts.length:Int)>16)=true by simp;omega];rfl
   ·rw [bH h2,show decide ((c.Pts.length:Int)>16)=false by simp;omega]
    simp only [bF,QE c.Pts hl,lB]
    cases h3:c.Pts.all AY with
    |false=>rfl
    |true=>
     simp only [bM,bF,if_true]
     cases hp:c.Pts with
     |nil=>rw [hp]at h1;simp at h1
     |cons p r=>
      have:=OP c hl h3 r p 0 ⟨0,0⟩ (by rw [hp];rfl) ⟨by decide,by decide,by decide,by decide⟩
      rw [bG rfl,show ((0:Nat):Int)=0 from rfl]at this
      rw [this]
      by_cases h4:VP none (p::r)=0
      ·rw [bG h4,h4];rfl
      ·rw [bH h4];rfl
theorem dD (v w:CurveVector):N4 v w=N4 w v:=by unfold N4;rw [Int.mul_comm v.x,Int.mul_comm v.y]
theorem LS (c:Curve)(hl:c.Pts.length≤1000000): ∀(r:List Spot) (i:Nat),c.Pts.drop i=r→loop (Gg c) (i:Int)=some (if r.all AY then .inl ()else .inr 2):=by
  intro r
  induction r with
  |nil=>
   intro i hi
   have:=Q6 hi
   refine D8 ?_
   unfold Gg
   simp only [show ¬(i:Int)<c.Pts.length by omega,decide_false,bF,List.all_nil,if_true]
  |cons p r ih=>
   intro i hi
   have hlt:=O0 hi
   have hstep:Gg c (i:Int)=if AY p then some (.go ((i+1:Nat):Int))else some (.out (.inr 2)):=by
     unfold Gg
     simp only [show (i:Int)<c.Pts.length by omega,decide_true,bE,Ei hi,lB,OO]
     cases h:AY p with
     |true=>simp only [bM,bF,if_true];rw [L6 (by omega)];rfl
     |false=>simp
   cases h:AY p with
   |true=>
    rw [h,bG rfl]at hstep
    rw [L7 hstep,ih (i+1) (L9 hi)]
    simp [h]
   |false=>
    rw [h]at hstep
    rw [D8 hstep]
    simp [h]
theorem iK {v:CurveVector}(hv:eH v): ∃l,Na (N4 v v)=some l∧(C5 (l*l) !=N4 v v)= !(rt (N4 v v)*rt (N4 v v)==N4 v v)∧(rt (N4 v v)*rt (N4 v v)=N4 v v→l=rt (N4 v v)):=by
  have hb:=YL hv hv
  obtain ⟨l,h1,h2,h3,h4,h5⟩:=QC (YM v) (by omega)
  have hmm:l*l≤134217728*134217728:=ZZ (by omega) (by omega)
  have hmm0:=Vi l
  refine ⟨l,h1,?_,fun h=>h5 (h4.2 h)⟩
  rw [L6 (by omega)]
  by_cases h:l*l=N4 v v
  ·simp [h,h4.1 h]
  ·have h': ¬rt (N4 v v)*rt (N4 v v)=N4 v v:=fun q=>h (h4.2 q)
   have e1:(l*l !=N4 v v)=true:=bne_iff_ne.2 h
   have e2:(rt (N4 v v)*rt (N4 v v)==N4 v v)=false:=beq_eq_false_iff_ne.2 h'
   rw [e1,e2];rfl
theorem LU (c:Curve)(hl:c.Pts.length≤1000000)(hok:c.Pts.all AY=true): ∀(r:List Spot) (p:Spot) (i:Nat) (last:Option CurveVector),c.Pts.drop i=p::r→
    (i=0∧last=none∨∃j a,i=j+1∧c.Pts.drop j=a::p::r∧last=some (V2 a p))→
    loop (Gf c) (i:Int)=some (if VP last (p::r)=0 then .inl ()else .inr (VP last (p::r))):=by
  intro r
  induction r with
  |nil=>
   intro p i last hi hlast
   have hlt:=O0 hi
   have:=Q6 (L9 hi)
   refine D8 ?_
   unfold Gf
   rw [L6 (n:=(i:Int)+1) (by omega)]
   simp only [show ¬(i:Int)+1< (c.Pts.length:Int) by omega,decide_false,bF,VP,if_true]
  |cons q r ih=>
   intro p i last hi hlast
   have hlt:=O0 hi
   have hi1:=L9 hi
   have hlt1:=O0 hi1
   have hp:AY p=true:=lX.1 hok p (List.mem_of_mem_drop (i:=i) (by rw [hi];simp))
   have hq:AY q=true:=lX.1 hok q (List.mem_of_mem_drop (i:=i) (by rw [hi];simp))
   have hv:=IU hp hq
   have hg1:B7 c.Pts ((i:Int)+1)=some q:=by have:=Ei hi1;simpa using this
   obtain ⟨l,hl1,hl2,hl3⟩:=iK hv
   have hstep:Gf c (i:Int)=
    if rt (N4 (V2 p q) (V2 p q))*rt (N4 (V2 p q) (V2 p q))≠N4 (V2 p q) (V2 p q)then some (.out (.inr 3))
    else if rt (N4 (V2 p q) (V2 p q))<1000∨rt (N4 (V2 p q) (V2 p q))>1048576 then some (.out (.inr 2))
    else match last with
      |some u=>if N4 u (V2 p q)≤0 then some (.out (.inr 12))else some (.go ((i+1:Nat):Int))
      |none=>some (.go ((i+1:Nat):Int)):=by
     unfold Gf
     rw [L6 (n:=(i:Int)+1) (by omega)]
     simp only [show (i:Int)+1< (c.Pts.length:Int) by omega,decide_true,bE,Ei hi,hg1,lB,Xd hp hq,BA hv hv,hl1,hl2]
     by_cases h1:rt (N4 (V2 p q) (V2 p q))*rt (N4 (V2 p q) (V2 p q))=N4 (V2 p q) (V2 p q)
     ·simp only [h1,beq_self_eq_true,bM,bF,ne_eq,not_true_eq_false,if_false,hl3 h1]
      by_cases h2:rt (N4 (V2 p q) (V2 p q))<1000∨rt (N4 (V2 p q) (V2 p q))>1048576
      ·rw [bG h2]
       have:(decide (rt (N4 (V2 p q) (V2 p q))<1000)||decide (rt (N4 (V2 p q) (V2 p q))>1048576))=true:=by simpa using h2
       rw [this];rfl
      ·rw [bH h2]
       have:(decide (rt (N4 (V2 p q) (V2 p q))<1000)||decide (rt (N4 (V2 p q) (V2 p q))>1048576))=false:=by simpa using h2
       rw [this]
       simp only [bF]
       rcases hlast with ⟨rfl,rfl⟩|⟨j,a,rfl,hj,rfl⟩
       ·simp only [Int.natCast_zero,gt_iff_lt,Int.lt_irrefl,decide_false,bF,bJ,lB]
        rfl
       ·have h4:(((j+1:Nat):Int))>0:=by omega
        have ha:AY a=true:=lX.1 hok a (List.mem_of_mem_drop (i:=j) (by rw [hj];simp))
        have hva:=IU ha hp
        have hgj:B7 c.Pts (C5 (((j+1:Nat):Int) - 1))=some a:=by
          rw [L6 (by omega),show (((j+1:Nat):Int) - 1)=(j:Int) by omega]
          exact Ei hj
        simp only [h4,decide_true,bE,hgj,lB,Xd ha hp,BA hv hva,bI]
        rw [dD (V2 p q) (V2 a p)]
        by_cases h5:N4 (V2 a p) (V2 p q)≤0
        ·simp [h5]
        ·simp [h5]
     ·have:(rt (N4 (V2 p q) (V2 p q))*rt (N4 (V2 p q) (V2 p q))==N4 (V2 p q) (V2 p q))=false:=by simpa using h1
      simp only [this,bN,bE,ne_eq,h1,not_false_eq_true,if_true]
   rw [IV]
   have hrec:=ih q (i+1) (some (V2 p q)) hi1 (.inr ⟨i,p,rfl,hi,rfl⟩)
   by_cases h1:rt (N4 (V2 p q) (V2 p q))*rt (N4 (V2 p q) (V2 p q))≠N4 (V2 p q) (V2 p q)
   ·rw [bG h1]at hstep
    rw [D8 hstep,bG h1];rfl
   ·rw [bH h1]at hstep ⊢
    by_cases h2:rt (N4 (V2 p q) (V2 p q))<1000∨rt (N4 (V2 p q) (V2 p q))>1048576
    ·rw [bG h2]at hstep
     rw [D8 hstep,bG h2];rfl
    ·rw [bH h2]at hstep ⊢
     cases last with
     |none=>rw [L7 hstep,hrec]
     |some u=>
      dsimp only at hstep ⊢
      by_cases h5:N4 u (V2 p q)≤0
      ·rw [bG h5]at hstep
       rw [D8 hstep];simp [h5]
      ·rw [bH h5]at hstep
       rw [L7 hstep,hrec];simp [h5]
theorem DS (c:Curve)(hl:c.Pts.length≤1000000):Pu c=some (Ey c.Pts):=by
  unfold Pu Ey
  by_cases h1:c.Pts.length<2
  ·rw [bG h1,show decide ((c.Pts.length:Int)<2)=true by simp;omega];rfl
  ·rw [bH h1,show decide ((c.Pts.length:Int)<2)=false by simp;omega]
   simp only [bF]
   by_cases h2:c.Pts.length>16
   ·rw [bG h2,show decide ((c.Pts.length:Int)>16)=true by simp;omega];rfl
   ·rw [bH h2,show decide ((c.Pts.length:Int)>16)=false by simp;omega]
    have hg:=LS c hl c.Pts 0 (by simp)
    rw [show ((0:Nat):Int)=0 from rfl]at hg
    simp only [bF,hg]
    cases h3:c.Pts.all AY with
    |false=>rfl
    |true=>
     simp only [if_true,thenS]
     cases hp:c.Pts with
     |nil=>rw [hp]at h1;simp at h1
     |cons p r=>
      have:=LU c hl h3 r p 0 none (by rw [hp];rfl) (.inl ⟨rfl,rfl⟩)
      rw [show ((0:Nat):Int)=0 from rfl]at this
      rw [this]
      by_cases h4:VP none (p::r)=0
      ·rw [bG h4,h4]
      ·rw [bH h4]
/-- What a valid chain is. -/
inductive Good:Option CurveVector→List Spot→Prop
  |one (last:Option CurveVector) (p:Spot):Good last [p]
  |cons (last:Option CurveVector) (p q:Spot) (r:List Spot) (h1:rt (N4 (V2 p q) (V2 p q))*rt (N4 (V2 p q) (V2 p q))=N4 (V2 p q) (V2 p q)) (h2:1000≤rt (N4 (V2 p q) (V2 p q))) (h3:rt (N4 (V2 p q) (V2 p q))≤1048576)
     (h4: ∀u,last=some u→0<N4 u (V2 p q)) (h:Good (some (V2 p q)) (q::r)):Good last (p::q::r)
theorem VQ: ∀(r:List Spot) (p:Spot) (last:Option CurveVector),VP last (p::r)=0→Good last (p::r):=by
  intro r
  induction r with
  |nil=>intro p last _;exact .one _ _
  |cons q r ih=>
   intro p last h
   rw [IV]at h
   split at h
   ·cases h
   ·rename_i h1
    split at h
    ·cases h
    ·rename_i h2
     have h1:rt (N4 (V2 p q) (V2 p q))*rt (N4 (V2 p q) (V2 p q))=N4 (V2 p q) (V2 p q):=by simpa using h1
     cases last with
     |none=>exact .cons _ _ _ _ h1 (by omega) (by omega) (fun u hu=>by cases hu) (ih q _ h)
     |some u=>
      dsimp only at h
      split at h
      ·cases h
      ·exact .cons _ _ _ _ h1 (by omega) (by omega) (fun u' hu=>by cases hu;omega) (ih q _ h)
theorem VR {last:Option CurveVector}{l:List Spot}(h:Good last l):VP last l=0:=by
  induction h with
  |one=>rfl
  |cons last p q r h1 h2 h3 h4 h ih=>
   rw [IV,bH (by simpa using h1),bH (by omega)]
   cases last with
   |none=>exact ih
   |some u=>dsimp only;rw [bH (by have:=h4 u rfl;omega)];exact ih
structure Valid (l:List Spot):Prop where
  two:2≤l.length
  most:l.length≤16
  ok:l.all AY=true
  good:Good none l
theorem checkM_zero {l:List Spot}:Ey l=0↔Valid l:=by
  unfold Ey
  constructor
  ·intro h
   split at h
   ·cases h
   ·rename_i h1
    split at h
    ·cases h
    ·rename_i h2
     split at h
     ·rename_i h3
      cases l with
      |nil=>simp at h1
      |cons p r=>exact ⟨by omega,by omega,h3,VQ r p none h⟩
     ·cases h
  ·rintro ⟨h1,h2,h3,h4⟩
   rw [bH (by omega),bH (by omega),bG h3]
   exact VR h4
/-- The pieces of a chain: the number, the piece. -/
noncomputable def BB:Nat→Int→List Spot→List (Int×CurvePiece)
  |i,s,p::q::r=>((i:Int),⟨p,V2 p q,rt (N4 (V2 p q) (V2 p q)),s⟩)::BB (i+1) (C5 (s+rt (N4 (V2 p q) (V2 p q)))) (q::r)
  |_,_,_=> []
theorem IW (i:Nat)(s:Int)(p q:Spot)(r:List Spot):BB i s (p::q::r)=((i:Int),⟨p,V2 p q,rt (N4 (V2 p q) (V2 p q)),s⟩)::BB (i+1) (C5 (s+rt (N4 (V2 p q) (V2 p q)))) (q::r):=by conv=>lhs;unfold BB
theorem VS (pts:List Spot)(hok:pts.all AY=true): ∀(r:List Spot) (p:Spot) (i:Nat) (s:Int),pts.drop i=p::r→Ms pts r.length i s=some (BB i s (p::r)):=by
  intro r
  induction r with
  |nil=>intro p i s _;rfl
  |cons q r ih=>
   intro p i s hi
   have hi1:=L9 hi
   have hp:AY p=true:=lX.1 hok p (List.mem_of_mem_drop (i:=i) (by rw [hi];simp))
   have hq:AY q=true:=lX.1 hok q (List.mem_of_mem_drop (i:=i) (by rw [hi];simp))
   have hv:=IU hp hq
   have h0:pts[i]? =some p:=by have:=congrArg (fun z=>z[0]?) hi;simpa using this
   have h1:pts[i+1]? =some q:=by have:=congrArg (fun z=>z[0]?) hi1;simpa using this
   rw [lK,Ms,h0,h1]
   simp only [lB,FM hp hq,AZ hv hv,FL]
   rw [ih q (i+1) _ hi1,IW]
   rfl
theorem YN {pts:List Spot}(h:Valid pts):Xt pts=some (BB 0 0 pts):=by
  unfold Xt
  have:=h.most
  rw [bG (by omega)]
  cases hp:pts with
  |nil=>have:=h.two;rw [hp]at this;simp at this
  |cons p r=>exact VS (p::r) (by rw [← hp];exact h.ok) r p 0 0 rfl
/-- The lengths. -/
noncomputable def EU:List Spot→List Int
  |p::q::r=>rt (N4 (V2 p q) (V2 p q))::EU (q::r)
  |_=> []
theorem Zl (p q:Spot)(r:List Spot):EU (p::q::r)=rt (N4 (V2 p q) (V2 p q))::EU (q::r):=by conv=>lhs;unfold EU
theorem Yc: ∀(r:List Spot) (p:Spot),(EU (p::r)).length=r.length
  | [],_=>rfl
  |q::r,p=>by rw [Zl,lK,Yc r q,lK]
theorem IX: ∀(r:List Spot) (p:Spot) (i:Nat) (s:Int),(BB i s (p::r)).map (·.2.l)=EU (p::r)
  | [],_,_,_=>rfl
  |q::r,p,i,s=>by rw [IW,Zl,lQ,IX r q]
theorem VT: ∀(L:List (Int×CurvePiece)) (out:List Int),out.length+L.length≤1000000000→loopL Bv (fun x=>x) L out=some (out++L.map (·.2.l)):=by
  intro L
  induction L with
  |nil=>intro out _;simp [loopL]
  |cons a L ih=>
   intro out h
   simp only [lK]at h
   have:Bv out a=some (.go (out++ [a.2.l])):=by
     unfold Bv
     rw [Qb (by simp;omega)];rfl
   rw [loopL,this]
   dsimp only
   rw [ih _ (by simp;omega)]
   simp
theorem LV (c:Curve)(hl:c.Pts.length≤1000000):Hc c=some (if Ey c.Pts=0 then EU c.Pts else []):=by
  unfold Hc
  rw [DR c hl,lB]
  by_cases h:Ey c.Pts=0
  ·rw [bG h,h]
   have hv:=checkM_zero.1 h
   have:=hv.most
   simp only [bne_self_eq_false,bF,YN hv,lB]
   cases hp:c.Pts with
   |nil=>have:=hv.two;rw [hp]at this;simp at this
   |cons p r=>
    have e:=IX r p 0 0
    rw [VT _ _ (by
     have:=congrArg List.length e
     rw [lR,Yc]at this
     rw [this];rw [hp]at hl;simp at hl ⊢;omega)]
    rw [e];rfl
  ·rw [bH h,show (Ey c.Pts !=0)=true from bne_iff_ne.2 h];rfl
theorem IY (c:Curve)(hl:c.Pts.length≤1000000)(hok:c.Pts.all AY=true): ∀(r:List Spot) (p:Spot) (i:Nat) (out:List Int) (last:Option CurveVector),c.Pts.drop i=p::r→Good last (p::r)→out.length+r.length≤1000000→
    loop (Ev c) (out,(i:Int))=some (out++EU (p::r)):=by
  intro r
  induction r with
  |nil=>
   intro p i out last hi _ _
   have hlt:=O0 hi
   have:=Q6 (L9 hi)
   refine D8 ?_
   unfold Ev
   dsimp only
   rw [L6 (n:=(i:Int)+1) (by omega)]
   simp only [show ¬(i:Int)+1< (c.Pts.length:Int) by omega,decide_false,bF,EU,lO]
  |cons q r ih=>
   intro p i out last hi hg ho
   have hlt:=O0 hi
   have hi1:=L9 hi
   have hlt1:=O0 hi1
   have hp:AY p=true:=lX.1 hok p (List.mem_of_mem_drop (i:=i) (by rw [hi];simp))
   have hq:AY q=true:=lX.1 hok q (List.mem_of_mem_drop (i:=i) (by rw [hi];simp))
   have hv:=IU hp hq
   have hg1:B7 c.Pts ((i:Int)+1)=some q:=by have:=Ei hi1;simpa using this
   obtain ⟨l,hl1,hl2,hl3⟩:=iK hv
   cases hg with
   |cons _ _ _ _ h1 h2 h3 h4 hg=>
    have hll:=hl3 h1
    subst hll
    simp only [lK]at ho
    have hstep:Ev c (out,(i:Int))=some (.go (out++ [rt (N4 (V2 p q) (V2 p q))],((i+1:Nat):Int))):=by
      unfold Ev
      dsimp only
      rw [L6 (n:=(i:Int)+1) (by omega)]
      simp only [show (i:Int)+1< (c.Pts.length:Int) by omega,decide_true,bE,Ei hi,hg1,lB,Xd hp hq,BA hv hv,hl1]
      rw [Qb (by simp;omega)]
      rfl
    rw [L7 hstep,ih q (i+1) _ _ hi1 hg (by simp;omega),Zl]
    simp
theorem LW (c:Curve)(hl:c.Pts.length≤1000000):Qm c=some (if Ey c.Pts=0 then EU c.Pts else []):=by
  unfold Qm
  rw [DS c hl,lB]
  by_cases h:Ey c.Pts=0
  ·rw [bG h,h]
   have hv:=checkM_zero.1 h
   simp only [bne_self_eq_false,bF]
   cases hp:c.Pts with
   |nil=>have:=hv.two;rw [hp]at this;simp at this
   |cons p r=>
    have:=IY c hl hv.ok r p 0 [] none (by rw [hp];rfl) (by rw [← hp];exact hv.good) (by rw [hp]at hl;simp at hl ⊢;omega)
    rw [show ((0:Nat):Int)=0 from rfl]at this
    rw [this];rfl
  ·rw [bH h,show (Ey c.Pts !=0)=true from bne_iff_ne.2 h];rfl
/-- A sum, as the programs take it. -/
def GR:Int→List Int→Int
  |s,[]=>s
  |s,a::l=>GR (C5 (s+a)) l
theorem IZ (l:List Int)(hl:l.length≤1000000): ∀(r:List Int) (i:Nat) (s:Int),l.drop i=r→loop (Y5 l) (s,(i:Int))=some (GR s r):=by
  intro r
  induction r with
  |nil=>
   intro i s hi
   have:=Q6 hi
   refine D8 ?_
   unfold Y5
   simp only [show ¬(i:Int)<l.length by omega,decide_false,bF,GR]
  |cons a r ih=>
   intro i s hi
   have hlt:=O0 hi
   have hstep:Y5 l (s,(i:Int))=some (.go (C5 (s+a),((i+1:Nat):Int))):=by
     unfold Y5
     simp only [show (i:Int)<l.length by omega,decide_true,bE,Ei hi,lB]
     rw [L6 (n:=(i:Int)+1) (by omega)];rfl
   rw [L7 hstep,ih (i+1) _ (L9 hi),GR]
theorem JA (l:List Int)(hl:l.length≤1000000): ∀(r:List Int) (i:Nat) (s:Int),l.drop i=r→loop (Cy l) (s,(i:Int))=some (GR s r):=by
  intro r
  induction r with
  |nil=>
   intro i s hi
   have:=Q6 hi
   refine D8 ?_
   unfold Cy
   simp only [show ¬(i:Int)<l.length by omega,decide_false,bF,GR]
  |cons a r ih=>
   intro i s hi
   have hlt:=O0 hi
   have hstep:Cy l (s,(i:Int))=some (.go (C5 (s+a),((i+1:Nat):Int))):=by
     unfold Cy
     simp only [show (i:Int)<l.length by omega,decide_true,bE,Ei hi,lB]
     rw [L6 (n:=(i:Int)+1) (by omega)];rfl
   rw [L7 hstep,ih (i+1) _ (L9 hi),GR]
noncomputable def Pc (c:Curve):List Int:=if Ey c.Pts=0 then EU c.Pts else []
theorem mT: ∀l:List Spot,(EU l).length≤l.length
  | []=>by simp [EU]
  |p::r=>by rw [Yc];simp
theorem OQ (c:Curve):(Pc c).length≤c.Pts.length:=by
  unfold Pc
  split
  ·exact mT _
  ·simp
theorem BQ (c:Curve)(hl:c.Pts.length≤1000000):Hd c=some (GR 0 (Pc c)):=by
  unfold Hd
  rw [LV c hl,lB]
  have:=OQ c
  have h:=IZ (Pc c) (by omega) (Pc c) 0 0 (by simp)
  rw [show ((0:Nat):Int)=0 from rfl]at h
  show (loop (Y5 (Pc c)) (0,0)).bind _=_
  rw [h];rfl
theorem LX (c:Curve)(hl:c.Pts.length≤1000000):Ho c=some (GR 0 (Pc c)):=by
  unfold Ho
  rw [LW c hl,lB]
  have:=OQ c
  have h:=JA (Pc c) (by omega) (Pc c) 0 0 (by simp)
  rw [show ((0:Nat):Int)=0 from rfl]at h
  show (loop (Cy (Pc c)) (0,0)).bind _=_
  rw [h];rfl
/-- A quarter turn, so many times. -/
def dE:Nat→CurveVector→CurveVector
  |0,v=>v
  |n+1,v=>dE n ⟨-v.y,v.x⟩
theorem TI: ∀(n:Nat) (v w:CurveVector),N4 (dE n v) (dE n w)=N4 v w
  |0,_,_=>rfl
  |n+1,v,w=>by rw [dE,dE,TI n];unfold N4;grind
/-- A piece's vector, made of numbers: in one quadrant. -/
def pO (n:Nat)(v:CurveVector):Prop:= ∃x y L:Int,v=dE n ⟨x,y⟩∧0<x∧0≤y∧x*x+y*y=L*L∧1000≤L∧L≤3029∧x≤L∧y≤L
inductive Ch (Q:CurveVector→Prop):List Spot→Prop
  |one (p:Spot):Ch Q [p]
  |cons (p q:Spot) (r:List Spot) (h:Q (V2 p q)) (hr:Ch Q (q::r)):Ch Q (p::q::r)
theorem OS {n:Nat}: ∀(r:List Spot) (p:Spot) (last:Option CurveVector),Ch (pO n) (p::r)→(∀u,last=some u→pO n u)→Good last (p::r)
  | [],p,last,_,_=> .one _ _
  |q::r,p,last,hc,hl=>by
   cases hc with
   |cons _ _ _ h1 h2=>
    have hq:=h1
    obtain ⟨x,y,L,hv,hx,hy,hsq,hL1,hL2,hxL,hyL⟩:=h1
    have hd:N4 (V2 p q) (V2 p q)=L*L:=by rw [hv,TI];unfold N4;exact hsq
    have hrt:rt (N4 (V2 p q) (V2 p q))=L:=by rw [hd];exact iJ (by omega) (by omega)
    refine .cons _ _ _ _ (by rw [hrt,hd]) (by rw [hrt];exact hL1) (by rw [hrt];omega) (fun u hu=> ?_) (OS r q _ h2 (fun u hu=>by cases hu;exact hq))
    obtain ⟨x',y',L',hv',hx',hy',_⟩:=hl u hu
    rw [hv,hv',TI]
    unfold N4
    have:=Int.mul_pos hx' hx
    have:=wB hy' hy
    dsimp only
    omega
/-- What the curves made of numbers are like. -/
structure Made (l:List Spot):Prop where
  two:2≤l.length
  six:l.length≤6
  ch: ∃n,Ch (pO n) l
  bd: ∀p∈l, -50000≤p.X∧p.X≤50000∧ -50000≤p.Y∧p.Y≤50000
theorem Made.valid {l:List Spot}(h:Made l):Valid l:=by
  obtain ⟨n,hc⟩:=h.ch
  have:=h.two;have:=h.six
  refine ⟨h.two,by omega,lX.2 fun p hp=>okS_iff.2 (by have:=h.bd p hp;omega),?_⟩
  match l,h,hc with
  |p::r,_,hc=>exact OS r p none hc (fun u hu=>by cases hu)
  | [],h,_=>exact absurd h.two (by simp)
/-! ### Loops that look for the first error -/
def K1 {α β:Type}(g:Nat→α→Option β):Nat→List α→Option β
  |_,[]=>none
  |i,a::r=>match g i a with
   |some e=>some e
   |none=>K1 g (i+1) r
def LY {β:Type}:Option β→Sum Unit β
  |some e=> .inr e
  |none=> .inl ()
theorem Ao {α β:Type}(l:List α)(F:Int→Option (Stp Int (Sum Unit β)))(g:Nat→α→Option β)(hF: ∀(i:Nat) a,l[i]? =some a→F (i:Int)=some (match g i a with|some e=> .out (.inr e)|none=> .go ((i+1:Nat):Int)))(h0:F (l.length:Int)=some (.out (.inl ()))):
    loop F 0=some (LY (K1 g 0 l)):=by
  have key: ∀(r:List α) (i:Nat),l.drop i=r→i≤l.length→loop F (i:Int)=some (LY (K1 g i r)):=by
    intro r
    induction r with
    |nil=>
     intro i hi hil
     have:i=l.length:=by have:=List.drop_eq_nil_iff.1 hi;omega
     subst this
     exact D8 h0
    |cons a r ih=>
     intro i hi hil
     have hlt:i<l.length:=by
       rcases Nat.lt_or_ge i l.length with q|q
       ·exact q
       ·rw [List.drop_eq_nil_of_le q]at hi;cases hi
     have ha:l[i]? =some a:=by have:=congrArg (fun z=>z[0]?) hi;simpa using this
     have hr:l.drop (i+1)=r:=by have:=congrArg (fun z=>z.drop 1) hi;simpa using this
     have hs:=hF i a ha
     unfold K1
     cases hg:g i a with
     |some e=>rw [hg]at hs;exact D8 hs
     |none=>rw [hg]at hs;rw [L7 hs];exact ih (i+1) hr (by omega)
  have:=key l 0 rfl (by omega)
  exact this
theorem firstE_none {α β:Type}{g:Nat→α→Option β}: ∀{l:List α} {i:Nat},K1 g i l=none↔∀(j:Nat) a,l[j]? =some a→g (i+j) a=none
  | [],i=>by simp [K1]
  |a::r,i=>by
   unfold K1
   cases h:g i a with
   |some e=>
    constructor
    ·intro h';cases h'
    ·intro h';have:=h' 0 a rfl;rw [Nat.add_zero,h]at this;cases this
   |none=>
    dsimp only
    rw [firstE_none (l:=r)]
    constructor
    ·intro h' j b hj
     cases j with
     |zero=>cases hj;exact h
     |succ j=>have:=h' j b hj;rwa [show i+1+j=i+ (j+1) by omega]at this
    ·intro h' j b hj
     have:=h' (j+1) b hj
     rwa [show i+ (j+1)=i+1+j by omega]at this
/-! ### Numbers -/
def Zu (n a b:Int):Bool:=decide (a≤n)&&decide (n≤b)
theorem Vm (n a b:Int):Bu n a b=some (Zu n a b):=rfl
theorem Xe (n a b:Int):Ff n a b=some (Zu n a b):=rfl
def Uo (kind:Int):Int×Int×Int:=if kind=1 then (2000,30,90)else if kind=2 then (1000,20,60)else if kind=3 then (300,100,300)else (0,0,0)
theorem KA (k:Int):Cq k=some (Uo k):=by
  unfold Cq Uo
  by_cases h:k<0∨k≥4
  ·rw [show ((decide (k<0))||(decide (k≥4)))=true by simpa using h,bE,bH (by omega),bH (by omega),bH (by omega)]
  ·rw [show ((decide (k<0))||(decide (k≥4)))=false by rw [bP];simpa using h,bF]
   obtain ⟨h1,h2⟩:=not_or.1 h
   rcases (show k=0∨k=1∨k=2∨k=3 by omega)with rfl|rfl|rfl|rfl<;>rfl
theorem GS (k:Int):Ki k=some (Uo k):=by
  unfold Ki Uo
  by_cases h1:k=1
  ·subst h1;rfl
  ·by_cases h2:k=2
   ·subst h2;rfl
   ·by_cases h3:k=3
    ·subst h3;rfl
    ·rw [bH h1,bH h2,bH h3]
     rw [show (k==1)=false by simpa using h1,show (k==2)=false by simpa using h2,show (k==3)=false by simpa using h3];rfl
theorem WO {n:Int}(h: -9223372036854775808≤n∧n≤9223372036854775807):C5 n=n:=Go.IntWalk.i64_in n h
theorem D1 {α:Type}{l:List α}{i:Nat}{a:α}(h:l[i]? =some a):B7 l (i:Int)=some a:=by
  unfold B7;rw [bG (by omega),bU];exact h
theorem J4 {α:Type}{l:List α}{i:Nat}{a:α}(h:l[i]? =some a):i<l.length:=(lI.1 h).1
theorem MK {α:Type}(c:Bool)(a b:α):cond c (some a) (some b)=some (cond c a b):=by cases c<;>rfl
def Ep (high:Int):Int→List Int→Bool
  |_,[]=>true
  |low,n::r=>decide (low≤n)&&decide (n<high)&&Ep high (n+1) r
theorem KB (l:List Int)(low high:Int)(hl:l.length≤1000000)(hh:high≤1000000000)(h0:0≤low):Ds l low high=some (Ep high low l):=by
  have key: ∀(r:List Int) (i:Nat) (lo:Int),0≤lo→l.drop i=r→i≤l.length→loop (Ax l high) (lo,(i:Int))=some (if Ep high lo r then .inl ()else .inr false):=by
    intro r
    induction r with
    |nil=>
     intro i lo _ hi hil
     have:=Q6 hi
     refine D8 ?_
     unfold Ax
     dsimp only
     rw [show decide ((i:Int)< (l.length:Int))=false from bC (by omega)];rfl
    |cons n r ih=>
     intro i lo hlo hi hil
     have hlt:=O0 hi
     have hs:Ax l high (lo,(i:Int))=some (if decide (lo≤n)&&decide (n<high)then .go (n+1,((i+1:Nat):Int))else .out (.inr false)):=by
       unfold Ax
       dsimp only
       rw [show decide ((i:Int)< (l.length:Int))=true from bB (by omega),Ei hi,bE,lB,WO (n:=(i:Int)+1) (by omega)]
       by_cases q:lo≤n∧n<high
       ·rw [show ((decide (n<lo))||(decide (n≥high)))=false by rw [bP];simp;omega,bF,WO (n:=n+1) (by omega),bG (by simpa using q)];rfl
       ·rw [show ((decide (n<lo))||(decide (n≥high)))=true by simp;omega,bE,bH (by simpa using q)]
     unfold Ep
     cases q:(decide (lo≤n)&&decide (n<high))
     ·rw [q]at hs;rw [D8 hs];rfl
     ·rw [q]at hs
      simp only [bK,bD]at q
      rw [L7 hs,ih (i+1) (n+1) (by omega) (L9 hi) (by omega)];rfl
  unfold Ds
  have:=key l 0 low h0 rfl (by omega)
  rw [show ((0:Nat):Int)=0 from rfl]at this
  rw [this]
  cases Ep high low l<;>rfl
theorem GU (l:List Int)(low high:Int)(hl:l.length≤1000000):If l low high=some (Ep high low l):=by
  have key: ∀(r:List Int) (i:Nat) (lo:Int),low≤lo→(i=0→lo=low)→(0<i→l[i - 1]? =some (lo - 1))→l.drop i=r→i≤l.length→loop (Di l low high) (i:Int)=some (if Ep high lo r then .inl ()else .inr false):=by
    intro r
    induction r with
    |nil=>
     intro i lo _ _ _ hi hil
     have:=Q6 hi
     refine D8 ?_
     unfold Di
     rw [show decide ((i:Int)< (l.length:Int))=false from bC (by omega)];rfl
    |cons n r ih=>
     intro i lo hlo h0 h1 hi hil
     have hlt:=O0 hi
     have hn:l[i]? =some n:=by have:=congrArg (fun z=>z[0]?) hi;simpa using this
     have hs:Di l low high (i:Int)=some (if decide (lo≤n)&&decide (n<high)then .go ((i+1:Nat):Int)else .out (.inr false)):=by
       unfold Di
       rw [show decide ((i:Int)< (l.length:Int))=true from bB (by omega),Ei hi,bE,lB,MK,lB,MK,lB,WO (n:=(i:Int)+1) (by omega)]
       by_cases q1:n<low
       ·rw [bB q1,bH (by simp;omega)];rfl
       ·rw [bC q1]
        simp only [bN,bE,bO]
        by_cases q2:n≥high
        ·rw [bB q2,bH (by simp;omega)];rfl
        ·rw [bC q2]
         simp only [bN,bI,bO]
         by_cases q3:(i:Int)>0
         ·have e:B7 l (C5 ((i:Int) - 1))=some (lo - 1):=by
            rw [WO (n:=(i:Int) - 1) (by omega),show (i:Int) - 1=((i - 1:Nat):Int) by omega]
            exact D1 (h1 (by omega))
          rw [bB q3,bE,bE,e,lB,bI]
          by_cases q4:n≤lo - 1
          ·rw [bB q4,bH (by simp;omega)];rfl
          ·rw [bC q4,bG (by simp;omega)];rfl
         ·have:lo=low:=h0 (by omega)
          rw [bC q3,bF,lB,bJ,bG (by simp;omega)];rfl
     unfold Ep
     cases q:(decide (lo≤n)&&decide (n<high))
     ·rw [q]at hs;rw [D8 hs];rfl
     ·rw [q]at hs
      simp only [bK,bD]at q
      rw [L7 hs,ih (i+1) (n+1) (by omega) (fun z=>by omega) (fun _=>by rw [Nat.add_sub_cancel,hn];congr 1;omega) (L9 hi) (by omega)];rfl
  unfold If
  have:=key l 0 low (Int.le_refl _) (fun _=>rfl) (fun z=>by omega) rfl (by omega)
  rw [show ((0:Nat):Int)=0 from rfl]at this
  rw [this]
  cases Ep high low l<;>rfl
noncomputable def Vf (c:Curve):Int:=GR 0 (Pc c)
theorem mU {m:Map}{i:Nat}{l:Lane}(h:m.Lanes[i]? =some l)(hl:l.Curve_.Pts.length≤1000000):Es m (i:Int)=some (Vf l.Curve_):=by
  unfold Es
  rw [D1 h,lB,BQ _ hl];rfl
/-- The lists of a map are of bearable lengths. -/
structure Bear (m:Map):Prop where
  lanes:m.Lanes.length≤1000000
  pts: ∀l∈m.Lanes,l.Curve_.Pts.length≤1000000∧l.Next.length≤1000000
noncomputable def laneE (n:Nat)(i:Nat)(l:Lane):Option Int:=
  if (Uo l.Kind).1=0 then some 4
  else if Ey l.Curve_.Pts≠0 then some (Ey l.Curve_.Pts)
  else if (Zu l.Half 200 4000&&Zu l.Limit 1 (Uo l.Kind).1)=false then some 2
  else if 3<l.Next.length then some 8
  else if Ep n (i+1) l.Next=false then some 11 else none
theorem iL {m:Map}(B:Bear m):Ab ⟨m⟩=some ((K1 (laneE m.Lanes.length) 0 m.Lanes).getD 0):=by
  have h:=Ao m.Lanes (T8 ⟨m⟩) (laneE m.Lanes.length) (fun i l hl=>by
    have hi:=J4 hl
    have hb:=B.lanes
    obtain ⟨p1,p2⟩:=B.pts l (lG hl)
    unfold T8 laneE
    dsimp only
    rw [show decide ((i:Int)< (m.Lanes.length:Int))=true from bB (by omega),D1 hl,bE,lB,KA,lB,DR _ p1,lB,Vm,Vm,lB,MK,lB,WO (n:=(i:Int)+1) (by omega),KB _ _ _ p2 (by omega) (by omega),lB]
    by_cases h1:(Uo l.Kind).1=0
    ·rw [bG h1,show ((Uo l.Kind).1==0)=true by simpa using h1];rfl
    ·rw [bH h1,show ((Uo l.Kind).1==0)=false by simpa using h1,bF]
     by_cases h2:Ey l.Curve_.Pts≠0
     ·rw [bG h2,show (Ey l.Curve_.Pts !=0)=true by simpa using h2];rfl
     ·rw [bH h2,show (Ey l.Curve_.Pts !=0)=false by simpa using h2,bF]
      cases Zu l.Half 200 4000
      ·rfl
      ·cases Zu l.Limit 1 (Uo l.Kind).1
       ·rfl
       ·simp only [bM,bN,bE,bF,bO,Bool.and_self]
        rw [bH (by decide)]
        by_cases h3:3<l.Next.length
        ·rw [bG h3,show decide ((l.Next.length:Int)>3)=true from bB (by omega)];rfl
        ·rw [bH h3,show decide ((l.Next.length:Int)>3)=false from bC (by omega),bF]
         cases Ep (m.Lanes.length:Int) ((i:Int)+1) l.Next<;>rfl) (by
    unfold T8
    dsimp only
    rw [show decide ((m.Lanes.length:Int)< (m.Lanes.length:Int))=false from bC (by omega)];rfl)
  unfold Ab
  rw [h]
  cases K1 (laneE m.Lanes.length) 0 m.Lanes<;>rfl
theorem iM (k:Int):((decide (k<1))||(decide (k>3)))=decide ((Uo k).1=0):=by
  unfold Uo
  by_cases h1:k=1
  ·subst h1;rfl
  ·by_cases h2:k=2
   ·subst h2;rfl
   ·by_cases h3:k=3
    ·subst h3;rfl
    ·rw [bH h1,bH h2,bH h3]
     simp only [decide_true,bL,bD]
     omega
theorem iN {m:Map}(B:Bear m){i:Nat}{l:Lane}(hl:m.Lanes[i]? =some l):Kz m (i:Int)=some ((laneE m.Lanes.length i l).getD 0):=by
  have hi:=J4 hl
  have hb:=B.lanes
  obtain ⟨p1,p2⟩:=B.pts l (lG hl)
  unfold Kz laneE
  rw [D1 hl,lB,iM,DS _ p1,lB,GS,lB,Xe,Xe,lB,MK,lB,WO (n:=(i:Int)+1) (by omega),GU _ _ _ p2,lB]
  by_cases h1:(Uo l.Kind).1=0
  ·rw [bG h1,bB h1];rfl
  ·rw [bH h1,bC h1,bF]
   by_cases h2:Ey l.Curve_.Pts≠0
   ·rw [bG h2,show (Ey l.Curve_.Pts !=0)=true by simpa using h2];rfl
   ·rw [bH h2,show (Ey l.Curve_.Pts !=0)=false by simpa using h2,bF]
    cases Zu l.Half 200 4000
    ·rfl
    ·cases Zu l.Limit 1 (Uo l.Kind).1
     ·rfl
     ·simp only [bM,bN,bE,bF,bO,Bool.and_self]
      rw [bH (by decide)]
      by_cases h3:3<l.Next.length
      ·rw [bG h3,show decide ((l.Next.length:Int)>3)=true from bB (by omega)];rfl
      ·rw [bH h3,show decide ((l.Next.length:Int)>3)=false from bC (by omega),bF]
       cases Ep (m.Lanes.length:Int) ((i:Int)+1) l.Next<;>rfl
theorem OT {n i:Nat}{l:Lane}{e:Int}(h:laneE n i l=some e):e≠0:=by
  unfold laneE at h
  split at h
  ·cases h;decide
  ·split at h
   ·rename_i h2;cases h;exact h2
   ·split at h
    ·cases h;decide
    ·split at h
     ·cases h;decide
     ·split at h
      ·cases h;decide
      ·cases h
theorem VU {m:Map}(B:Bear m):loop (Gh m) 0=some (LY (K1 (laneE m.Lanes.length) 0 m.Lanes)):=
  Ao m.Lanes (Gh m) (laneE m.Lanes.length) (fun i l hl=>by
   have hi:=J4 hl
   have hb:=B.lanes
   unfold Gh
   rw [show decide ((i:Int)< (m.Lanes.length:Int))=true from bB (by omega),iN B hl,bE,lB,WO (n:=(i:Int)+1) (by omega)]
   cases h:laneE m.Lanes.length i l with
   |none=>rfl
   |some e=>
    rw [Option.getD_some,show (e !=0)=true by simpa using OT h];rfl) (by
   unfold Gh
   rw [show decide ((m.Lanes.length:Int)< (m.Lanes.length:Int))=false from bC (by omega)];rfl)
theorem Ob {high:Int}: ∀{l:List Int} {low:Int},Ep high low l=true→∀k∈l,low≤k∧k<high
  | [],_,_,k,hk=>by cases hk
  |n::r,low,h,k,hk=>by
   unfold Ep at h
   simp only [bK,bD]at h
   rcases lT.1 hk with rfl|hk
   ·exact h.1
   ·have:=Ob h.2 k hk
    omega
/-- What a lane is that has no error of its own. -/
structure LaneOK (n i:Nat)(l:Lane):Prop where
  kind:(Uo l.Kind).1≠0
  curve:Ey l.Curve_.Pts=0
  half:Zu l.Half 200 4000=true
  limit:Zu l.Limit 1 (Uo l.Kind).1=true
  few:l.Next.length≤3
  next:Ep n (i+1) l.Next=true
theorem YO {n i:Nat}{l:Lane}(h:laneE n i l=none):LaneOK n i l:=by
  unfold laneE at h
  split at h
  ·cases h
  ·rename_i h1
   split at h
   ·cases h
   ·rename_i h2
    split at h
    ·cases h
    ·rename_i h3
     split at h
     ·cases h
     ·rename_i h4
      split at h
      ·cases h
      ·rename_i h5
       simp only [Bool.not_eq_false,bK]at h3
       exact ⟨h1,Decidable.not_not.1 h2,h3.1,h3.2,by omega,by simpa using h5⟩
theorem DT {m:Map}(h:K1 (laneE m.Lanes.length) 0 m.Lanes=none){i:Nat}{l:Lane}(hl:m.Lanes[i]? =some l):LaneOK m.Lanes.length i l:=by
  have:=firstE_none.1 h i l hl
  rw [bZ]at this
  exact YO this
theorem KC {l:List Spot}(h:Ey l=0):2≤l.length:=by
  unfold Ey at h
  split at h
  ·cases h
  ·omega
def FN (l:List Spot):Spot:=l.headD ⟨0,0⟩
def BR (l:List Spot):Spot:=l.getLastD ⟨0,0⟩
theorem RF {l:List Spot}(h:2≤l.length):B7 l 0=some (FN l):=by
  cases l with
  |nil=>simp at h
  |cons a r=>rfl
theorem RG {l:List Spot}(h:2≤l.length)(hl:l.length≤1000000):B7 l (C5 ((l.length:Int) - 1))=some (BR l):=by
  rw [WO (by omega),show (l.length:Int) - 1=((l.length - 1:Nat):Int) by omega]
  refine D1 ?_
  unfold BR
  rw [List.getLastD_eq_getLast?,List.getLast?_eq_getElem?]
  rw [lH (by omega)];rfl
def VV (a b:Spot):Bool:=a.X==b.X&& (a.Y==b.Y&&true)
def GV (m:Map)(l:Lane)(_:Nat)(k:Int):Option Int:=
  match m.Lanes[k.toNat]? with
  |some n=>if n.Kind≠l.Kind then some 4 else if VV (FN n.Curve_.Pts) (BR l.Curve_.Pts)=false then some 3 else none
  |none=>none
def nextE (m:Map)(_:Nat)(l:Lane):Option Int:=K1 (GV m l) 0 l.Next
theorem OU {m:Map}(B:Bear m)(H:K1 (laneE m.Lanes.length) 0 m.Lanes=none){i:Nat}{l:Lane}(hl:m.Lanes[i]? =some l){j:Nat}{k:Int}(hk:l.Next[j]? =some k):
    ∃n,B7 m.Lanes k=some n∧m.Lanes[k.toNat]? =some n∧2≤n.Curve_.Pts.length∧n.Curve_.Pts.length≤1000000:=by
  have L:=DT H hl
  have hb:=Ob L.next k (lG hk)
  have hlt:k.toNat<m.Lanes.length:=by omega
  refine ⟨m.Lanes[k.toNat],?_,lH hlt,KC (DT H (lH hlt)).curve,(B.pts _ (List.getElem_mem hlt)).1⟩
  unfold B7
  rw [bG (by omega),lH hlt]
theorem dF {m:Map}{l:Lane}{j:Nat}{k e:Int}(h:GV m l j k=some e):e≠0:=by
  unfold GV at h
  split at h
  ·split at h
   ·cases h;decide
   ·split at h
    ·cases h;decide
    ·cases h
  ·cases h
theorem RH {m:Map}(B:Bear m)(H:K1 (laneE m.Lanes.length) 0 m.Lanes=none){i:Nat}{l:Lane}(hl:m.Lanes[i]? =some l):
    loop (R6 ⟨m⟩ l (BR l.Curve_.Pts)) 0=some (LY (nextE m i l))∧loop (Dj m l) 0=some (LY (nextE m i l)):=by
  have L:=DT H hl
  obtain ⟨p1,p2⟩:=B.pts l (lG hl)
  constructor
  ·refine Ao l.Next _ (GV m l) (fun j k hk=> ?_) ?_
   ·have hj:=J4 hk
    obtain ⟨n,g1,g2,g3,g4⟩:=OU B H hl hk
    unfold R6 GV
    dsimp only
    rw [show decide ((j:Int)< (l.Next.length:Int))=true from bB (by omega),D1 hk,bE,lB,g1,lB,lB,RF g3,lB,WO (n:=(j:Int)+1) (by omega),g2]
    dsimp only
    rw [show ((FN n.Curve_.Pts).X==(BR l.Curve_.Pts).X&& ((FN n.Curve_.Pts).Y==(BR l.Curve_.Pts).Y&&true))=VV (FN n.Curve_.Pts) (BR l.Curve_.Pts) from rfl]
    by_cases h1:n.Kind≠l.Kind
    ·rw [bG h1,show (n.Kind !=l.Kind)=true by simpa using h1];rfl
    ·rw [bH h1,show (n.Kind !=l.Kind)=false by simpa using h1]
     cases VV (FN n.Curve_.Pts) (BR l.Curve_.Pts)<;>rfl
   ·unfold R6
    rw [show decide ((l.Next.length:Int)< (l.Next.length:Int))=false from bC (by omega)];rfl
  ·refine Ao l.Next _ (GV m l) (fun j k hk=> ?_) ?_
   ·have hj:=J4 hk
    obtain ⟨n,g1,g2,g3,g4⟩:=OU B H hl hk
    unfold Dj GV
    rw [show decide ((j:Int)< (l.Next.length:Int))=true from bB (by omega),D1 hk,bE,lB,g1,lB,RF g3,lB,RG (KC L.curve) p1,lB,WO (n:=(j:Int)+1) (by omega),g2]
    dsimp only
    rw [show ((FN n.Curve_.Pts).X==(BR l.Curve_.Pts).X&& ((FN n.Curve_.Pts).Y==(BR l.Curve_.Pts).Y&&true))=VV (FN n.Curve_.Pts) (BR l.Curve_.Pts) from rfl]
    by_cases h1:n.Kind≠l.Kind
    ·rw [bG h1,show (n.Kind !=l.Kind)=true by simpa using h1];rfl
    ·rw [bH h1,show (n.Kind !=l.Kind)=false by simpa using h1]
     cases VV (FN n.Curve_.Pts) (BR l.Curve_.Pts)<;>rfl
   ·unfold Dj
    rw [show decide ((l.Next.length:Int)< (l.Next.length:Int))=false from bC (by omega)];rfl
theorem RI {m:Map}(B:Bear m)(H:K1 (laneE m.Lanes.length) 0 m.Lanes=none):
    Y0 ⟨m⟩=some ((K1 (nextE m) 0 m.Lanes).getD 0)∧La m=some ((K1 (nextE m) 0 m.Lanes).getD 0):=by
  have hb:=B.lanes
  constructor
  ·have h:=Ao m.Lanes (R7 ⟨m⟩) (nextE m) (fun i l hl=>by
     have hi:=J4 hl
     have L:=DT H hl
     obtain ⟨p1,p2⟩:=B.pts l (lG hl)
     unfold R7
     dsimp only
     rw [show decide ((i:Int)< (m.Lanes.length:Int))=true from bB (by omega),D1 hl,bE,lB,RG (KC L.curve) p1,lB,(RH B H hl).1,WO (n:=(i:Int)+1) (by omega)]
     cases nextE m i l<;>rfl) (by
     unfold R7
     dsimp only
     rw [show decide ((m.Lanes.length:Int)< (m.Lanes.length:Int))=false from bC (by omega)];rfl)
   unfold Y0
   rw [h]
   cases K1 (nextE m) 0 m.Lanes<;>rfl
  ·have h:=Ao m.Lanes (Dk m) (nextE m) (fun i l hl=>by
     have hi:=J4 hl
     unfold Dk
     rw [show decide ((i:Int)< (m.Lanes.length:Int))=true from bB (by omega),D1 hl,bE,lB,(RH B H hl).2,WO (n:=(i:Int)+1) (by omega)]
     cases nextE m i l<;>rfl) (by
     unfold Dk
     rw [show decide ((m.Lanes.length:Int)< (m.Lanes.length:Int))=false from bC (by omega)];rfl)
   unfold La
   rw [h]
   cases K1 (nextE m) 0 m.Lanes<;>rfl
/-- The place of the first element with a property. -/
theorem OV {α:Type}{f:Int→Option (Stp Int (Sum Unit Int))}(l:List α)(P:α→Bool)(hl:l.length≤1000000000)(hf: ∀(i:Nat) a,l[i]? =some a→f (i:Int)=some (if P a then .out (.inr (i:Int))else .go (C5 ((i:Int)+1))))(he:f (l.length:Int)=some (.out (.inl ()))):
    loop f 0=some (match l.findIdx? P with|some i=> .inr (i:Int)|none=> .inl ()):=by
  have key: ∀(r:List α) (i:Nat),l.drop i=r→i≤l.length→loop f (i:Int)=some (match r.findIdx? P with|some j=> .inr ((i+j:Nat):Int)|none=> .inl ()):=by
    intro r
    induction r with
    |nil=>
     intro i hi hil
     have:=Q6 hi
     obtain rfl:i=l.length:=by omega
     rw [D8 he];rfl
    |cons a r ih=>
     intro i hi _
     have hlt:=O0 hi
     have h0:l[i]? =some a:=by have:=congrArg (fun z=>z[0]?) hi;simpa using this
     have hs:=hf i a h0
     rw [List.findIdx?_cons]
     by_cases hp:P a=true
     ·rw [bG hp]at hs
      rw [D8 hs,bG hp];simp
     ·rw [bH hp]at hs
      rw [L6 (by omega)]at hs
      rw [L7 hs,show ((i:Int)+1)=((i+1:Nat):Int) by omega,ih (i+1) (L9 hi) (by omega),bH hp]
      cases r.findIdx? P with
      |none=>rfl
      |some j=>simp only [lF];congr 3;omega
  have:=key l 0 rfl (by omega)
  rw [show ((0:Nat):Int)=0 from rfl]at this
  rw [this]
  cases l.findIdx? P<;>simp
/-- -1, or the place. -/
def KD {α:Type}(P:α→Bool)(l:List α):Int:=match l.findIdx? P with|some i=>(i:Int)|none=> -1
theorem Zm {α:Type}(P:α→Bool)(l:List α):decide (KD P l≥0)=l.any P:=by
  unfold KD
  cases h:l.findIdx? P with
  |none=>
   have:=List.findIdx?_eq_none_iff.1 h
   rw [show l.any P=false by rw [List.any_eq_false];intro x hx;simpa using this x hx]
   decide
  |some i=>
   have:=List.findIdx?_isSome (xs:=l) (p:=P)
   rw [h]at this
   rw [← this]
   simp
/-- What both twins compute of a list. -/
theorem Xf {α:Type}{f:Int→Option (Stp Int (Sum Unit Int))}(l:List α)(P:α→Bool)(hl:l.length≤1000000000)(hf: ∀(i:Nat) a,l[i]? =some a→f (i:Int)=some (if P a then .out (.inr (i:Int))else .go (C5 ((i:Int)+1))))(he:f (l.length:Int)=some (.out (.inl ()))):
    thenS (loop f 0) (fun _=>some (-1)) (fun r=>some r)=some (KD P l):=by
  rw [OV l P hl hf he]
  unfold KD
  cases l.findIdx? P<;>rfl
theorem dG (l:List Phase)(hl:l.length≤1000000):F1 l=some (l.any fun p=> !Zu p.Ticks 1 10000):=by
  unfold F1 H4
  rw [Xf l (fun p=> !Zu p.Ticks 1 10000) (by omega) (fun i a h=>by
   have:=J4 h
   unfold F0 Aa
   rw [show decide ((i:Int)< (l.length:Int))=true from bB (by omega),D1 h,bE,lB,Vm,lB,lB]
   cases Zu a.Ticks 1 10000<;>rfl) (by
   unfold F0
   simp)]
  rw [lB,Zm]
theorem YP (m:Map)(l:List Phase)(hl:l.length≤1000000)(hm:m.Lanes.length≤1000000)(hg: ∀p∈l,p.Green.length≤1000000):E9 l ⟨m⟩=some (l.any fun p=> !Ep m.Lanes.length 0 p.Green):=by
  unfold E9 G8
  rw [Xf l (fun p=> !Ep m.Lanes.length 0 p.Green) (by omega) (fun i a h=>by
   have:=J4 h
   unfold E8 W3
   dsimp only
   rw [show decide ((i:Int)< (l.length:Int))=true from bB (by omega),D1 h,bE,lB,KB _ _ _ (hg a (lG h)) (by omega) (by omega),lB,lB]
   cases Ep (m.Lanes.length:Int) 0 a.Green<;>rfl) (by
   unfold E8
   simp)]
  rw [lB,Zm]
structure BearS (m:Map):Prop where
  many:m.Signals.length≤1000000
  phases: ∀s∈m.Signals,s.Phases.length≤1000000∧∀p∈s.Phases,p.Green.length≤1000000
def signalE (m:Map)(_:Nat)(s:Signal):Option Int:=
  if s.Phases.length=0 then some 6
  else if 6<s.Phases.length then some 8
  else if Zu s.Offset 0 1099511627776=false then some 2
  else if (s.Phases.any fun p=> !Zu p.Ticks 1 10000)=true then some 2
  else if (s.Phases.any fun p=> !Ep m.Lanes.length 0 p.Green)=true then some 11 else none
theorem YQ {m:Map}(B:Bear m)(S:BearS m):W1 ⟨m⟩=some ((K1 (signalE m) 0 m.Signals).getD 0):=by
  have h:=Ao m.Signals (Q3 ⟨m⟩) (signalE m) (fun i s hs=>by
    have hi:=J4 hs
    have hb:=S.many
    obtain ⟨p1,p2⟩:=S.phases s (lG hs)
    unfold Q3 signalE
    dsimp only
    rw [show decide ((i:Int)< (m.Signals.length:Int))=true from bB (by omega),D1 hs,bE,lB,Vm,lB,dG _ p1,lB,YP m _ p1 B.lanes p2,lB,WO (n:=(i:Int)+1) (by omega)]
    by_cases h1:s.Phases.length=0
    ·rw [bG h1,h1];rfl
    ·rw [bH h1,show ((s.Phases.length:Int)==0)=false by simp only [beq_eq_false_iff_ne];omega,bF]
     by_cases h2:6<s.Phases.length
     ·rw [bG h2,show decide ((s.Phases.length:Int)>6)=true from bB (by omega)];rfl
     ·rw [bH h2,show decide ((s.Phases.length:Int)>6)=false from bC (by omega),bF]
      cases Zu s.Offset 0 1099511627776
      ·rfl
      ·cases (s.Phases.any fun p=> !Zu p.Ticks 1 10000)
       ·cases (s.Phases.any fun p=> !Ep m.Lanes.length 0 p.Green)<;>rfl
       ·rfl) (by
    unfold Q3
    dsimp only
    rw [show decide ((m.Signals.length:Int)< (m.Signals.length:Int))=false from bC (by omega)];rfl)
  unfold W1
  rw [h]
  cases K1 (signalE m) 0 m.Signals<;>rfl
theorem VW (s:Signal)(hl:s.Phases.length≤1000000): ∀(r:List Phase) (i:Nat) (b:Bool),s.Phases.drop i=r→i≤s.Phases.length→loop (Aw s) (b,(i:Int))=some (b&& !(r.any fun p=> !Zu p.Ticks 1 10000)):=by
  intro r
  induction r with
  |nil=>
   intro i b hi hil
   have:=Q6 hi
   refine D8 ?_
   unfold Aw
   dsimp only
   rw [show decide ((i:Int)< (s.Phases.length:Int))=false from bC (by omega)]
   simp
  |cons p r ih=>
   intro i b hi hil
   have hlt:=O0 hi
   have hs:Aw s (b,(i:Int))=some (.go (b&&Zu p.Ticks 1 10000,((i+1:Nat):Int))):=by
     unfold Aw
     dsimp only
     rw [show decide ((i:Int)< (s.Phases.length:Int))=true from bB (by omega),Ei hi,WO (n:=(i:Int)+1) (by omega)]
     cases b<;>rfl
   rw [L7 hs,ih (i+1) _ (L9 hi) (by omega),List.any_cons]
   cases b<;>cases Zu p.Ticks 1 10000<;>simp
theorem TJ (m:Map)(s:Signal)(hl:s.Phases.length≤1000000)(hg: ∀p∈s.Phases,p.Green.length≤1000000):loop (Av m s) 0=some (if (s.Phases.any fun p=> !Ep m.Lanes.length 0 p.Green)=true then .inr 11 else .inl ()):=by
  have h:=Ao s.Phases (Av m s) (fun _ p=>if Ep m.Lanes.length 0 p.Green then none else some 11) (fun i p hp=>by
    have:=J4 hp
    unfold Av
    rw [show decide ((i:Int)< (s.Phases.length:Int))=true from bB (by omega),D1 hp,bE,lB,GU _ _ _ (hg p (lG hp)),lB,WO (n:=(i:Int)+1) (by omega)]
    cases Ep (m.Lanes.length:Int) 0 p.Green<;>rfl) (by
    unfold Av
    rw [show decide ((s.Phases.length:Int)< (s.Phases.length:Int))=false from bC (by omega)];rfl)
  rw [h]
  have key: ∀(l:List Phase) (i:Nat),LY (K1 (fun (_:Nat) (p:Phase)=>if Ep (m.Lanes.length:Int) 0 p.Green=true then none else some (11:Int)) i l)=if (l.any fun p=> !Ep m.Lanes.length 0 p.Green)=true then .inr 11 else .inl ():=by
    intro l
    induction l with
    |nil=>intro i;rfl
    |cons p r ih=>
     intro i
     unfold K1
     rw [List.any_cons]
     cases hq:Ep (m.Lanes.length:Int) 0 p.Green
     ·rfl
     ·exact ih (i+1)
  rw [key]
end Go.Abs.World
/-! Loops over lists, as functions on lists. -/
namespace Go.Abs
open Go
section
variable {α β σ S τ:Type}
/-- What a loop over a list makes, with a state, and with a way out. -/
def OW (step:Nat→σ→α→Sum σ τ)(fin:σ→τ):Nat→σ→List α→τ
  |_,s,[]=>fin s
  |i,s,a::r=>match step i s a with
   | .inl s'=>OW step fin (i+1) s' r
   | .inr t=>t
theorem Bs {l:List α}{i:Nat}{a:α}{r:List α}(h:l.drop i=a::r):l[i]? =some a:=by
  have:=congrArg (fun z=>z[0]?) h
  simpa using this
theorem oC {F:S→Option (Stp S τ)}(pk:Nat→σ→S)(l:List α)(inv:Nat→σ→Prop)(step:Nat→σ→α→Sum σ τ)(fin:σ→τ){s0:σ}{S0:S}(hS:pk 0 s0=S0)(hi:inv 0 s0)
    (hF: ∀i a s,l[i]? =some a→inv i s→F (pk i s)=some (match step i s a with| .inl s'=> .go (pk (i+1) s')| .inr t=> .out t))
    (hI: ∀i a s s',l[i]? =some a→inv i s→step i s a= .inl s'→inv (i+1) s')
    (h0: ∀s,inv l.length s→F (pk l.length s)=some (.out (fin s))):loop F S0=some (OW step fin 0 s0 l):=by
  have key: ∀(r:List α) (i:Nat) (s:σ),l.drop i=r→i≤l.length→inv i s→loop F (pk i s)=some (OW step fin i s r):=by
    intro r
    induction r with
    |nil=>
     intro i s hi hil hv
     have:=Q6 hi
     obtain rfl:i=l.length:=by omega
     exact D8 (h0 s hv)
    |cons a r ih=>
     intro i s hi hil hv
     have hlt:=O0 hi
     have ha:=Bs hi
     have hs:=hF i a s ha hv
     unfold OW
     cases h:step i s a with
     |inl s'=>rw [h]at hs;rw [L7 hs];exact ih (i+1) s' (L9 hi) (by omega) (hI i a s s' ha hv h)
     |inr t=>rw [h]at hs;exact D8 hs
  rw [← hS]
  exact key l 0 s0 rfl (by omega) hi
/-- The same without a way out. -/
def JB (step:Nat→σ→α→σ):Nat→σ→List α→σ
  |_,s,[]=>s
  |i,s,a::r=>JB step (i+1) (step i s a) r
theorem KV (step:Nat→σ→α→σ)(fin:σ→τ): ∀(l:List α) (i:Nat) (s:σ),OW (fun i s a=> .inl (step i s a)) fin i s l=fin (JB step i s l)
  | [],_,_=>rfl
  |_::r,i,_=>KV step fin r (i+1) _
theorem iO {F:S→Option (Stp S τ)}(pk:Nat→σ→S)(l:List α)(inv:Nat→σ→Prop)(step:Nat→σ→α→σ)(fin:σ→τ){s0:σ}{S0:S}(hS:pk 0 s0=S0)(hi:inv 0 s0)
    (hF: ∀i a s,l[i]? =some a→inv i s→F (pk i s)=some (.go (pk (i+1) (step i s a))))
    (hI: ∀i a s,l[i]? =some a→inv i s→inv (i+1) (step i s a))
    (h0: ∀s,inv l.length s→F (pk l.length s)=some (.out (fin s))):loop F S0=some (fin (JB step 0 s0 l)):=by
  rw [← KV step fin]
  exact oC pk l inv _ fin hS hi hF (fun i a s s' h1 h2 h3=>by cases h3;exact hI i a s h1 h2) h0
/-- The elements that a loop gathers. -/
def Jx (g:Nat→α→Option β):Nat→List α→List β
  |_,[]=> []
  |i,a::r=>match g i a with
   |some b=>b::Jx g (i+1) r
   |none=>Jx g (i+1) r
theorem KE (g:Nat→α→Option β): ∀(l:List α) (i:Nat),(Jx g i l).length≤l.length
  | [],_=>bW _
  |a::r,i=>by
   have:=KE g r (i+1)
   unfold Jx
   cases g i a<;>simp only [lK]<;>omega
theorem GW (g:Nat→α→Option β): ∀(l:List α) (i:Nat) (s:List β),JB (fun i s a=>match g i a with|some b=>s++ [b]|none=>s) i s l=s++Jx g i l
  | [],_,s=>by simp [JB,Jx]
  |a::r,i,s=>by
   unfold JB Jx
   rw [GW g r (i+1)]
   cases g i a<;>simp
theorem oF {F:S→Option (Stp S τ)}(pk:Nat→List β→S)(l:List α)(g:Nat→α→Option β)(fin:List β→τ){S0:S}(hS:pk 0 []=S0)
    (hF: ∀i a (s:List β),l[i]? =some a→s.length≤i→F (pk i s)=some (.go (pk (i+1) (match g i a with|some b=>s++ [b]|none=>s))))
    (h0: ∀s,F (pk l.length s)=some (.out (fin s))):loop F S0=some (fin (Jx g 0 l)):=by
  have:=iO pk l (fun i s=>s.length≤i) (fun i s a=>match g i a with|some b=>s++ [b]|none=>s) fin hS (by simp) hF (fun i a s _ hs=>by
    cases g i a<;>simp<;>omega) (fun s _=>h0 s)
  rw [this,GW,lP]
theorem OX {F:List β×Int→Option (Stp (List β×Int) τ)}(l:List α)(g:Nat→α→Option β)(fin:List β→τ)
    (hF: ∀(i:Nat) a (s:List β),l[i]? =some a→s.length≤i→F (s,(i:Int))=some (.go ((match g i a with|some b=>s++ [b]|none=>s),((i+1:Nat):Int))))
    (h0: ∀s,F (s,(l.length:Int))=some (.out (fin s))):loop F ([],0)=some (fin (Jx g 0 l)):=oF (fun i s=>(s,(i:Int))) l g fin rfl hF h0
/-- Is there one? -/
theorem OY {F:Int→Option (Stp Int (Sum Unit β))}(l:List α)(p:α→Bool)(v:β)(hF: ∀(i:Nat) a,l[i]? =some a→F (i:Int)=some (if p a then .out (.inr v)else .go ((i+1:Nat):Int)))(h0:F (l.length:Int)=some (.out (.inl ()))):
    loop F 0=some (if l.any p then .inr v else .inl ()):=by
  have key: ∀(l:List α) (i:Nat),OW (fun _ _ a=>if p a then Sum.inr (Sum.inr v)else Sum.inl ()) (fun _=>(Sum.inl ():Sum Unit β)) i () l=if l.any p then .inr v else .inl ():=by
    intro l
    induction l with
    |nil=>intro i;rfl
    |cons a r ih=>
     intro i
     unfold OW
     rw [List.any_cons]
     cases h:p a
     ·exact ih (i+1)
     ·rfl
  rw [← key l 0]
  exact oC (F:=F) (σ:=Unit) (fun i _=>(i:Int)) l (fun _ _=>True) _ _ (s0:=()) rfl trivial (fun i a _ h _=>by rw [hF i a h];cases p a<;>rfl) (fun _ _ _ _ _ _ _=>trivial) (fun _ _=>h0)
end
theorem L5 {i:Nat}{n:Nat}(h:i<n):decide ((i:Int)< (n:Int))=true:=bB (by omega)
theorem K2 (n:Nat):decide ((n:Int)< (n:Int))=false:=bC (by omega)
theorem I7 {i:Nat}{n:Nat}(h:i<n)(hn:n≤1000000000000):C5 ((i:Int)+1)=((i+1:Nat):Int):=by rw [L6 (by omega)];omega
end Go.Abs
namespace Go.Abs.World
open Go Go.Abs
structure BearZ (m:Map):Prop where
  many:m.Zones.length≤1000000
  parts: ∀z∈m.Zones,z.Parts.length≤1000000
noncomputable def S7 (m:Map)(k:Int):Int:=((m.Lanes[k.toNat]?).map fun l=>Vf l.Curve_).getD 0
noncomputable def Yd (m:Map)(p:Part):Bool:=decide (p.From<0)||decide (p.From≥p.To)||decide (p.To>S7 m p.Lane_)||decide (p.Rank<0)||decide (p.Rank>100)
noncomputable def zoneE (m:Map)(_:Nat)(z:Zone):Option Int:=
  if z.Parts.length<2 then some 6
  else if 6<z.Parts.length then some 8
  else if z.Signal_<0∨(m.Signals.length:Int)<z.Signal_ then some 2
  else if Ep m.Lanes.length 0 (z.Parts.map (·.Lane_))=false then some 11
  else if z.Parts.any (Yd m)=true then some 2 else none
theorem BC {m:Map}{k:Int}(h0:0≤k)(h1:k<m.Lanes.length): ∃l,m.Lanes[k.toNat]? =some l∧B7 m.Lanes k=some l:=by
  have hlt:k.toNat<m.Lanes.length:=by omega
  refine ⟨m.Lanes[k.toNat],lH hlt,?_⟩
  unfold B7
  rw [bG h0,lH hlt]
theorem ML {m:Map}(B:Bear m){k:Int}(h0:0≤k)(h1:k<m.Lanes.length):Es m k=some (S7 m k):=by
  obtain ⟨l,e1,e2⟩:=BC h0 h1
  have:=mU (m:=m) e1 (B.pts l (lG e1)).1
  rw [show ((k.toNat:Nat):Int)=k by omega]at this
  rw [this,S7,e1];rfl
theorem OZ {m:Map}(B:Bear m){k:Int}(h0:0≤k)(h1:k<m.Lanes.length): ∃l,B7 m.Lanes k=some l∧Ho l.Curve_=some (S7 m k):=by
  obtain ⟨l,e1,e2⟩:=BC h0 h1
  refine ⟨l,e2,?_⟩
  rw [LX _ (B.pts l (lG e1)).1,S7,e1];rfl
theorem VX {α β:Type}(f:α→β): ∀(l:List α) (i:Nat),Jx (fun _ a=>some (f a)) i l=l.map f
  | [],_=>rfl
  |a::r,i=>by rw [Jx,VX f r];rfl
theorem iP {z:Zone}{F:List Int×Int→Option (Stp (List Int×Int) (List Int))}(hl:z.Parts.length≤1000000)
    (hF: ∀x,F x=cond (decide (x.2< (z.Parts.length:Int))) ((B7 z.Parts x.2).bind fun v=>(Bo x.1 [v.Lane_]).bind fun w=>some (.go (w,C5 (x.2+1)))) (some (.out x.1))):
    loop F ([],0)=some (z.Parts.map (·.Lane_)):=by
  rw [← VX (fun p:Part=>p.Lane_) z.Parts 0]
  refine oF (fun i s=>(s,(i:Int))) z.Parts (fun _ p=>some p.Lane_) id rfl (fun i a s ha hs=> ?_) (fun s=> ?_)
  ·have hi:=J4 ha
   rw [hF,L5 hi,D1 ha,bE,lB,Qb (by simp;omega),lB,I7 hi (by omega)]
  ·rw [hF,K2];rfl
theorem iQ {m:Map}(B:Bear m)(Z:BearZ m):Ac ⟨m⟩=some ((K1 (zoneE m) 0 m.Zones).getD 0):=by
  have hb:=B.lanes
  have h:=Ao m.Zones (U0 ⟨m⟩) (zoneE m) (fun i z hz=>by
    have hi:=J4 hz
    have hm:=Z.many
    have p1:=Z.parts z (lG hz)
    unfold U0 zoneE
    dsimp only
    rw [L5 hi,D1 hz,bE,lB,iP p1 (F:=As z) (fun x=>rfl),lB,KB _ _ _ (by simpa using p1) (by omega) (by omega),lB,I7 hi (by omega)]
    by_cases h1:z.Parts.length<2
    ·rw [bG h1,show decide ((z.Parts.length:Int)<2)=true from bB (by omega)];rfl
    ·rw [bH h1,show decide ((z.Parts.length:Int)<2)=false from bC (by omega),bF]
     by_cases h2:6<z.Parts.length
     ·rw [bG h2,show decide ((z.Parts.length:Int)>6)=true from bB (by omega)];rfl
     ·rw [bH h2,show decide ((z.Parts.length:Int)>6)=false from bC (by omega),bF]
      by_cases h3:z.Signal_<0∨(m.Signals.length:Int)<z.Signal_
      ·rw [bG h3,show ((decide (z.Signal_<0))||(decide (z.Signal_>(m.Signals.length:Int))))=true by simpa using h3];rfl
      ·rw [bH h3,show ((decide (z.Signal_<0))||(decide (z.Signal_>(m.Signals.length:Int))))=false by rw [bP];simpa using h3,bF]
       cases h4:Ep (m.Lanes.length:Int) 0 (z.Parts.map (·.Lane_))
       ·rfl
       ·rw [bH (by decide)]
        have:=OY (F:=T9 ⟨m⟩ z) z.Parts (Yd m) (2:Int) (fun j p hp=>by
          have hj:=J4 hp
          have hk:=Ob h4 p.Lane_ (List.mem_map.2 ⟨p,lG hp,rfl⟩)
          unfold T9 Yd
          dsimp only
          rw [L5 hj,D1 hp,bE,lB,ML B hk.1 hk.2,I7 hj (by omega)]
          cases h5:(decide (p.From<0)||decide (p.From≥p.To))
          ·simp only [bN,bE,lB]
           cases (false||decide (p.To>S7 m p.Lane_)||decide (p.Rank<0)||decide (p.Rank>100))<;>rfl
          ·rfl) (by unfold T9;rw [K2];rfl)
        rw [this]
        cases z.Parts.any (Yd m)<;>rfl) (by
    unfold U0
    dsimp only
    rw [K2];rfl)
  unfold Ac
  rw [h]
  cases K1 (zoneE m) 0 m.Zones<;>rfl
theorem iR {m:Map}(B:Bear m)(Z:BearZ m){i:Nat}{z:Zone}(hz:m.Zones[i]? =some z):Lb m z=some ((zoneE m i z).getD 0):=by
  have hb:=B.lanes
  have p1:=Z.parts z (lG hz)
  unfold Lb zoneE
  rw [iP p1 (F:=Kj z) (fun x=>rfl),lB,GU _ _ _ (by simpa using p1),lB]
  by_cases h1:z.Parts.length<2
  ·rw [bG h1,show decide ((z.Parts.length:Int)<2)=true from bB (by omega)];rfl
  ·rw [bH h1,show decide ((z.Parts.length:Int)<2)=false from bC (by omega),bF]
   by_cases h2:6<z.Parts.length
   ·rw [bG h2,show decide ((z.Parts.length:Int)>6)=true from bB (by omega)];rfl
   ·rw [bH h2,show decide ((z.Parts.length:Int)>6)=false from bC (by omega),bF]
    by_cases h3:z.Signal_<0∨(m.Signals.length:Int)<z.Signal_
    ·rw [bG h3,show ((decide (z.Signal_<0))||(decide (z.Signal_>(m.Signals.length:Int))))=true by simpa using h3];rfl
    ·rw [bH h3,show ((decide (z.Signal_<0))||(decide (z.Signal_>(m.Signals.length:Int))))=false by rw [bP];simpa using h3,bF]
     cases h4:Ep (m.Lanes.length:Int) 0 (z.Parts.map (·.Lane_))
     ·rfl
     ·rw [bH (by decide)]
      have:=OY (F:=Dl m z) z.Parts (Yd m) (2:Int) (fun j p hp=>by
        have hj:=J4 hp
        have hk:=Ob h4 p.Lane_ (List.mem_map.2 ⟨p,lG hp,rfl⟩)
        obtain ⟨l,e1,e2⟩:=OZ B hk.1 hk.2
        unfold Dl Yd
        rw [L5 hj,D1 hp,bE,lB,e1,I7 hj (by omega)]
        cases h5:(decide (p.From<0)||decide (p.From≥p.To))
        ·simp only [bN,bE,lB,e2]
         cases (false||decide (p.To>S7 m p.Lane_)||decide (p.Rank<0)||decide (p.Rank>100))<;>rfl
        ·rfl) (by unfold Dl;rw [K2];rfl)
      rw [this]
      cases z.Parts.any (Yd m)<;>rfl
structure BearW (m:Map):Prop where
  many:m.Works.length≤1000000
noncomputable def workE (m:Map)(_:Nat)(w:Work):Option Int:=
  if w.Lane_<0∨(m.Lanes.length:Int)≤w.Lane_ then some 7
  else if (decide (w.From<0)||decide (w.From>w.To)||decide (w.To>S7 m w.Lane_)||decide (w.Begin<0)||decide (w.Begin≥w.End)||decide (w.End>1099511627776)|| !Zu w.Limit 0 ((m.Lanes[w.Lane_.toNat]?).map fun l=>(Uo l.Kind).1).get!)=true then some 2 else none
theorem iS {m:Map}(B:Bear m)(W:BearW m):Ad ⟨m⟩=some ((K1 (workE m) 0 m.Works).getD 0):=by
  have hb:=B.lanes
  have h:=Ao m.Works (U1 ⟨m⟩) (workE m) (fun i w hw=>by
    have hi:=J4 hw
    have hm:=W.many
    unfold U1 workE
    dsimp only
    rw [L5 hi,D1 hw,bE,lB,I7 hi (by omega)]
    by_cases h1:w.Lane_<0∨(m.Lanes.length:Int)≤w.Lane_
    ·rw [bG h1,show ((decide (w.Lane_<0))||(decide (w.Lane_≥(m.Lanes.length:Int))))=true by simpa using h1];rfl
    ·rw [bH h1,show ((decide (w.Lane_<0))||(decide (w.Lane_≥(m.Lanes.length:Int))))=false by rw [bP];simpa using h1,bF]
     obtain ⟨l,e1,e2⟩:=BC (m:=m) (k:=w.Lane_) (by omega) (by omega)
     rw [e2,lB,KA,lB,ML B (by omega) (by omega),Vm,e1]
     simp only [lF,Option.get!_some]
     cases (decide (w.From<0)||decide (w.From>w.To))
     ·simp only [bN,bE,lB]
      cases (false||decide (w.To>S7 m w.Lane_)||decide (w.Begin<0)||decide (w.Begin≥w.End)||decide (w.End>1099511627776))
      ·simp only [bN,bE,lB]
       by_cases hq:Zu w.Limit 0 (Uo l.Kind).1=true<;>simp [hq]
      ·rfl
     ·rfl) (by
    unfold U1
    dsimp only
    rw [K2];rfl)
  unfold Ad
  rw [h]
  cases K1 (workE m) 0 m.Works<;>rfl
theorem iT {m:Map}(B:Bear m){i:Nat}(w:Work):Lc m w=some ((workE m i w).getD 0):=by
  have hb:=B.lanes
  unfold Lc workE
  by_cases h1:w.Lane_<0∨(m.Lanes.length:Int)≤w.Lane_
  ·rw [bG h1,show ((decide (w.Lane_<0))||(decide (w.Lane_≥(m.Lanes.length:Int))))=true by simpa using h1];rfl
  ·rw [bH h1,show ((decide (w.Lane_<0))||(decide (w.Lane_≥(m.Lanes.length:Int))))=false by rw [bP];simpa using h1,bF]
   obtain ⟨l,e1,e2⟩:=BC (m:=m) (k:=w.Lane_) (by omega) (by omega)
   obtain ⟨l',e3,e4⟩:=OZ B (k:=w.Lane_) (by omega) (by omega)
   rw [e2]at e3
   cases e3
   rw [e2,lB,GS,lB,e4,Xe,e1]
   simp only [lF,Option.get!_some]
   cases (decide (w.From<0)||decide (w.From>w.To))
   ·simp only [bN,bE,lB]
    cases (false||decide (w.To>S7 m w.Lane_)||decide (w.Begin<0)||decide (w.Begin≥w.End)||decide (w.End>1099511627776))
    ·simp only [bN,bE,lB]
     by_cases hq:Zu w.Limit 0 (Uo l.Kind).1=true<;>simp [hq]
    ·rfl
   ·rfl
theorem YR {m:Map}(S:BearS m)(i:Nat){s:Signal}(hs:s∈m.Signals):Hm m s=some ((signalE m i s).getD 0):=by
  obtain ⟨p1,p2⟩:=S.phases s hs
  unfold Hm signalE
  rw [Xe,lB,show (0:Int)=((0:Nat):Int) from rfl,VW s p1 s.Phases 0 _ rfl (by omega),lB]
  rw [show ((0:Nat):Int)=0 from rfl,TJ m s p1 p2]
  by_cases h1:s.Phases.length=0
  ·rw [bG h1,h1];rfl
  ·rw [bH h1,show ((s.Phases.length:Int)==0)=false by simp only [beq_eq_false_iff_ne];omega,bF]
   by_cases h2:6<s.Phases.length
   ·rw [bG h2,show decide ((s.Phases.length:Int)>6)=true from bB (by omega)];rfl
   ·rw [bH h2,show decide ((s.Phases.length:Int)>6)=false from bC (by omega),bF]
    cases Zu s.Offset 0 1099511627776
    ·rfl
    ·cases (s.Phases.any fun p=> !Zu p.Ticks 1 10000)
     ·cases (s.Phases.any fun p=> !Ep m.Lanes.length 0 p.Green)<;>rfl
     ·rfl
/-- All lists of a map are of bearable lengths. -/
structure BearM (m:Map):Prop where
  toBear:Bear m
  toBearS:BearS m
  toBearZ:BearZ m
  toBearW:BearW m
theorem BearM.lanes {m:Map}(B:BearM m):m.Lanes.length≤1000000:=B.toBear.lanes
noncomputable def Zn (m:Map):Int:=
  if Zu m.Version 0 1099511627776=false then 2
  else if m.Lanes.length=0 then 6
  else if 12<m.Lanes.length∨12<m.Zones.length∨4<m.Signals.length∨8<m.Works.length then 8
  else ((K1 (laneE m.Lanes.length) 0 m.Lanes).or ((K1 (nextE m) 0 m.Lanes).or ((K1 (signalE m) 0 m.Signals).or ((K1 (zoneE m) 0 m.Zones).or (K1 (workE m) 0 m.Works))))).getD 0
theorem Do {α:Type}{g:Nat→α→Option Int}(h: ∀i a e,g i a=some e→e≠0): ∀{l:List α} {i:Nat} {e:Int},K1 g i l=some e→e≠0
  | [],_,_,q=>by cases q
  |a::r,i,e,q=>by
   unfold K1 at q
   cases hg:g i a with
   |some e'=>rw [hg]at q;cases q;exact h i a e hg
   |none=>rw [hg]at q;exact Do h q
theorem JC {m:Map}{i:Nat}{z:Zone}{e:Int}(h:zoneE m i z=some e):e≠0:=by
  unfold zoneE at h
  repeat' split at h
  all_goals first|(cases h;decide)|cases h
theorem BD {m:Map}{i:Nat}{z:Signal}{e:Int}(h:signalE m i z=some e):e≠0:=by
  unfold signalE at h
  repeat' split at h
  all_goals first|(cases h;decide)|cases h
theorem PA {m:Map}{i:Nat}{z:Work}{e:Int}(h:workE m i z=some e):e≠0:=by
  unfold workE at h
  repeat' split at h
  all_goals first|(cases h;decide)|cases h
theorem PB {m:Map}{i:Nat}{z:Lane}{e:Int}(h:nextE m i z=some e):e≠0:=Do (fun _ _ _=>dF) h
/-- A loop that goes on as long as there is no error. -/
theorem iU {α:Type}{F:Int×Int→Option (Stp (Int×Int) Int)}(l:List α)(g:Nat→α→Option Int)(hg: ∀i a e,g i a=some e→e≠0)(hl:l.length≤1000000)
    (hF: ∀(i:Nat) a,l[i]? =some a→F (0,(i:Int))=some (.go ((g i a).getD 0,((i+1:Nat):Int)))) (h0: ∀(i:Nat) (e:Int),e≠0→F (e,(i:Int))=some (.out e)) (h1:F (0,(l.length:Int))=some (.out 0)) (e0:Option Int) (he: ∀e,e0=some e→e≠0):
    loop F (e0.getD 0,0)=some ((e0.or (K1 g 0 l)).getD 0):=by
  have key: ∀(r:List α) (i:Nat),l.drop i=r→i≤l.length→loop F (0,(i:Int))=some ((K1 g i r).getD 0):=by
    intro r
    induction r with
    |nil=>
     intro i hi hil
     have:=Q6 hi
     obtain rfl:i=l.length:=by omega
     exact D8 h1
    |cons a r ih=>
     intro i hi hil
     have hlt:=O0 hi
     have hs:=hF i a (Bs hi)
     rw [L7 hs]
     unfold K1
     cases h:g i a with
     |some e=>exact D8 (h0 (i+1) e (hg i a e h))
     |none=>exact ih (i+1) (L9 hi) (by omega)
  cases e0 with
  |some e=>exact D8 (h0 0 e (he e rfl))
  |none=>exact key l 0 rfl (by omega)
theorem Xg {m:Map}(B:BearM m):Nb m=some (Zn m):=by
  have hb:=B.lanes
  unfold Nb Zn
  rw [Xe,lB]
  cases Zu m.Version 0 1099511627776
  ·rfl
  ·simp only [bM,bF,Bool.true_eq_false,if_false]
   by_cases h1:m.Lanes.length=0
   ·rw [bG h1,h1];rfl
   ·rw [bH h1,show ((m.Lanes.length:Int)==0)=false by simp only [beq_eq_false_iff_ne];omega,bF]
    by_cases h2:12<m.Lanes.length∨12<m.Zones.length∨4<m.Signals.length∨8<m.Works.length
    ·rw [bG h2,show ((((decide ((m.Lanes.length:Int)>12))||(decide ((m.Zones.length:Int)>12)))||(decide ((m.Signals.length:Int)>4)))||(decide ((m.Works.length:Int)>8)))=true by simp;omega];rfl
    ·rw [bH h2,show ((((decide ((m.Lanes.length:Int)>12))||(decide ((m.Zones.length:Int)>12)))||(decide ((m.Signals.length:Int)>4)))||(decide ((m.Works.length:Int)>8)))=false by simp;omega,bF]
     rw [VU B.toBear]
     cases H:K1 (laneE m.Lanes.length) 0 m.Lanes with
     |some e=>rfl
     |none=>
      have n1: ∀e,K1 (nextE m) 0 m.Lanes=some e→e≠0:=fun e h=>Do (fun _ _ _=>PB) h
      have n2: ∀e,(K1 (nextE m) 0 m.Lanes).or (K1 (signalE m) 0 m.Signals)=some e→e≠0:=fun e h=>by
        rcases Option.or_eq_some_iff.1 h with h|⟨_,h⟩
        ·exact n1 e h
        ·exact Do (fun _ _ _=>BD) h
      have n3: ∀e,((K1 (nextE m) 0 m.Lanes).or (K1 (signalE m) 0 m.Signals)).or (K1 (zoneE m) 0 m.Zones)=some e→e≠0:=fun e h=>by
        rcases Option.or_eq_some_iff.1 h with h|⟨_,h⟩
        ·exact n2 e h
        ·exact Do (fun _ _ _=>JC) h
      simp only [LY,thenS,Option.none_or]
      rw [(RI B.toBear H).2,lB]
      rw [iU m.Signals (signalE m) (fun _ _ _=>BD) B.toBearS.many (fun i a ha=>by
       have hi:=J4 ha
       have hm:=B.toBearS.many
       unfold Jf
       dsimp only
       rw [L5 hi,D1 ha,bI,show ((0:Int)==0)=true from rfl,bE,lB,YR B.toBearS i (lG ha),I7 hi (by omega)];rfl) (fun i e he=>by
       unfold Jf
       dsimp only
       rw [show (e==0)=false by simpa using he,Bool.and_false];rfl) (by unfold Jf;dsimp only;rw [K2];rfl) _ n1,lB]
      rw [iU m.Zones (zoneE m) (fun _ _ _=>JC) B.toBearZ.many (fun i a ha=>by
       have hi:=J4 ha
       have hm:=B.toBearZ.many
       unfold Je
       dsimp only
       rw [L5 hi,D1 ha,bI,show ((0:Int)==0)=true from rfl,bE,lB,iR B.toBear B.toBearZ ha,I7 hi (by omega)];rfl) (fun i e he=>by
       unfold Je
       dsimp only
       rw [show (e==0)=false by simpa using he,Bool.and_false];rfl) (by unfold Je;dsimp only;rw [K2];rfl) _ n2,lB]
      rw [iU m.Works (workE m) (fun _ _ _=>PA) B.toBearW.many (fun i a ha=>by
       have hi:=J4 ha
       have hm:=B.toBearW.many
       unfold Jd
       dsimp only
       rw [L5 hi,D1 ha,bI,show ((0:Int)==0)=true from rfl,bE,lB,iT B.toBear (i:=i) a,I7 hi (by omega)];rfl) (fun i e he=>by
       unfold Jd
       dsimp only
       rw [show (e==0)=false by simpa using he,Bool.and_false];rfl) (by unfold Jd;dsimp only;rw [K2];rfl) _ n3,lB]
      rw [Option.or_assoc,Option.or_assoc]
theorem Qx {m:Map}(B:BearM m):Fi m=some (Zn m):=by
  have hb:=B.lanes
  have s0:P5 m 0=(W0 ⟨m⟩).bind fun v2=>cond (v2 !=0) (some (.out (.inr v2))) (some (.go 1)):=rfl
  have s1:P5 m 1=(Ab ⟨m⟩).bind fun v2=>cond (v2 !=0) (some (.out (.inr v2))) (some (.go 2)):=rfl
  have s2:P5 m 2=(Y0 ⟨m⟩).bind fun v2=>cond (v2 !=0) (some (.out (.inr v2))) (some (.go 3)):=rfl
  have s3:P5 m 3=(W1 ⟨m⟩).bind fun v2=>cond (v2 !=0) (some (.out (.inr v2))) (some (.go 4)):=rfl
  have s4:P5 m 4=(Ac ⟨m⟩).bind fun v2=>cond (v2 !=0) (some (.out (.inr v2))) (some (.go 5)):=rfl
  have s5:P5 m 5=(Ad ⟨m⟩).bind fun v2=>cond (v2 !=0) (some (.out (.inr v2))) (some (.go 6)):=rfl
  have s6:P5 m 6=some (.out (.inl ())):=rfl
  have stp: ∀(i j:Int) (e:Option Int) (X:Option Int),(∀e',e=some e'→e'≠0)→X=some (e.getD 0)→P5 m i=X.bind (fun v2=>cond (v2 !=0) (some (.out (.inr v2))) (some (.go j)))→loop (P5 m) i=match e with|some e'=>some (.inr e')|none=>loop (P5 m) j:=by
    intro i j e X he hX hs
    subst hX
    rw [lB]at hs
    cases e with
    |none=>exact L7 hs
    |some e'=>
     rw [Option.getD_some,show (e' !=0)=true by simpa using he e' rfl]at hs
     exact D8 hs
  unfold Fi Zn
  have hnum:W0 ⟨m⟩=some ((if Zu m.Version 0 1099511627776=false then some 2 else if m.Lanes.length=0 then some 6 else if 12<m.Lanes.length∨12<m.Zones.length∨4<m.Signals.length∨8<m.Works.length then some 8 else none:Option Int).getD 0):=by
    unfold W0
    dsimp only
    rw [Vm,lB]
    cases Zu m.Version 0 1099511627776
    ·rfl
    ·simp only [bM,bF,Bool.true_eq_false,if_false]
     by_cases h1:m.Lanes.length=0
     ·rw [bG h1,h1];rfl
     ·rw [bH h1,show ((m.Lanes.length:Int)==0)=false by simp only [beq_eq_false_iff_ne];omega,bF]
      by_cases h2:12<m.Lanes.length∨12<m.Zones.length∨4<m.Signals.length∨8<m.Works.length
      ·rw [bG h2,show ((((decide ((m.Lanes.length:Int)>12))||(decide ((m.Zones.length:Int)>12)))||(decide ((m.Signals.length:Int)>4)))||(decide ((m.Works.length:Int)>8)))=true by simp;omega];rfl
      ·rw [bH h2,show ((((decide ((m.Lanes.length:Int)>12))||(decide ((m.Zones.length:Int)>12)))||(decide ((m.Signals.length:Int)>4)))||(decide ((m.Works.length:Int)>8)))=false by simp;omega];rfl
  rw [stp 0 1 _ _ (by repeat' split
                      all_goals (intro e' h;first|(cases h;decide)|cases h)) hnum s0]
  by_cases q1:Zu m.Version 0 1099511627776=false
  ·rw [bG q1,bG q1];rfl
  ·rw [bH q1,bH q1]
   by_cases q2:m.Lanes.length=0
   ·rw [bG q2,bG q2];rfl
   ·rw [bH q2,bH q2]
    by_cases q3:12<m.Lanes.length∨12<m.Zones.length∨4<m.Signals.length∨8<m.Works.length
    ·rw [bG q3,bG q3];rfl
    ·rw [bH q3,bH q3]
     dsimp only
     rw [stp 1 2 _ _ (fun e' h=>Do (fun _ _ _=>OT) h) (iL B.toBear) s1]
     cases H:K1 (laneE m.Lanes.length) 0 m.Lanes with
     |some e=>rfl
     |none=>
      dsimp only
      rw [stp 2 3 _ _ (fun e' h=>Do (fun _ _ _=>PB) h) (RI B.toBear H).1 s2]
      cases K1 (nextE m) 0 m.Lanes with
      |some e=>rfl
      |none=>
       dsimp only
       rw [stp 3 4 _ _ (fun e' h=>Do (fun _ _ _=>BD) h) (YQ B.toBear B.toBearS) s3]
       cases K1 (signalE m) 0 m.Signals with
       |some e=>rfl
       |none=>
        dsimp only
        rw [stp 4 5 _ _ (fun e' h=>Do (fun _ _ _=>JC) h) (iQ B.toBear B.toBearZ) s4]
        cases K1 (zoneE m) 0 m.Zones with
        |some e=>rfl
        |none=>
         dsimp only
         rw [stp 5 6 _ _ (fun e' h=>Do (fun _ _ _=>PA) h) (iS B.toBear B.toBearW) s5]
         cases K1 (workE m) 0 m.Works with
         |some e=>rfl
         |none=>dsimp only;rw [D8 s6];rfl
/-- What a valid map is. -/
structure ValR (m:Map):Prop where
  ver:0≤m.Version∧m.Version≤1099511627776
  pos:0<m.Lanes.length
  lanes:m.Lanes.length≤12
  zones:m.Zones.length≤12
  signals:m.Signals.length≤4
  works:m.Works.length≤8
  laneE:K1 (laneE m.Lanes.length) 0 m.Lanes=none
  nextE:K1 (nextE m) 0 m.Lanes=none
  signalE:K1 (signalE m) 0 m.Signals=none
  zoneE:K1 (zoneE m) 0 m.Zones=none
  workE:K1 (workE m) 0 m.Works=none
theorem dH {α:Type}{g:Nat→α→Option Int}{l:List α}(h: ∀i a e,g i a=some e→e≠0)(h0:(K1 g 0 l).getD 0=0):K1 g 0 l=none:=by
  cases q:K1 g 0 l with
  |none=>rfl
  |some e=>rw [q]at h0;exact absurd h0 (Do h q)
theorem chkR_zero {m:Map}:Zn m=0↔ValR m:=by
  unfold Zn
  constructor
  ·intro h
   split at h
   ·cases h
   ·rename_i h1
    split at h
    ·cases h
    ·rename_i h2
     split at h
     ·cases h
     ·rename_i h3
      simp only [Zu,Bool.not_eq_false,bK,bD]at h1
      have key: ∀{o r:Option Int},(∀e,o=some e→e≠0)→(o.or r).getD 0=0→o=none∧r.getD 0=0:=by
        intro o r ho hr
        cases o with
        |none=>exact ⟨rfl,hr⟩
        |some e=>exact absurd hr (ho e rfl)
      obtain ⟨a1,h⟩:=key (fun e h=>Do (fun _ _ _=>OT) h) h
      obtain ⟨a2,h⟩:=key (fun e h=>Do (fun _ _ _=>PB) h) h
      obtain ⟨a3,h⟩:=key (fun e h=>Do (fun _ _ _=>BD) h) h
      obtain ⟨a4,h⟩:=key (fun e h=>Do (fun _ _ _=>JC) h) h
      exact ⟨h1,by omega,by omega,by omega,by omega,by omega,a1,a2,a3,a4,dH (fun _ _ _=>PA) h⟩
  ·rintro ⟨h1,h2,h3,h4,h5,h6,a1,a2,a3,a4,a5⟩
   rw [bH (by simp only [Zu,Bool.not_eq_false,bK,bD];exact h1),bH (by omega),bH (by omega),a1,a2,a3,a4,a5];rfl
section
variable {m:Map}
theorem ValR.laneOK (V:ValR m){i:Nat}{l:Lane}(h:m.Lanes[i]? =some l):LaneOK m.Lanes.length i l:=DT V.laneE h
theorem ValR.next (V:ValR m){i:Nat}{l:Lane}(h:m.Lanes[i]? =some l){k:Int}(hk:k∈l.Next):(i:Int)<k∧k<m.Lanes.length:=by
  have:=Ob (V.laneOK h).next k hk
  omega
end
/-- The lanes in which a lane goes on. -/
def nextOf (m:Map)(a:Nat):List Int:=((m.Lanes[a]?).map (·.Next)).getD []
theorem ValR.nextOf {m:Map}(V:ValR m){a:Nat}{k:Int}(hk:k∈World.nextOf m a):(a:Int)<k∧k<m.Lanes.length:=by
  unfold World.nextOf at hk
  cases h:m.Lanes[a]? with
  |none=>rw [h]at hk;cases hk
  |some l=>rw [h]at hk;exact V.next h hk
def iV (m:Map)(b:Int):Nat→Nat→Bool
  |0,_=>false
  |n+1,a=>(nextOf m a).any fun k=>k==b||iV m b n k.toNat
/-- Does a lane lead to another one? -/
def pP (m:Map)(a:Nat)(b:Int):Bool:=iV m b m.Lanes.length a
/-- What is known of the sets of the lanes from a number on. -/
structure Reach (m:Map)(i:Nat)(l:List Nat):Prop where
  len:l.length=12
  small: ∀(a x:Nat),l[a]? =some x→x<2^32
  zero: ∀(a:Nat),a<i→l[a]? =some 0
  bits: ∀(a x:Nat),i≤a→a<m.Lanes.length→l[a]? =some x→∀b:Nat,x.testBit b=pP m a (b:Int)
theorem Reach.get {m:Map}{i:Nat}{l:List Nat}(R:Reach m i l){a:Nat}(h:a<12): ∃x,l[a]? =some x∧x<2^32:=by
  have:=R.len
  exact ⟨l[a],lH (by omega),R.small a _ (lH (by omega))⟩
noncomputable def YS (m:Map)(k:Int):Bool:=(decide (k≥0)&&decide (k<m.Lanes.length))&& (Zn m==0)
theorem isM_true {m:Map}{k:Int}:YS m k=true↔0≤k∧k<m.Lanes.length∧ValR m:=by
  unfold YS
  rw [bK,bK,bQ,chkR_zero]
  simp only [bD,and_assoc,ge_iff_le]
theorem KW {m:Map}(B:BearM m)(k:Int):Ol m k=some (YS m k):=by
  unfold Ol YS
  rw [Qx B]
  cases (decide (k≥0)&&decide (k< (m.Lanes.length:Int)))<;>rfl
theorem FO {m:Map}(B:BearM m)(k:Int):Rt m k=some (YS m k):=by
  unfold Rt YS
  rw [Xg B]
  cases (decide (k≥0)&&decide (k< (m.Lanes.length:Int)))<;>rfl
theorem BS {m:Map}(B:BearM m){k:Int}(h0:0≤k)(h1:k<m.Lanes.length):Nw m k=some (S7 m k):=by
  obtain ⟨l,e1,e2⟩:=OZ B.toBear h0 h1
  unfold Nw
  rw [e1,lB,e2];rfl
noncomputable def Ye (m:Map)(k:Int):Int:=if YS m k then S7 m k else 0
theorem LZ {m:Map}(B:BearM m)(k:Int):Dy m k=some (Ye m k):=by
  unfold Dy Ye
  rw [KW B,lB]
  cases h:YS m k
  ·rfl
  ·have:=isM_true.1 h
   rw [bG rfl,bM,bF,ML B.toBear this.1 this.2.1];rfl
theorem MA {m:Map}(B:BearM m)(k:Int):Qp m k=some (Ye m k):=by
  unfold Qp Ye
  rw [FO B,lB]
  cases h:YS m k
  ·rfl
  ·have:=isM_true.1 h
   rw [bG rfl,bM,bF,BS B this.1 this.2.1];rfl
theorem DU (l:List Int)(hl:l.length≤1000000)(k:Int):N6 l k=some (l.contains k):=by
  unfold N6 X7
  rw [Xf l (fun x=>k==x) (by omega) (fun i a h=>by
   have hi:=J4 h
   unfold R8
   rw [L5 hi,D1 h,bE,lB]
   cases k==a<;>rfl) (by unfold R8;rw [K2];rfl)]
  rw [lB,Zm,List.contains_eq_any_beq]
theorem YT (l:List Int)(hl:l.length≤1000000)(k:Int):Rr l k=some (l.contains k):=by
  unfold Rr
  rw [OY l (fun x=>x==k) true (fun i a h=>by
   have hi:=J4 h
   unfold Qn
   rw [L5 hi,D1 h,bE,lB,I7 hi (by omega)]
   cases a==k<;>rfl) (by unfold Qn;rw [K2];rfl)]
  rw [List.contains_eq_any_beq,show (fun x=>x==k)=(fun x=>k==x) from funext fun x=>by rw [Bool.beq_comm]]
  cases l.any fun x=>k==x<;>rfl
/-- What comes before a lane. -/
def So (m:Map)(k:Int):List Int:=Jx (fun i (l:Lane)=>if l.Next.contains k then some (i:Int)else none) 0 m.Lanes
theorem dI {m:Map}(B:BearM m)(k:Int):He m k=some (So m k):=by
  unfold He So
  have hb:=B.lanes
  rw [OX m.Lanes (fun i (l:Lane)=>if l.Next.contains k then some (i:Int)else none) id (fun i l s h hs=>by
   have hi:=J4 h
   unfold Cx
   dsimp only
   rw [L5 hi,D1 h,bE,lB,DU _ (B.toBear.pts l (lG h)).2,lB,Qb (by simp;omega),I7 hi (by omega)]
   cases l.Next.contains k<;>rfl) (fun s=>by unfold Cx;rw [K2];rfl)]
  rfl
theorem YU {m:Map}(B:BearM m)(k:Int):Qo m k=some (So m k):=by
  unfold Qo So
  have hb:=B.lanes
  rw [OX m.Lanes (fun i (l:Lane)=>if l.Next.contains k then some (i:Int)else none) id (fun i l s h hs=>by
   have hi:=J4 h
   unfold Ld
   dsimp only
   rw [L5 hi,D1 h,bE,lB,YT _ (B.toBear.pts l (lG h)).2,lB,Qb (by simp;omega),I7 hi (by omega)]
   cases l.Next.contains k<;>rfl) (fun s=>by unfold Ld;rw [K2];rfl)]
  rfl
def Qy (z:Zone)(k:Int):Part×Bool:=match z.Parts.find? (fun p=>p.Lane_==k)with|some p=>(p,true)|none=>(⟨0,0,0,0⟩,false)
theorem mV {z:Zone}(hl:z.Parts.length≤1000000)(k:Int):Mu z k=some (Qy z k):=by
  unfold Mu K7 Qy
  rw [Xf z.Parts (fun p=>p.Lane_==k) (by omega) (fun i a h=>by
   have hi:=J4 h
   unfold H9 Gb
   rw [L5 hi,D1 h,bE,lB,lB]
   cases a.Lane_==k<;>rfl) (by unfold H9;rw [K2];rfl),lB]
  unfold KD
  cases h:z.Parts.findIdx? (fun p=>p.Lane_==k)with
  |none=>
   have:z.Parts.find? (fun p=>p.Lane_==k)=none:=by
     rw [List.find?_eq_none]
     have:=List.findIdx?_eq_none_iff.1 h
     intro x hx;simpa using this x hx
   rw [this];rfl
  |some i=>
   obtain ⟨hi,h1,h2⟩:=List.findIdx?_eq_some_iff_getElem.1 h
   have:z.Parts.find? (fun p=>p.Lane_==k)=some z.Parts[i]:=by
     rw [List.find?_eq_some_iff_getElem]
     exact ⟨h1,i,hi,rfl,fun j hj=>by simpa using h2 j hj⟩
   rw [this]
   dsimp only
   rw [show decide ((i:Int)<0)=false from bC (by omega),bF,gU hi];rfl
structure ZoneOK (m:Map)(z:Zone):Prop where
  two:2≤z.Parts.length
  six:z.Parts.length≤6
  sig:0≤z.Signal_∧z.Signal_≤m.Signals.length
  rise:Ep m.Lanes.length 0 (z.Parts.map (·.Lane_))=true
  part: ∀p∈z.Parts,0≤p.From∧p.From<p.To∧p.To≤S7 m p.Lane_∧0≤p.Rank∧p.Rank≤100
theorem YV {m:Map}{i:Nat}{z:Zone}(h:zoneE m i z=none):ZoneOK m z:=by
  unfold zoneE at h
  split at h
  ·cases h
  ·rename_i h1
   split at h
   ·cases h
   ·rename_i h2
    split at h
    ·cases h
    ·rename_i h3
     split at h
     ·cases h
     ·rename_i h4
      split at h
      ·cases h
      ·rename_i h5
       refine ⟨by omega,by omega,by omega,by simpa using h4,fun p hp=> ?_⟩
       have:=List.any_eq_false.1 (bP.2 h5) p hp
       simp only [Yd,bL,bD,not_or,Int.not_lt,Int.not_le,ge_iff_le,gt_iff_lt]at this
       omega
theorem ValR.zoneOK {m:Map}(V:ValR m){z:Zone}(hz:z∈m.Zones):ZoneOK m z:=by
  obtain ⟨i,hi,rfl⟩:=List.mem_iff_getElem.1 hz
  have:=firstE_none.1 V.zoneE i _ (lH hi)
  exact YV this
theorem ZoneOK.lane {m:Map}{z:Zone}(O:ZoneOK m z){p:Part}(hp:p∈z.Parts):0≤p.Lane_∧p.Lane_<m.Lanes.length:=Ob O.rise p.Lane_ (List.mem_map.2 ⟨p,hp,rfl⟩)
theorem aL {m:Map}{k:Int}(h0:0≤k)(h1:k<m.Zones.length): ∃z,m.Zones[k.toNat]? =some z∧B7 m.Zones k=some z:=by
  have hlt:k.toNat<m.Zones.length:=by omega
  refine ⟨m.Zones[k.toNat],lH hlt,?_⟩
  unfold B7
  rw [bG h0,lH hlt]
theorem iW:Jv=some true:=law04_awake_le _ (by decide+kernel)
theorem Qz (n:Int){m:Int}(hm:0<m):0≤n % m∧n % m<m:=⟨Int.emod_nonneg n (by omega),wC n hm⟩
theorem dJ {n m:Int}(hm:0<m):n % m=if n.tmod m<0 then n.tmod m+m else n.tmod m:=by
  have a:=Int.emod_nonneg n (show m≠0 by omega)
  have b:=wC n hm
  rw [Int.tmod_eq_emod]
  by_cases q:0≤n∨m ∣ n
  ·rw [bG q,bH (by omega)];omega
  ·rw [bH q]
   have:n % m≠0:=fun e=>q (.inr (Int.dvd_of_emod_eq_zero e))
   rw [bG (by omega)];omega
theorem YW {n m:Int}(hm:0<m)(hm2:m≤9223372036854775807):IR n m=some (n % m):=by
  have h1:=dJ (n:=n) hm
  have a:=Qz n hm
  unfold IR ER
  rw [bH (by omega),lB]
  by_cases q:n.tmod m<0
  ·rw [bG q]at h1
   rw [bB q,bE,L6 (by omega),← h1]
  ·rw [bH q]at h1
   rw [bC q,bF,← h1]
def TK (kind lim:Int)(next:List Int)(a b c d:Int):Lane:=⟨kind,⟨[⟨a,b⟩,⟨c,d⟩]⟩,if kind=3 then 500 else 1500,lim,next⟩
theorem mW (kind lim:Int)(next:List Int)(a b c d:Int):Y4 kind lim next [a,b,c,d]=some (TK kind lim next a b c d):=by
  unfold Y4 TK
  rw [L7 (s':=(2,[⟨a,b⟩])) rfl,L7 (s':=(4,[⟨a,b⟩,⟨c,d⟩])) rfl,D8 (t:= [⟨a,b⟩,⟨c,d⟩]) rfl,lB]
  by_cases h:kind=3
  ·rw [bG h,h];rfl
  ·rw [bH h,show (kind==3)=false by simpa using h];rfl
def pW (off a b:Int):Signal:=⟨off,[⟨12,[a]⟩,⟨5,[]⟩,⟨9,[b]⟩,⟨4,[]⟩]⟩
/-- The numbers of which a map of the kit is made. -/
structure Par where
  lim:Int
  r:Int
  o:Int
  o':Int
  ver:Int
  wk:List Work
structure ParOK (p:Par):Prop where
  lim:p.lim=1500∨p.lim=600∨p.lim=1000∨p.lim=300
  r:p.r=0∨p.r=1
  o:0≤p.o∧p.o<31
  o':0≤p.o'∧p.o'<31
  ver:0≤p.ver∧p.ver<5
  wk:p.wk= []∨∃b l,0≤b∧b<40∧0≤l∧l≤400∧p.wk= [⟨0,10000,15000,b,b+20,l⟩]
def Pk (k:Nat)(lim:Int):List Lane:=match k with
  |0=> [TK 1 lim [] 0 0 60000 0]
  |1|2=> [TK 1 lim [] 0 0 50000 0,TK 1 1500 [] 30000 (-20000) 30000 20000]
  |3=> [TK 1 lim [1,2] 0 0 30000 0,TK 1 1500 [] 30000 0 60000 0,TK 1 800 [] 30000 0 54000 10000]
  |4=> [TK 1 lim [2] 0 0 30000 0,TK 1 1500 [2] 6000 (-10000) 30000 0,TK 1 1500 [] 30000 0 60000 0]
  |5=> [TK 1 lim [1] 0 0 20000 0,TK 1 lim [] 20000 0 50000 0,TK 3 200 [] 35000 (-8000) 35000 8000]
  |_=> [TK 1 lim [1,2] 0 0 20000 0,TK 1 1500 [] 20000 0 50000 0,TK 1 1000 [] 20000 0 44000 10000,TK 2 700 [] 36000 (-12000) 36000 18000]
def GX (k:Nat)(r:Int):List Zone:=match k with
  |1=> [⟨[⟨0,28000,32000,r⟩,⟨1,18000,22000,2 - 2*r⟩],0⟩]
  |2=> [⟨[⟨0,28000,32000,r⟩,⟨1,18000,22000,2 - 2*r⟩],1⟩]
  |4=> [⟨[⟨0,25000,30000,1⟩,⟨1,20000,26000,0⟩,⟨2,0,5000,0⟩],0⟩]
  |5=> [⟨[⟨1,14000,16000,0⟩,⟨2,6000,10000,3⟩],0⟩]
  |6=> [⟨[⟨1,14000,18000,1⟩,⟨3,10000,14000,0⟩],0⟩,⟨[⟨2,14000,21000,1⟩,⟨3,14500,23000,0⟩],0⟩]
  |7=> [⟨[⟨1,14000,18000,1⟩,⟨3,10000,14000,0⟩],1⟩,⟨[⟨2,14000,21000,1⟩,⟨3,14500,23000,0⟩],2⟩]
  |_=> []
def Zo (k:Nat)(o o':Int):List Signal:=match k with
  |2=> [pW o 0 1]
  |7=> [pW o 1 3,pW o' 2 3]
  |_=> []
def JD (k:Nat)(p:Par):Map:=⟨p.ver,Pk k p.lim,GX k p.r,Zo k p.o p.o',p.wk⟩
theorem YX (n:Int): ∃k p,k<8∧ParOK p∧EJ n=some (JD k p):=by
  obtain ⟨h0,h1⟩:=Qz n (show (0:Int)<16777216 by decide)
  unfold EJ
  rw [YW (by decide) (by decide),lB]
  generalize n % 16777216=v at h0 h1
  have t: ∀m:Int,0<m→v.tdiv m=v / m:=fun m hm=>by rw [Int.tdiv_eq_ediv_of_nonneg h0]
  have u: ∀x m:Int,0≤x→x.tmod m=x % m:=fun x m hx=>by rw [Int.tmod_eq_emod_of_nonneg hx]
  have d: ∀m:Int,0<m→0≤v / m∧v / m<16777216:=fun m hm=>⟨Int.ediv_nonneg h0 (by omega),Int.lt_of_le_of_lt (Int.ediv_le_self m h0) h1⟩
  have W: ∀m:Int,0<m→C5 (v / m)=v / m:=fun m hm=>L6 (by have:=d m hm;omega)
  rw [t 7 (by decide),t 28 (by decide),t 56 (by decide),t 1736 (by decide),t 5208 (by decide),t 208320 (by decide)]
  rw [W 7 (by decide),W 28 (by decide),W 56 (by decide),W 1736 (by decide),W 5208 (by decide),W 208320 (by decide)]
  rw [u (v / 7) _ (d 7 (by decide)).1,u (v / 28) 2 (d 28 (by decide)).1,u (v / 28) 31 (d 28 (by decide)).1,u (v / 56) 31 (d 56 (by decide)).1,u (v / 56) 17 (d 56 (by decide)).1,u (v / 1736) _ (d 1736 (by decide)).1,u (v / 5208) _ (d 5208 (by decide)).1,u (v / 208320) _ (d 208320 (by decide)).1,u v _ h0,u (v / 28) 5 (d 28 (by decide)).1]
  have b1:=Qz (v / 7) (show (0:Int)<4 by decide)
  have b2:=Qz (v / 28) (show (0:Int)<2 by decide)
  have b3:=Qz (v / 28) (show (0:Int)<31 by decide)
  have b4:=Qz (v / 56) (show (0:Int)<31 by decide)
  have b5:=Qz (v / 56) (show (0:Int)<17 by decide)
  have b6:=Qz (v / 5208) (show (0:Int)<40 by decide)
  have b7:=Qz (v / 208320) (show (0:Int)<3 by decide)
  have b8:=Qz v (show (0:Int)<7 by decide)
  have b9:=Qz (v / 28) (show (0:Int)<5 by decide)
  generalize v / 7 % 4=q1 at b1
  generalize v / 28 % 2=q2 at b2
  generalize v / 28 % 31=q3 at b3
  generalize v / 56 % 31=q4 at b4
  generalize v / 56 % 17=q5 at b5
  generalize v / 5208 % 40=q6 at b6
  generalize v / 208320 % 3=q7 at b7
  generalize v % 7=q8 at b8
  generalize v / 28 % 5=q9 at b9
  have e1: ∃lim:Int,B7 ([1500,600,1000,300]:List Int) q1=some lim∧(lim=1500∨lim=600∨lim=1000∨lim=300):=by
    rcases (show q1=0∨q1=1∨q1=2∨q1=3 by omega)with rfl|rfl|rfl|rfl
    ·exact ⟨1500,rfl,by decide⟩
    ·exact ⟨600,rfl,by decide⟩
    ·exact ⟨1000,rfl,by decide⟩
    ·exact ⟨300,rfl,by decide⟩
  obtain ⟨lim,e1,hlim⟩:=e1
  rw [e1,lB]
  have ew: ∀(L:List Lane) (Z:List Zone) (S:List Signal),∃wk,(wk= []∨∃b l,0≤b∧b<40∧0≤l∧l≤400∧wk= [⟨0,10000,15000,b,b+20,l⟩])∧
   (cond (v / 1736 % 3==1) (some (Map.mk q9 L Z S [(Work.mk 0 10000 15000 q6 (C5 (q6+20)) (C5 (q7*200)))])) (some (Map.mk q9 L Z S [])))=some ⟨q9,L,Z,S,wk⟩:=by
    intro L Z S
    cases v / 1736 % 3==1
    ·exact ⟨[], .inl rfl,rfl⟩
    ·exact ⟨[⟨0,10000,15000,q6,q6+20,q7*200⟩], .inr ⟨q6,q7*200,by omega,by omega,by omega,by omega,rfl⟩,by rw [L6 (by omega),L6 (by omega)];rfl⟩
  have er:C5 (2 - C5 (2*q2))=2 - 2*q2:=by rw [L6 (n:=2*q2) (by omega),L6 (by omega)]
  rw [er]
  simp only [mW,lB]
  have fin: ∀(k:Nat) (o o':Int) (L:List Lane) (Z:List Zone) (S:List Signal),k<8→0≤o∧o<31→0≤o'∧o'<31→L=Pk k lim→Z=GX k q2→S=Zo k o o'→∃k p,k<8∧ParOK p∧(cond (v / 1736 % 3==1) (some (Map.mk q9 L Z S [(Work.mk 0 10000 15000 q6 (C5 (q6+20)) (C5 (q7*200)))])) (some (Map.mk q9 L Z S [])))=some (JD k p):=by
    intro k o o' L Z S hk h1 h2 e1 e2 e3
    obtain ⟨wk,w1,w2⟩:=ew L Z S
    subst e1 e2 e3
    exact ⟨k,⟨lim,q2,o,o',q9,wk⟩,hk,⟨hlim,by dsimp only;omega,h1,h2,b9,w1⟩,w2⟩
  rcases (show q8=0∨q8=1∨q8=2∨q8=3∨q8=4∨q8=5∨q8=6 by omega)with rfl|rfl|rfl|rfl|rfl|rfl|rfl
  ·exact fin 0 0 0 _ _ _ (by decide) (by decide) (by decide) rfl rfl rfl
  ·exact fin 1 0 0 _ _ _ (by decide) (by decide) (by decide) rfl rfl rfl
  ·exact fin 2 q3 0 _ _ _ (by decide) b3 (by decide) rfl rfl rfl
  ·exact fin 3 0 0 _ _ _ (by decide) (by decide) (by decide) rfl rfl rfl
  ·exact fin 4 0 0 _ _ _ (by decide) (by decide) (by decide) rfl rfl rfl
  ·exact fin 5 0 0 _ _ _ (by decide) (by decide) (by decide) rfl rfl rfl
  ·rcases (show q2=0∨q2=1 by omega)with rfl|rfl
   ·exact fin 6 0 0 _ _ _ (by decide) (by decide) (by decide) rfl rfl rfl
   ·exact fin 7 q4 q5 _ _ _ (by decide) b4 (by omega) rfl rfl rfl
theorem dK:((List.range 8).all fun k=>([1500,600,1000,300]:List Int).all fun lim=>([0,1]:List Int).all fun r=>Nz (JD k ⟨lim,r,0,0,0,[]⟩)==some 0)=true:=by decide+kernel
theorem VY (k:Nat)(lim:Int):(Pk k lim).length≤4∧∀l∈Pk k lim,l.Curve_.Pts.length=2∧l.Next.length≤2:=by
  unfold Pk
  split<;>simp [TK]
theorem KX (k:Nat)(r:Int):(GX k r).length≤2∧∀z∈GX k r,z.Parts.length≤3:=by
  unfold GX
  split<;>simp
theorem YY (k:Nat)(o o':Int):(Zo k o o').length≤2∧∀s∈Zo k o o',s.Phases.length=4∧∀p∈s.Phases,p.Green.length≤1:=by
  unfold Zo
  split<;>simp [pW]
theorem aM {m:Map}{k:Nat}{lim r o o':Int}(h1:m.Lanes=Pk k lim)(h2:m.Zones=GX k r)(h3:m.Signals=Zo k o o')(h4:m.Works.length≤1):BearM m:=by
  obtain ⟨a1,a2⟩:=VY k lim
  obtain ⟨b1,b2⟩:=KX k r
  obtain ⟨c1,c2⟩:=YY k o o'
  refine ⟨⟨by rw [h1];omega,fun l hl=> ?_⟩,⟨by rw [h3];omega,fun s hs=>⟨?_,fun p hp=> ?_⟩⟩,⟨by rw [h2];omega,fun z hz=> ?_⟩,⟨by omega⟩⟩
  ·rw [h1]at hl;have:=a2 l hl;omega
  ·rw [h3]at hs;have:=(c2 s hs).1;omega
  ·rw [h3]at hs;have:=(c2 s hs).2 p hp;omega
  ·rw [h2]at hz;have:=b2 z hz;omega
theorem ParOK.wk1 {p:Par}(h:ParOK p):p.wk.length≤1:=by
  rcases h.wk with e|⟨b,l,_,_,_,_,e⟩<;>rw [e]<;>simp
theorem iX {k:Nat}{p:Par}(h:ParOK p):BearM (JD k p):=aM rfl rfl rfl h.wk1
theorem qS {k:Nat}{p:Par}(hk:k<8)(h:ParOK p):ValR (JD k ⟨p.lim,p.r,0,0,0,[]⟩):=by
  have h1:=lX.1 dK k (List.mem_range.2 hk)
  have h2:=lX.1 h1 p.lim (by have:=h.lim;simp;omega)
  have h3:=lX.1 h2 p.r (by have:=h.r;simp;omega)
  have h4:=roads_Check_le _ _ (eq_of_beq h3)
  have h5:=Qx (m:=JD k ⟨p.lim,p.r,0,0,0,[]⟩) (aM rfl rfl rfl (bX 1))
  rw [h4]at h5
  exact chkR_zero.1 (lD h5).symm
/-- Another version, other offsets, other works. -/
theorem ValR.change {L:List Lane}{Z:List Zone}{S S':List Signal}{W W':List Work}{v v':Int}(V:ValR ⟨v,L,Z,S,W⟩)(hv:0≤v'∧v'≤1099511627776)(hl:S'.length=S.length)(hs: ∀s∈S',World.signalE ⟨v,L,Z,S,W⟩ 0 s=none)(hw:W'.length≤8)(hw': ∀w∈W',World.workE ⟨v,L,Z,S,W⟩ 0 w=none):ValR ⟨v',L,Z,S',W'⟩:=by
  refine ⟨hv,V.pos,V.lanes,V.zones,by show S'.length≤4;rw [hl];exact V.signals,hw,V.laneE,V.nextE,?_,?_,?_⟩
  ·rw [firstE_none]
   intro j a ha
   exact hs a (lG ha)
  ·have:=V.zoneE
   rw [firstE_none]at this ⊢
   intro j a ha
   have:=this j a ha
   unfold World.zoneE at this ⊢
   dsimp only at this ⊢
   rw [hl]
   exact this
  ·rw [firstE_none]
   intro j a ha
   exact hw' a (lG ha)
theorem dL (k:Nat)(o o' a a':Int):(Zo k o o').length=(Zo k a a').length:=by unfold Zo;split<;>rfl
theorem iY {k:Nat}{o o':Int}(h:0≤o∧o<31)(h':0≤o'∧o'<31){m:Map}(hm:m.Lanes.length=(Pk k 0).length): ∀s∈Zo k o o',signalE m 0 s=none:=by
  have key: ∀(off a b:Int),0≤off∧off<31→0≤a∧a<m.Lanes.length→0≤b∧b<m.Lanes.length→signalE m 0 (pW off a b)=none:=by
    intro off a b h1 h2 h3
    unfold signalE pW
    simp only [lK,lM]
    rw [bH (by decide),bH (by decide),bH (by simp [Zu];omega),bH (by simp [Zu]),bH]
    simp only [List.any_cons,List.any_nil,Ep,Bool.and_true,Bool.or_false,bM,bO,bL,Bool.not_eq_true',not_or,Bool.not_eq_false,bK,bD]
    omega
  intro s hs
  unfold Zo at hs
  split at hs
  ·rw [show (Pk 2 0).length=2 from rfl]at hm
   simp only [bA]at hs
   subst hs
   exact key _ _ _ h (by omega) (by omega)
  ·rw [show (Pk 7 0).length=4 from rfl]at hm
   simp only [lT,List.not_mem_nil,or_false]at hs
   rcases hs with rfl|rfl
   ·exact key _ _ _ h (by omega) (by omega)
   ·exact key _ _ _ h' (by omega) (by omega)
  ·cases hs
theorem YZ (k:Nat)(lim:Int):(Pk k lim).length=(Pk k 0).length:=by unfold Pk;split<;>rfl
end Go.Abs.World
