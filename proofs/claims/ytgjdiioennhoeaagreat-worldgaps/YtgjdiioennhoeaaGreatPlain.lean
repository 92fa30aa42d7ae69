/-
  Plain facts on the functions: what they compute, and that the law holds of it.
-/
import Derived.Test.YtgjdiioennhoeaaGreatFns4
set_option maxRecDepth 100000
set_option synthInstance.maxHeartbeats 0
set_option synthInstance.maxSize 100000
set_option linter.unusedVariables false
namespace Go.Abs.World
open Go Go.Abs
noncomputable def Mh [Lp](p1:Map)(p2:(List Int)):Option (List Int):=
  (Y1 p1 p2).bind fun v1=>cond (v1 !=0) (some []) ((Jk p1 p2).bind fun v2=>some v2.1)
noncomputable def Kj (p2:Agent)(v1:(List Int))(x1:(Int×Int)):Option (Stp (Int×Int) Int):=
  cond (decide (x1.2< (v1.length:Int))) ((B8 v1 x1.2).bind fun v2=>cond (decide (v2≤p2.S)) (some (.go (x1.2,(D2 (x1.2+1))))) (some (.go (x1.1,(D2 (x1.2+1)))))) (some (.out x1.1))
noncomputable def Tz [Lp](p1:Map)(p2:Agent):Option (Int×Int):=
  (Mh p1 p2.Route).bind fun v1=>(loop (Kj p2 v1) (0,0)).bind fun y1=>(B8 p2.Route y1).bind fun v3=>(B8 v1 y1).bind fun v4=>some (v3,(D2 (p2.S - v4)))
noncomputable def Qb [Lp](p1:Map)(p2:Agent):Option Bool:=
  (Z0 p1 p2.Route).bind fun v1=>some (decide ((D2 (p2.S - p2.Len))>v1))
noncomputable def Nj [Lp](p1:Map)(p2:State)(p3:Int):Option Int:=
  (B8 p2.Agents p3).bind fun v1=>(Y1 p1 v1.Route).bind fun v2=>cond (v2 !=0) (some 13) (((cond (!(((((decide (v1.Len<300))||(decide (v1.Len>20000)))||(decide (v1.Begin<0)))||(decide (v1.Begin>1099511627776)))||(decide (v1.S<0)))) (Z0 p1 v1.Route) (some default))).bind fun v3=>cond ((((((decide (v1.Len<300))||(decide (v1.Len>20000)))||(decide (v1.Begin<0)))||(decide (v1.Begin>1099511627776)))||(decide (v1.S<0)))||(decide (v1.S>(D2 ((D2 (v3+v1.Len))+2000))))) (some 2) ((Tz p1 v1).bind fun v4=>(B8 p1.Lanes v4.1).bind fun v5=>(Cg v5.Kind).bind fun v6=>cond ((decide (v1.V<0))||(decide (v1.V>v6.1))) (some 2) ((Qb p1 v1).bind fun v7=>cond (((!(v1.Gone==v7))||((decide (v1.Begin>p2.Tick))&& (v1.S !=0)))||((p3==0)&& (v1.Begin !=0))) (some 10) (some 0))))
noncomputable def Mi (p2:State)(x3:Int):Option (Stp Int (Sum Unit Int)):=
  cond (decide (x3< (p2.In.length:Int))) ((B8 p2.In x3).bind fun v7=>cond ((((decide (v7.Since<0))||(decide (v7.Since>p2.Tick)))||(decide (v7.Rank<0)))||(decide (v7.Rank>100))) (some (.out (.inr 2))) (some (.go (D2 (x3+1))))) (some (.out (.inl ())))
noncomputable def Mj (p1:Map)(p2:State)(x2:Int):Option (Stp Int (Sum Unit Int)):=
  cond (decide (x2< (p2.In.length:Int))) ((B8 p2.In x2).bind fun v3=>cond ((((decide (v3.Agent_<0))||(decide (v3.Agent_≥(p2.Agents.length:Int))))||(decide (v3.Zone_<0)))||(decide (v3.Zone_≥(p1.Zones.length:Int)))) (some (.out (.inr 11))) (((cond (decide (x2>0)) (B8 p2.In (D2 (x2 - 1))) (some default))).bind fun v4=>((cond ((decide (x2>0))&& (!(decide (v3.Agent_<v4.Agent_)))) (B8 p2.In (D2 (x2 - 1))) (some default))).bind fun v5=>((cond (((decide (x2>0))&& (!(decide (v3.Agent_<v4.Agent_))))&& (v3.Agent_==v5.Agent_)) (B8 p2.In (D2 (x2 - 1))) (some default))).bind fun v6=>cond ((decide (x2>0))&& ((decide (v3.Agent_<v4.Agent_))||((v3.Agent_==v5.Agent_)&& (decide (v3.Zone_≤v6.Zone_))))) (some (.out (.inr 11))) (some (.go (D2 (x2+1)))))) (some (.out (.inl ())))
noncomputable def Mk [Lp](p1:Map)(p2:State)(x1:Int):Option (Stp Int (Sum Unit Int)):=
  cond (decide (x1< (p2.Agents.length:Int))) ((Nj p1 p2 x1).bind fun v2=>cond (v2 !=0) (some (.out (.inr v2))) (some (.go (D2 (x1+1))))) (some (.out (.inl ())))
noncomputable def Wx [Lp](p1:Map)(p2:State):Option Int:=
  (Iu p1).bind fun v1=>cond (v1 !=0) (some v1) (cond ((decide (p2.Tick<0))||(decide (p2.Tick>1099511627776))) (some 2) (cond ((p2.Agents.length:Int)==0) (some 6) (cond (decide ((p2.Agents.length:Int)>8)) (some 8) (thenS (loop (Mk p1 p2) 0) (fun _=>thenS (loop (Mj p1 p2) 0) (fun _=>thenS (loop (Mi p2) 0) (fun _=>some 0) (fun r=>some r)) (fun r=>some r)) (fun r=>some r)))))
noncomputable def Wy (p1:State)(p2:Int):Option Bool:=
  ((cond ((decide (p2≥0))&& (decide (p2< (p1.Agents.length:Int)))) (B8 p1.Agents p2) (some default))).bind fun v1=>((cond (((decide (p2≥0))&& (decide (p2< (p1.Agents.length:Int))))&& (decide (v1.Begin≤p1.Tick))) (B8 p1.Agents p2) (some default))).bind fun v2=>some ((((decide (p2≥0))&& (decide (p2< (p1.Agents.length:Int))))&& (decide (v1.Begin≤p1.Tick)))&& (!v2.Gone))
noncomputable def Qc (p1:Agent):Option Bool:=
  some ((((decide (p1.S≥0))&& (decide (p1.S≤1099511627776)))&& (decide (p1.Len≥0)))&& (decide (p1.Len≤1099511627776)))
noncomputable def X0 (x5:((List Pass)×Int)):Option (Stp ((List Pass)×Int) (List Pass)):=
  ((cond (decide (x5.2>0)) (B8 x5.1 x5.2) (some default))).bind fun v9=>((cond (decide (x5.2>0)) (B8 x5.1 (D2 (x5.2 - 1))) (some default))).bind fun v10=>((cond ((decide (x5.2>0))&& (!(decide (v9.From<v10.From)))) (B8 x5.1 x5.2) (some default))).bind fun v11=>((cond ((decide (x5.2>0))&& (!(decide (v9.From<v10.From)))) (B8 x5.1 (D2 (x5.2 - 1))) (some default))).bind fun v12=>((cond (((decide (x5.2>0))&& (!(decide (v9.From<v10.From))))&& (v11.From==v12.From)) (B8 x5.1 x5.2) (some default))).bind fun v13=>((cond (((decide (x5.2>0))&& (!(decide (v9.From<v10.From))))&& (v11.From==v12.From)) (B8 x5.1 (D2 (x5.2 - 1))) (some default))).bind fun v14=>cond ((decide (x5.2>0))&& ((decide (v9.From<v10.From))||((v11.From==v12.From)&& (decide (v13.Zone_<v14.Zone_))))) ((B8 x5.1 (D2 (x5.2 - 1))).bind fun v15=>(B8 x5.1 x5.2).bind fun v16=>(B8 x5.1 x5.2).bind fun v17=>(B8 (Kd x5.1 x5.2 v15) (D2 (x5.2 - 1))).bind fun v18=>some (.go ((Kd (Kd x5.1 x5.2 v15) (D2 (x5.2 - 1)) v16),(D2 (x5.2 - 1))))) (some (.out x5.1))
noncomputable def Eg [Lp](x4:((List Pass)×Int)):Option (Stp ((List Pass)×Int) (List Pass)):=
  cond (decide (x4.2< (x4.1.length:Int))) ((loop (X0) (x4.1,x4.2)).bind fun y5=>some (.go (y5,(D2 (x4.2+1))))) (some (.out x4.1))
noncomputable def Eh (p1:Map)(p2:(List Int))(v1:(List Int))(x1:((List Pass)×Int))(x2:((List Pass)×Int))(x3:((List Pass)×Int)):Option (Stp ((List Pass)×Int) (List Pass)):=
  (B8 p1.Zones x2.2).bind fun v2=>cond (decide (x3.2< (v2.Parts.length:Int))) ((B8 p1.Zones x2.2).bind fun v3=>(B8 v3.Parts x3.2).bind fun v4=>(B8 p2 x1.2).bind fun v5=>cond (v4.Lane_==v5) ((B8 v1 x1.2).bind fun v6=>(B8 v1 x1.2).bind fun v7=>(Bj x3.1 [(Pass.mk x2.2 x3.2 (D2 (v6+v4.From)) (D2 (v7+v4.To)))]).bind fun v8=>some (.go (v8,(D2 (x3.2+1))))) (some (.go (x3.1,(D2 (x3.2+1)))))) (some (.out x3.1))
noncomputable def Ei [Lp](p1:Map)(p2:(List Int))(v1:(List Int))(x1:((List Pass)×Int))(x2:((List Pass)×Int)):Option (Stp ((List Pass)×Int) (List Pass)):=
  cond (decide (x2.2< (p1.Zones.length:Int))) ((loop (Eh p1 p2 v1 x1 x2) (x2.1,0)).bind fun y3=>some (.go (y3,(D2 (x2.2+1))))) (some (.out x2.1))
noncomputable def Cb [Lp](p1:Map)(p2:(List Int))(v1:(List Int))(x1:((List Pass)×Int)):Option (Stp ((List Pass)×Int) (List Pass)):=
  cond (decide (x1.2< (v1.length:Int))) ((loop (Ei p1 p2 v1 x1) (x1.1,0)).bind fun y2=>some (.go (y2,(D2 (x1.2+1))))) (some (.out x1.1))
noncomputable def Jm [Lp](p1:Map)(p2:(List Int)):Option (List Pass):=
  (Mh p1 p2).bind fun v1=>(loop (Cb p1 p2 v1) ([],0)).bind fun y1=>(loop (Eg) (y1,1)).bind fun y4=>some y4
noncomputable def Jn (p2:Agent)(p3:Agent)(p4:Int)(v3:(List Pass))(x1:Int):Option (Stp Int (Sum Unit Bool)):=
  cond (decide (x1< (v3.length:Int))) ((B8 v3 x1).bind fun v4=>((cond (v4.Zone_==p4) (B8 v3 x1) (some default))).bind fun v5=>((cond ((v4.Zone_==p4)&& (decide ((D2 (p2.S - p2.Len))≤v5.To))) (B8 v3 x1) (some default))).bind fun v6=>cond (((v4.Zone_==p4)&& (decide ((D2 (p2.S - p2.Len))≤v5.To)))&& (decide (p3.S≥v6.From))) (some (.out (.inr true))) (some (.go (D2 (x1+1))))) (some (.out (.inl ())))
noncomputable def Zd [Lp](p1:Map)(p2:Agent)(p3:Agent)(p4:Int):Option Bool:=
  (Qc p2).bind fun v1=>((cond (!(!v1)) (Qc p3) (some default))).bind fun v2=>cond ((!v1)||(!v2)) (some false) ((Jm p1 p2.Route).bind fun v3=>thenS (loop (Jn p2 p3 p4 v3) 0) (fun _=>some false) (fun r=>some r))
noncomputable def Kk (p1:Zone)(p2:Int)(x1:Int):Option (Stp Int (Sum Unit (Part×Bool))):=
  cond (decide (x1< (p1.Parts.length:Int))) ((B8 p1.Parts x1).bind fun v1=>cond (v1.Lane_==p2) ((B8 p1.Parts x1).bind fun v2=>some (.out (.inr (v2,true)))) (some (.go (D2 (x1+1))))) (some (.out (.inl ())))
noncomputable def AJ [Lp](p1:Zone)(p2:Int):Option (Part×Bool):=
  thenS (loop (Kk p1 p2) 0) (fun _=>some ((Part.mk 0 0 0 0),false)) (fun r=>some r)
noncomputable def Qd [Lp](p1:Map)(p2:(List Int))(p3:Int)(x1:Int):Option (Stp Int (Sum Unit Int)):=
  cond (decide (x1< (p2.length:Int))) ((B8 p1.Zones p3).bind fun v2=>(B8 p2 x1).bind fun v3=>(AJ v2 v3).bind fun v4=>cond v4.2 (some (.out (.inr x1))) (some (.go (D2 (x1+1))))) (some (.out (.inl ())))
noncomputable def Wz [Lp](p1:Map)(p2:(List Int))(p3:Int):Option Int:=
  (Y1 p1 p2).bind fun v1=>cond (((v1 !=0)||(decide (p3<0)))||(decide (p3≥(p1.Zones.length:Int)))) (some (-1)) (thenS (loop (Qd p1 p2 p3) 0) (fun _=>some (-1)) (fun r=>some r))
noncomputable def Qe [Lp](p1:Map)(p2:Int):Option Bool:=
  ((cond ((decide (p2≥0))&& (decide (p2< (p1.Lanes.length:Int)))) (Iu p1) (some default))).bind fun v1=>some (((decide (p2≥0))&& (decide (p2< (p1.Lanes.length:Int))))&& (v1==0))
noncomputable def Dp [Lp](p1:Signal)(p2:Int)(x2:(Int×Int)):Option (Stp (Int×Int) (Sum Unit Bool)):=
  cond (decide (x2.2< (p1.Phases.length:Int))) ((B8 p1.Phases x2.2).bind fun v5=>cond (decide (x2.1<v5.Ticks)) ((B8 p1.Phases x2.2).bind fun v6=>(Nc v6.Green p2).bind fun v7=>some (.out (.inr v7))) ((B8 p1.Phases x2.2).bind fun v8=>some (.go ((D2 (x2.1 - v8.Ticks)),(D2 (x2.2+1)))))) (some (.out (.inl ())))
noncomputable def Gk (p1:Signal)(x1:(Int×Int)):Option (Stp (Int×Int) Int):=
  cond (decide (x1.2< (p1.Phases.length:Int))) ((B8 p1.Phases x1.2).bind fun v1=>some (.go ((D2 (x1.1+v1.Ticks)),(D2 (x1.2+1))))) (some (.out x1.1))
noncomputable def Rf [Lp](p1:Signal)(p2:Int)(p3:Int):Option Bool:=
  (loop (Gk p1) (0,0)).bind fun y1=>(Tl p1.Offset y1).bind fun v2=>(Tl p3 y1).bind fun v3=>(Tl (D2 (v2+v3)) y1).bind fun v4=>thenS (loop (Dp p1 p2) (v4,0)) (fun _=>some false) (fun r=>some r)
noncomputable def Xa [Lp](p1:Map)(p2:Int)(p3:Int)(p4:Int):Option Bool:=
  (Qe p1 p3).bind fun v1=>((cond (((v1&& (decide (p2≥0)))&& (decide (p2< (p1.Signals.length:Int))))&& (decide (p4≥0))) (B8 p1.Signals p2) (some default))).bind fun v2=>((cond (((v1&& (decide (p2≥0)))&& (decide (p2< (p1.Signals.length:Int))))&& (decide (p4≥0))) (Rf v2 p3 p4) (some default))).bind fun v3=>some ((((v1&& (decide (p2≥0)))&& (decide (p2< (p1.Signals.length:Int))))&& (decide (p4≥0)))&&v3)
noncomputable def Kl (p2:Agent)(v1:Int)(v2:Zone)(x1:Int):Option (Stp Int (Sum Unit Int)):=
  cond (decide (x1< (v2.Parts.length:Int))) ((B8 v2.Parts x1).bind fun v5=>(B8 p2.Route v1).bind fun v6=>cond (v5.Lane_==v6) ((B8 v2.Parts x1).bind fun v7=>some (.out (.inr v7.Rank))) (some (.go (D2 (x1+1))))) (some (.out (.inl ())))
noncomputable def IA [Lp](p1:Map)(p2:Agent)(p3:Int)(p4:Int):Option Int:=
  (Wz p1 p2.Route p3).bind fun v1=>cond (decide (v1<0)) (some 0) ((B8 p1.Zones p3).bind fun v2=>cond (decide (v2.Signal_>0)) ((B8 p2.Route v1).bind fun v3=>(Xa p1 (D2 (v2.Signal_ - 1)) v3 p4).bind fun v4=>cond v4 (some 2) (some 0)) (thenS (loop (Kl p2 v1 v2) 0) (fun _=>some 0) (fun r=>some r)))
noncomputable def Pd [Lp](p1:Map)(p2:Int):Option Int:=
  (Qe p1 p2).bind fun v1=>cond (!v1) (some 0) ((Jj p1 p2).bind fun v2=>some v2)
noncomputable def Np [Lp](p1:Map)(p2:Agent)(v2:(List Int))(x1:((List Span)×Int)):Option (Stp ((List Span)×Int) (List Span)):=
  cond (decide (x1.2< (v2.length:Int))) ((B8 v2 x1.2).bind fun v3=>(B8 v2 x1.2).bind fun v4=>(B8 p2.Route x1.2).bind fun v5=>(Pd p1 v5).bind fun v6=>cond (decide ((Ln true 0 (D2 ((D2 (p2.S - p2.Len)) - v3)))≤(Ln false (D2 (p2.S - v4)) v6))) ((B8 p2.Route x1.2).bind fun v7=>(Bj x1.1 [(Span.mk v7 (Ln true 0 (D2 ((D2 (p2.S - p2.Len)) - v3))) (Ln false (D2 (p2.S - v4)) v6))]).bind fun v8=>some (.go (v8,(D2 (x1.2+1))))) (some (.go (x1.1,(D2 (x1.2+1)))))) (some (.out x1.1))
noncomputable def Ua [Lp](p1:Map)(p2:Agent):Option (List Span):=
  (Qc p2).bind fun v1=>cond (!v1) (some []) ((Mh p1 p2.Route).bind fun v2=>(loop (Np p1 p2 v2) ([],0)).bind fun y1=>some y1)
noncomputable def Il (v1:(List Span))(v2:(List Span))(x1:Int)(x2:Int):Option (Stp Int (Sum Unit Bool)):=
  cond (decide (x2< (v2.length:Int))) ((B8 v1 x1).bind fun v3=>(B8 v2 x2).bind fun v4=>((cond (v3.Lane_==v4.Lane_) (B8 v1 x1) (some default))).bind fun v5=>((cond (v3.Lane_==v4.Lane_) (B8 v2 x2) (some default))).bind fun v6=>((cond ((v3.Lane_==v4.Lane_)&& (decide (v5.From≤v6.To))) (B8 v2 x2) (some default))).bind fun v7=>((cond ((v3.Lane_==v4.Lane_)&& (decide (v5.From≤v6.To))) (B8 v1 x1) (some default))).bind fun v8=>cond (((v3.Lane_==v4.Lane_)&& (decide (v5.From≤v6.To)))&& (decide (v7.From≤v8.To))) (some (.out (.inr true))) (some (.go (D2 (x2+1))))) (some (.out (.inl ())))
noncomputable def Im [Lp](v1:(List Span))(v2:(List Span))(x1:Int):Option (Stp Int (Sum Unit Bool)):=
  cond (decide (x1< (v1.length:Int))) (thenS (loop (Il v1 v2 x1) 0) (fun _=>some (.go (D2 (x1+1)))) (fun r=>some (.out (.inr r)))) (some (.out (.inl ())))
noncomputable def Xb [Lp](p1:Map)(p2:Agent)(p3:Agent):Option Bool:=
  (Ua p1 p2).bind fun v1=>(Ua p1 p3).bind fun v2=>thenS (loop (Im v1 v2) 0) (fun _=>some false) (fun r=>some r)
noncomputable def Gl (x1:((List Int)×Int))(v2:(Part×Bool))(x2:Int):Option (Stp Int Int):=
  ((cond (decide (x2< (x1.1.length:Int))) (B8 x1.1 x2) (some default))).bind fun v5=>cond ((decide (x2< (x1.1.length:Int)))&& (decide (v5<v2.1.From))) (some (.go (D2 (x2+1)))) (some (.out x2))
noncomputable def Gm [Lp](p1:Map)(p2:Int)(p3:Int)(x1:((List Int)×Int)):Option (Stp ((List Int)×Int) (List Int)):=
  cond (decide (x1.2< (p1.Zones.length:Int))) ((B8 p1.Zones x1.2).bind fun v1=>(AJ v1 p2).bind fun v2=>((cond (!((!v2.2)||(v1.Signal_==0))) (B8 p1.Signals (D2 (v1.Signal_ - 1))) (some default))).bind fun v3=>((cond (!((!v2.2)||(v1.Signal_==0))) (Rf v3 p2 p3) (some default))).bind fun v4=>cond (((!v2.2)||(v1.Signal_==0))||v4) (some (.go (x1.1,(D2 (x1.2+1))))) ((loop (Gl x1 v2) 0).bind fun y2=>((cond (decide (y2< (x1.1.length:Int))) (B8 x1.1 y2) (some default))).bind fun v6=>cond ((decide (y2< (x1.1.length:Int)))&& (v6==v2.1.From)) (some (.go (x1.1,(D2 (x1.2+1))))) ((Yj x1.1 0 y2).bind fun v7=>(Bj ([]:List Int) v7).bind fun v8=>(Bj v8 [v2.1.From]).bind fun v9=>(Yj x1.1 y2 (x1.1.length:Int)).bind fun v10=>(Bj v9 v10).bind fun v11=>some (.go (v11,(D2 (x1.2+1))))))) (some (.out x1.1))
noncomputable def EO [Lp](p1:Map)(p2:Int)(p3:Int):Option (List Int):=
  (loop (Gm p1 p2 p3) ([],0)).bind fun y1=>some y1
noncomputable def Sr [Lp](p1:Map)(p2:Int)(p3:Int):Option (List Int):=
  (Qe p1 p2).bind fun v1=>cond ((!v1)||(decide (p3<0))) (some []) ((EO p1 p2 p3).bind fun v2=>some v2)
noncomputable def Cw (p2:Int)(x1:(Int×Int)):Option (Stp (Int×Int) Int):=
  cond (decide (x1.1>(Ln false p2 1000000))) (some (.go ((D2 (x1.1 - (Ln false p2 1000000))),(D2 (x1.2+ (D2 (x1.1 - (Ln false p2 1000000)))))))) (some (.out x1.2))
noncomputable def Ub [Lp](p1:Int)(p2:Int):Option Int:=
  cond ((decide ((Ln false p1 1000000)<1))||(decide ((Ln false p2 1000000)<1))) (some 0) ((loop (Cw p2) ((Ln false p1 1000000),0)).bind fun y1=>some y1)
noncomputable def Qf [Lp](p1:(List Int))(p2:Int)(p3:Int)(p4:Int)(p5:Int)(x1:Int):Option (Stp Int (Sum Unit Bool)):=
  cond (decide (x1< (p1.length:Int))) ((B8 p1 x1).bind fun v1=>((cond (decide (v1>p2)) (Ub p3 p5) (some default))).bind fun v2=>((cond (decide (v1>p2)) (B8 p1 x1) (some default))).bind fun v3=>((cond ((decide (v1>p2))&& (decide ((D2 (p2+v2))<v3))) (Ub p4 p5) (some default))).bind fun v4=>((cond ((decide (v1>p2))&& (decide ((D2 (p2+v2))<v3))) (B8 p1 x1) (some default))).bind fun v5=>cond (((decide (v1>p2))&& (decide ((D2 (p2+v2))<v3)))&& (decide ((D2 ((D2 (p2+p4))+v4))≥v5))) (some (.out (.inr false))) (some (.go (D2 (x1+1))))) (some (.out (.inl ())))
noncomputable def Xc [Lp](p1:(List Int))(p2:Int)(p3:Int)(p4:Int)(p5:Int):Option Bool:=
  thenS (loop (Qf p1 p2 p3 p4 p5) 0) (fun _=>some true) (fun r=>some r)
noncomputable def Ii [Lp](p2:Agent)(v1:(Int×Int))(v3:(Int×Int×Int))(v5:(List Int))(x1:(Int×Int)):Option (Stp (Int×Int) Int):=
  ((cond (decide (x1.1>(D2 (0 - v3.2.2)))) (Xc v5 v1.2 p2.V x1.2 v3.2.2) (some default))).bind fun v6=>cond ((decide (x1.1>(D2 (0 - v3.2.2))))&& (!v6)) (some (.go ((D2 (x1.1 - 1)),(Ln true 0 (Ln false (D2 (p2.V+ (D2 (x1.1 - 1)))) v3.1))))) (some (.out x1.2))
noncomputable def Uc [Lp](p1:Map)(p2:Agent)(p3:Int)(p4:Int):Option Agent:=
  (Tz p1 p2).bind fun v1=>(B8 p1.Lanes v1.1).bind fun v2=>(Cg v2.Kind).bind fun v3=>((cond p2.Obey (Pd p1 v1.1) (some default))).bind fun v4=>(cond (p2.Obey&& (decide (v1.2≤v4))) ((Sr p1 v1.1 p3).bind fun v5=>(loop (Ii p2 v1 v3 v5) ((Ln true (D2 (0 - v3.2.2)) (Ln false p4 v3.2.1)),(Ln true 0 (Ln false (D2 (p2.V+ (Ln true (D2 (0 - v3.2.2)) (Ln false p4 v3.2.1)))) v3.1)))).bind fun y2=>some y2) (some (Ln true 0 (Ln false (D2 (p2.V+ (Ln true (D2 (0 - v3.2.2)) (Ln false p4 v3.2.1)))) v3.1)))).bind fun y1=>(Qb p1 (Agent.mk p2.Route (D2 (p2.S+y1)) y1 p2.Len p2.Begin p2.Obey p2.Gone)).bind fun v7=>some (Agent.mk p2.Route (D2 (p2.S+y1)) y1 p2.Len p2.Begin p2.Obey v7)
noncomputable def IB [Lp](p1:Map)(p2:State)(p3:Int)(p4:Int):Option Agent:=
  cond ((decide (p3<0))||(decide (p3≥(p2.Agents.length:Int)))) (some (Agent.mk [] 0 0 0 0 false false)) ((B8 p2.Agents p3).bind fun v1=>(Bj ([]:List Int) v1.Route).bind fun v2=>(Wx p1 p2).bind fun v3=>((cond (!(v3 !=0)) (Wy p2 p3) (some default))).bind fun v4=>cond ((v3 !=0)||(!v4)) (some (Agent.mk v2 v1.S v1.V v1.Len v1.Begin v1.Obey v1.Gone)) ((Uc p1 (Agent.mk v2 v1.S v1.V v1.Len v1.Begin v1.Obey v1.Gone) p2.Tick p4).bind fun v5=>some v5))
instance (a)(b)(c)(d):Le (@T0 U6 a b c d) (T0 a b c d):=by unfold T0;infer_instance
instance:Le (@Pj U6) (Pj):=by unfold Pj;infer_instance
instance (a):Le (@Hb U6 a) (Hb a):=by unfold Hb;infer_instance
instance (a):Le (@Iw U6 a) (Iw a):=by unfold Iw;infer_instance
instance curve_root_le (a):Le (@Fi U6 a) (Fi a):=by unfold Fi;infer_instance
instance (a)(b):Le (@W5 U6 a b) (W5 a b):=by unfold W5;infer_instance
instance (a):Le (@Es U6 a) (Es a):=by unfold Es;infer_instance
instance (a)(b)(c):Le (@Ax U6 a b c) (Ax a b c):=by unfold Ax;infer_instance
instance (a)(b):Le (@Q0 U6 a b) (Q0 a b):=by unfold Q0;infer_instance
instance (a):Le (@T9 U6 a) (T9 a):=by unfold T9;infer_instance
instance (a)(b):Le (@P1 U6 a b) (P1 a b):=by unfold P1;infer_instance
instance (a):Le (@S6 U6 a) (S6 a):=by unfold S6;infer_instance
instance (a):Le (@G4 U6 a) (G4 a):=by unfold G4;infer_instance
instance (a):Le (@D9 U6 a) (D9 a):=by unfold D9;infer_instance
instance (a)(b):Le (@R7 U6 a b) (R7 a b):=by unfold R7;infer_instance
instance (a)(b)(c):Le (@D7 U6 a b c) (D7 a b c):=by unfold D7;infer_instance
instance (a)(b):Le (@G0 U6 a b) (G0 a b):=by unfold G0;infer_instance
instance (a)(b):Le (@D8 U6 a b) (D8 a b):=by unfold D8;infer_instance
instance (a)(b):Le (@O2 U6 a b) (O2 a b):=by unfold O2;infer_instance
instance (a):Le (@R4 U6 a) (R4 a):=by unfold R4;infer_instance
instance piecesGo_le (pts:List Spot): ∀(n i:Nat) (s:Int),Le (@Hy U6 pts n i s) (Hy pts n i s)
  |0,i,s=>Le.refl _
  |n+1,i,s=>by
   unfold Hy
   have:=fun i s=>piecesGo_le pts n i s
   infer_instance -- curve_root_le
instance (a):Le (@Ra U6 a) (Ra a):=by unfold Ra;infer_instance
instance (a):Le (@Et U6 a) (Et a):=by unfold Et;infer_instance
instance curve_Length_le (a):Le (@Ck U6 a) (Ck a):=by unfold Ck;infer_instance
instance (a)(b):Le (@Ca U6 a b) (Ca a b):=by unfold Ca;infer_instance
instance (a)(b)(c):Le (@Q3 U6 a b c) (Q3 a b c):=by unfold Q3;infer_instance
instance (a)(b):Le (@Q4 U6 a b) (Q4 a b):=by unfold Q4;infer_instance
instance (a):Le (@U0 U6 a) (U0 a):=by unfold U0;infer_instance
instance (a)(b):Le (@Q5 U6 a b) (Q5 a b):=by unfold Q5;infer_instance
instance (a):Le (@U1 U6 a) (U1 a):=by unfold U1;infer_instance
instance (a)(b):Le (@R8 U6 a b) (R8 a b):=by unfold R8;infer_instance
instance (a)(b):Le (@O0 U6 a b) (O0 a b):=by unfold O0;infer_instance
instance roads_Check_le (a):Le (@Bl U6 a) (Bl a):=by unfold Bl;infer_instance
instance (a)(b):Le (@Q6 U6 a b) (Q6 a b):=by unfold Q6;infer_instance
instance (a)(b):Le (@M8 U6 a b) (M8 a b):=by unfold M8;infer_instance
instance (a)(b)(c):Le (@Af U6 a b c) (Af a b c):=by unfold Af;infer_instance
instance (a)(b):Le (@Ev U6 a b) (Ev a b):=by unfold Ev;infer_instance
instance (a)(b)(c):Le (@P4 U6 a b c) (P4 a b c):=by unfold P4;infer_instance
instance (a)(b):Le (@V9 U6 a b) (V9 a b):=by unfold V9;infer_instance
instance (a)(b)(c):Le (@V6 U6 a b c) (V6 a b c):=by unfold V6;infer_instance
instance (a)(b):Le (@Z2 U6 a b) (Z2 a b):=by unfold Z2;infer_instance
instance (a)(b):Le (@U2 U6 a b) (U2 a b):=by unfold U2;infer_instance
instance (a)(b):Le (@Az U6 a b) (Az a b):=by unfold Az;infer_instance
instance (a)(b):Le (@Hc U6 a b) (Hc a b):=by unfold Hc;infer_instance
instance (a)(b):Le (@Fj U6 a b) (Fj a b):=by unfold Fj;infer_instance
instance (a)(b)(c):Le (@Y2 U6 a b c) (Y2 a b c):=by unfold Y2;infer_instance
instance (a):Le (@At U6 a) (At a):=by unfold At;infer_instance
instance (a)(b):Le (@Cs U6 a b) (Cs a b):=by unfold Cs;infer_instance
instance (a)(b):Le (@J8 U6 a b) (J8 a b):=by unfold J8;infer_instance
instance (a)(b):Le (@E9 U6 a b) (E9 a b):=by unfold E9;infer_instance
instance (a)(b)(c):Le (@Z4 U6 a b c) (Z4 a b c):=by unfold Z4;infer_instance
instance (a)(b)(c):Le (@Z5 U6 a b c) (Z5 a b c):=by unfold Z5;infer_instance
instance (a)(b):Le (@Ct U6 a b) (Ct a b):=by unfold Ct;infer_instance
instance (a):Le (@K0 U6 a) (K0 a):=by unfold K0;infer_instance
instance (a):Le (@H6 U6 a) (H6 a):=by unfold H6;infer_instance
instance (a)(b):Le (@Bm U6 a b) (Bm a b):=by unfold Bm;infer_instance
instance (a)(b):Le (@C4 U6 a b) (C4 a b):=by unfold C4;infer_instance
instance (a)(b)(c):Le (@D0 U6 a b c) (D0 a b c):=by unfold D0;infer_instance
instance (a)(b)(c):Le (@C8 U6 a b c) (C8 a b c):=by unfold C8;infer_instance
instance (a)(b)(c):Le (@G1 U6 a b c) (G1 a b c):=by unfold G1;infer_instance
instance (a)(b):Le (@D1 U6 a b) (D1 a b):=by unfold D1;infer_instance
instance (a)(b):Le (@J6 U6 a b) (J6 a b):=by unfold J6;infer_instance
instance (a):Le (@F0 U6 a) (F0 a):=by unfold F0;infer_instance
instance (a)(b)(c):Le (@I5 U6 a b c) (I5 a b c):=by unfold I5;infer_instance
instance (a)(b):Le (@D6 U6 a b) (D6 a b):=by unfold D6;infer_instance
instance (a)(b):Le (@I6 U6 a b) (I6 a b):=by unfold I6;infer_instance
instance (a)(b):Le (@I7 U6 a b) (I7 a b):=by unfold I7;infer_instance
instance (a):Le (@J7 U6 a) (J7 a):=by unfold J7;infer_instance
instance:Le (@F1 U6) (F1):=by unfold F1;infer_instance
instance (a)(b)(c)(d)(e):Le (@T1 U6 a b c d e) (T1 a b c d e):=by unfold T1;infer_instance
instance (a)(b)(c):Le (@P7 U6 a b c) (P7 a b c):=by unfold P7;infer_instance
instance (a)(b):Le (@W8 U6 a b) (W8 a b):=by unfold W8;infer_instance
instance (a)(b)(c):Le (@J1 U6 a b c) (J1 a b c):=by unfold J1;infer_instance
instance (a)(b)(c):Le (@F2 U6 a b c) (F2 a b c):=by unfold F2;infer_instance
instance (a)(b)(c)(d):Le (@Cu U6 a b c d) (Cu a b c d):=by unfold Cu;infer_instance
instance (a)(b)(c):Le (@N0 U6 a b c) (N0 a b c):=by unfold N0;infer_instance
instance (a)(b)(c):Le (@C9 U6 a b c) (C9 a b c):=by unfold C9;infer_instance
instance (a)(b):Le (@C7 U6 a b) (C7 a b):=by unfold C7;infer_instance
instance (a)(b):Le (@K1 U6 a b) (K1 a b):=by unfold K1;infer_instance
instance (a)(b):Le (@Ix U6 a b) (Ix a b):=by unfold Ix;infer_instance
instance (a)(b)(c):Le (@Z7 U6 a b c) (Z7 a b c):=by unfold Z7;infer_instance
instance (a)(b)(c)(d):Le (@H7 U6 a b c d) (H7 a b c d):=by unfold H7;infer_instance
instance (a)(b)(c):Le (@I8 U6 a b c) (I8 a b c):=by unfold I8;infer_instance
instance (a)(b)(c):Le (@Gv U6 a b c) (Gv a b c):=by unfold Gv;infer_instance
instance (a)(b)(c):Le (@Cv U6 a b c) (Cv a b c):=by unfold Cv;infer_instance
instance (a)(b):Le (@Ki U6 a b) (Ki a b):=by unfold Ki;infer_instance
instance (a)(b)(c):Le (@T3 U6 a b c) (T3 a b c):=by unfold T3;infer_instance
instance (a)(b)(c):Le (@Ez U6 a b c) (Ez a b c):=by unfold Ez;infer_instance
instance (a)(b)(c)(d):Le (@Gw U6 a b c d) (Gw a b c d):=by unfold Gw;infer_instance
instance (a)(b):Le (@I9 U6 a b) (I9 a b):=by unfold I9;infer_instance
instance (a)(b)(c)(d):Le (@Fl U6 a b c d) (Fl a b c d):=by unfold Fl;infer_instance
instance (a)(b)(c)(d):Le (@O4 U6 a b c d) (O4 a b c d):=by unfold O4;infer_instance
instance (a)(b):Le (@Q7 U6 a b) (Q7 a b):=by unfold Q7;infer_instance
instance (a):Le (@T7 U6 a) (T7 a):=by unfold T7;infer_instance
instance (a)(b):Le (@Bb U6 a b) (Bb a b):=by unfold Bb;infer_instance
instance (a)(b)(c)(d):Le (@Bc U6 a b c d) (Bc a b c d):=by unfold Bc;infer_instance
instance (a)(b):Le (@Hg U6 a b) (Hg a b):=by unfold Hg;infer_instance
instance (a)(b):Le (@I3 U6 a b) (I3 a b):=by unfold I3;infer_instance
instance (a)(b):Le (@E6 U6 a b) (E6 a b):=by unfold E6;infer_instance
instance (a)(b):Le (@X6 U6 a b) (X6 a b):=by unfold X6;infer_instance
instance (a)(b)(c):Le (@F3 U6 a b c) (F3 a b c):=by unfold F3;infer_instance
instance (a)(b):Le (@J2 U6 a b) (J2 a b):=by unfold J2;infer_instance
instance (a)(b):Le (@F4 U6 a b) (F4 a b):=by unfold F4;infer_instance
instance (a)(b)(c):Le (@Bo U6 a b c) (Bo a b c):=by unfold Bo;infer_instance
instance (a)(b)(c)(d):Le (@R5 U6 a b c d) (R5 a b c d):=by unfold R5;infer_instance
instance (a)(b)(c)(d):Le (@Cm U6 a b c d) (Cm a b c d):=by unfold Cm;infer_instance
instance (a)(b)(c)(d)(e):Le (@Fc U6 a b c d e) (Fc a b c d e):=by unfold Fc;infer_instance
instance (a)(b):Le (@Jl U6 a b) (Jl a b):=by unfold Jl;infer_instance
instance (a)(b)(c):Le (@F7 U6 a b c) (F7 a b c):=by unfold F7;infer_instance
instance (a)(b)(c):Le (@J3 U6 a b c) (J3 a b c):=by unfold J3;infer_instance
instance (a)(b):Le (@M4 U6 a b) (M4 a b):=by unfold M4;infer_instance
instance (a)(b)(c)(d):Le (@N2 U6 a b c d) (N2 a b c d):=by unfold N2;infer_instance
instance (a):Le (@N7 U6 a) (N7 a):=by unfold N7;infer_instance
instance (a)(b)(c):Le (@L6 U6 a b c) (L6 a b c):=by unfold L6;infer_instance
instance (a)(b):Le (@L0 U6 a b) (L0 a b):=by unfold L0;infer_instance
instance (a):Le (@M5 U6 a) (M5 a):=by unfold M5;infer_instance
instance (a)(b)(c):Le (@N3 U6 a b c) (N3 a b c):=by unfold N3;infer_instance
instance:Le (@N8 U6) (N8):=by unfold N8;infer_instance
instance (a)(b)(c)(d)(e):Le (@Z8 U6 a b c d e) (Z8 a b c d e):=by unfold Z8;infer_instance
instance (a)(b)(c)(d):Le (@Z9 U6 a b c d) (Z9 a b c d):=by unfold Z9;infer_instance
instance (a)(b)(c):Le (@Lg U6 a b c) (Lg a b c):=by unfold Lg;infer_instance
instance (a)(b)(c):Le (@Ef U6 a b c) (Ef a b c):=by unfold Ef;infer_instance
instance (a)(b)(c)(d)(e):Le (@I4 U6 a b c d e) (I4 a b c d e):=by unfold I4;infer_instance
instance (a)(b)(c)(d)(e):Le (@G7 U6 a b c d e) (G7 a b c d e):=by unfold G7;infer_instance
instance (a)(b)(c)(d)(e):Le (@Gx U6 a b c d e) (Gx a b c d e):=by unfold Gx;infer_instance
instance (a)(b)(c)(d)(e):Le (@V8 U6 a b c d e) (V8 a b c d e):=by unfold V8;infer_instance
instance (a)(b)(c)(d):Le (@Fm U6 a b c d) (Fm a b c d):=by unfold Fm;infer_instance
instance (a)(b)(c)(d):Le (@Jb U6 a b c d) (Jb a b c d):=by unfold Jb;infer_instance
instance (a):Le (@Fo U6 a) (Fo a):=by unfold Fo;infer_instance
instance (a)(b)(c):Le (@R6 U6 a b c) (R6 a b c):=by unfold R6;infer_instance
instance (a)(b)(c):Le (@S7 U6 a b c) (S7 a b c):=by unfold S7;infer_instance
instance (a)(b)(c)(d)(e)(f)(g)(h):Le (@Aa U6 a b c d e f g h) (Aa a b c d e f g h):=by unfold Aa;infer_instance
instance (a)(b)(c)(d)(e)(f)(g)(h):Le (@Do U6 a b c d e f g h) (Do a b c d e f g h):=by unfold Do;infer_instance
instance (a)(b)(c)(d)(e)(f)(g)(h)(i):Le (@Ab U6 a b c d e f g h i) (Ab a b c d e f g h i):=by unfold Ab;infer_instance
instance (a)(b)(c)(d)(e)(f)(g)(h):Le (@Fp U6 a b c d e f g h) (Fp a b c d e f g h):=by unfold Fp;infer_instance
instance (a)(b)(c)(d)(e)(f)(g)(h):Le (@Bd U6 a b c d e f g h) (Bd a b c d e f g h):=by unfold Bd;infer_instance
instance (a)(b)(c)(d)(e)(f):Le (@Fq U6 a b c d e f) (Fq a b c d e f):=by unfold Fq;infer_instance
instance (a)(b)(c)(d)(e)(f)(g)(h):Le (@Be U6 a b c d e f g h) (Be a b c d e f g h):=by unfold Be;infer_instance
instance (a)(b)(c)(d)(e)(f):Le (@Bf U6 a b c d e f) (Bf a b c d e f):=by unfold Bf;infer_instance
instance (a)(b)(c)(d)(e):Le (@Fr U6 a b c d e) (Fr a b c d e):=by unfold Fr;infer_instance
instance (a)(b)(c)(d):Le (@Bg U6 a b c d) (Bg a b c d):=by unfold Bg;infer_instance
instance (a)(b)(c)(d):Le (@Fs U6 a b c d) (Fs a b c d):=by unfold Fs;infer_instance
instance (a)(b)(c):Le (@Hh U6 a b c) (Hh a b c):=by unfold Hh;infer_instance
instance law04_awake_le:Le (@Gy U6) (Gy):=by unfold Gy;infer_instance
theorem Hz (n:Int): ∃y,Fi n=some (y,y*y==n)∧0≤y∧y≤67108864∧(∀m,0≤m→m<y→m*m<n)∧(y=67108864∨n≤y*y):=by
  have key:=PL (f:=Kh n) (fun x=>0≤x.1∧x.1≤x.2∧x.2≤67108864∧(∀m,0≤m→m<x.1→m*m<n)∧(x.2=67108864∨n≤x.2*x.2)) (fun x=>(x.2 - x.1).toNat)
    (fun y=>0≤y∧y≤67108864∧(∀m,0≤m→m<y→m*m<n)∧(y=67108864∨n≤y*y)) (by
      rintro ⟨lo,hi⟩ ⟨h1,h2,h3,h4,h5⟩
      dsimp only at h1 h2 h3 h4 h5
      unfold Kh
      dsimp only
      by_cases hlt:lo<hi
      ·have e1:D2 (lo+hi)=lo+hi:=E1 (by omega)
       have e2:D2 ((lo+hi).tdiv 2)=(lo+hi) / 2:=by rw [wO (by omega)];exact E1 (by omega)
       have hm:lo≤(lo+hi) / 2∧(lo+hi) / 2<hi:=by omega
       generalize hmid:(lo+hi) / 2=mid at*
       have hmm:mid*mid≤67108864*67108864:=VB (by omega) (by omega)
       have hmm0:=Ph mid
       have e3:D2 (mid*mid)=mid*mid:=E1 (by omega)
       have e4:D2 (mid+1)=mid+1:=E1 (by omega)
       simp only [e1,e2,e3,e4,hlt,decide_true,bO]
       by_cases hc:mid*mid<n
       ·simp only [hc,decide_true,bO]
        refine ⟨_,rfl,⟨by omega,by omega,h3,fun m hm0 hm1=> ?_,h5⟩,by dsimp only;omega⟩
        rcases Int.lt_or_le m mid with q|q
        ·have:=Int.mul_le_mul (show m≤mid by omega) (show m≤mid by omega) hm0 (by omega);omega
        ·have:m=mid:=by dsimp only at hm1;omega
         subst this;exact hc
       ·simp only [hc,decide_false,bP]
        exact ⟨_,rfl,⟨h1,by dsimp only;omega,by dsimp only;omega,h4, .inr (by dsimp only;omega)⟩,by dsimp only;omega⟩
      ·simp only [hlt,decide_false,bP]
       obtain rfl:lo=hi:=by omega
       exact ⟨_,rfl,h1,h3,h4,h5⟩) (0,67108864) ⟨by decide,by decide,by decide,fun m h1 h2=>by dsimp only at h2;omega, .inl rfl⟩
  obtain ⟨y,hy,h1,h2,h3,h4⟩:=key
  refine ⟨y,?_,h1,h2,h3,h4⟩
  have hmm:y*y≤67108864*67108864:=VB (by omega) (by omega)
  have hmm0:=Ph y
  unfold Fi
  rw [hy,lB,E1 (by omega)]
/-- The least number whose square is not less. -/
noncomputable def rt (n:Int):Int:=(Hz n).choose
theorem Ze (n:Int):Fi n=some (rt n,rt n*rt n==n):=(Hz n).choose_spec.1
theorem DQ (n:Int):0≤rt n:=(Hz n).choose_spec.2.1
theorem kC (n m:Int)(h1:0≤m)(h2:m<rt n):m*m<n:=(Hz n).choose_spec.2.2.2.1 m h1 h2
theorem kD (n:Int):rt n=67108864∨n≤rt n*rt n:=(Hz n).choose_spec.2.2.2.2
theorem cJ {l:Int}(h0:0≤l)(h1:l≤67108864):rt (l*l)=l:=by
  rcases Int.lt_trichotomy (rt (l*l)) l with q|q|q
  ·rcases kD (l*l)with h|h
   ·omega
   ·have h2:=DQ (l*l)
    have:=Int.mul_lt_mul' (show rt (l*l)≤l by omega) q h2 (by omega);omega
  ·exact q
  ·have:=kC (l*l) l h0 q;omega
theorem FN (n:Int)(h0:0≤n)(h1:n<18014398509481984): ∃r,Is n=some r∧0≤r∧r<134217728∧r*r≤n∧n< (r+1)* (r+1):=by
  have key:=PL (f:=Kg n) (fun x=>0≤x.1∧x.1*x.1≤n∧((∃k:Nat,k≤26∧x.2=2^k∧x.1+2*2^k≤134217728∧n< (x.1+2*2^k)* (x.1+2*2^k))∨(x.2=0∧x.1<134217728∧n< (x.1+1)* (x.1+1)))) (fun x=>x.2.toNat)
    (fun r=>0≤r∧r<134217728∧r*r≤n∧n< (r+1)* (r+1)) (by
      rintro ⟨r,bit⟩ ⟨q1,q2,q3⟩
      dsimp only at q1 q2 q3
      unfold Kg
      dsimp only
      rcases q3 with ⟨k,hk,rfl,q4,q5⟩|⟨rfl,q4,q5⟩
      ·have hp:(0:Int)<2^k:=Int.pow_pos (by decide)
       generalize hb:(2:Int)^k=b at*
       have e1:D2 (r+b)=r+b:=E1 (by omega)
       have hmm:(r+b)* (r+b)≤134217728*134217728:=VB (by omega) (by omega)
       have hmm0:=Ph (r+b)
       have e2:D2 ((r+b)* (r+b))=(r+b)* (r+b):=E1 (by omega)
       have e3:D2 (b.tdiv 2)=b / 2:=by rw [wO (by omega)];exact E1 (by omega)
       have hb0:b>0:=by omega
       simp only [e1,e2,e3,hb0,decide_true,bO]
       have hnext: ∀r',0≤r'→r'*r'≤n→r'+b≤134217728→n< (r'+b)* (r'+b)→(∃j:Nat,j≤26∧b / 2=2^j∧r'+2*2^j≤134217728∧n< (r'+2*2^j)* (r'+2*2^j))∨(b / 2=0∧r'<134217728∧n< (r'+1)* (r'+1)):=by
         intro r' a1 a2 a3 a4
         cases k with
         |zero=>
          have:b=1:=by rw [← hb];rfl
          subst this
          exact .inr ⟨by decide,by omega,a4⟩
         |succ j=>
          have hj:b=2*2^j:=by rw [← hb,Int.pow_succ];omega
          refine .inl ⟨j,by omega,by omega,by omega,by rw [← hj];exact a4⟩
       by_cases hc:(r+b)* (r+b)≤n
       ·simp only [hc,decide_true,bO]
        refine ⟨_,rfl,⟨by dsimp only;omega,hc,hnext (r+b) (by omega) hc (by omega) (by rw [show r+b+b=r+2*b by omega];exact q5)⟩,by dsimp only;omega⟩
       ·simp only [hc,decide_false,bP]
        exact ⟨_,rfl,⟨q1,q2,hnext r q1 q2 (by omega) (by omega)⟩,by dsimp only;omega⟩
      ·simp only [show ¬(0:Int)>0 by decide,decide_false,bP]
       exact ⟨_,rfl,q1,q4,q2,q5⟩) (0,67108864) ⟨by decide,by dsimp only;omega, .inl ⟨26,by decide,by decide,by decide,by dsimp only;omega⟩⟩
  obtain ⟨r,hr,a⟩:=key
  exact ⟨r,by unfold Is;rw [hr];rfl,a⟩
theorem KD {n:Int}(h0:0≤n)(h1:n≤4503599627370496): ∃r,Is n=some r∧0≤r∧r<134217728∧(r*r=n↔rt n*rt n=n)∧(r*r=n→r=rt n):=by
  obtain ⟨r,hr,a1,a2,a3,a4⟩:=FN n h0 (by omega)
  have hr26:r≤67108864:=by
    rcases Int.lt_or_le r 67108865 with q|q
    ·omega
    ·have:=Int.mul_le_mul q q (by decide) (by omega);omega
  refine ⟨r,hr,a1,a2,⟨fun h=> ?_,fun h=> ?_⟩,fun h=> ?_⟩
  ·rw [← h,cJ a1 hr26]
  ·rcases Int.lt_trichotomy r (rt n)with q|q|q
   ·have:=Int.mul_le_mul (show r+1≤rt n by omega) (show r+1≤rt n by omega) (by omega) (DQ n);omega
   ·rw [q];exact h
   ·have h2:=DQ n
    have:=Int.mul_lt_mul' (show rt n≤r by omega) q h2 (by omega);omega
  ·rw [← h,cJ a1 hr26]
def Ud (p:Spot):Bool:=decide (-16777216≤p.X)&&decide (p.X≤16777216)&&decide (-16777216≤p.Y)&&decide (p.Y≤16777216)
theorem okS_iff {p:Spot}:Ud p=true↔ -16777216≤p.X∧p.X≤16777216∧ -16777216≤p.Y∧p.Y≤16777216:=by simp [Ud,and_assoc]
theorem WZ (p:Spot):((decide ((Ln false p.X p.Y)< (-16777216)))||(decide ((Ln true p.X p.Y)>16777216)))= !Ud p:=by
  rw [Cf,Kn]
  cases h:Ud p with
  |true=>have:=okS_iff.1 h;simp;omega
  |false=>
   have: ¬(-16777216≤p.X∧p.X≤16777216∧ -16777216≤p.Y∧p.Y≤16777216):=fun q=>by rw [okS_iff.2 q]at h;cases h
   simp;omega
theorem KE (l:List Spot)(hl:l.length≤1000000): ∀(r:List Spot) (i:Nat),l.drop i=r→loop (Fh l) (i:Int)=some (if r.all Ud then .inl ()else .inr false):=by
  intro r
  induction r with
  |nil=>
   intro i hi
   have:=N1 hi
   refine C5 ?_
   unfold Fh
   simp only [show ¬(i:Int)<l.length by omega,decide_false,bP,List.all_nil,if_true]
  |cons p r ih=>
   intro i hi
   have hlt:=M3 hi
   have hstep:Fh l (i:Int)=if Ud p then some (.go ((i+1:Nat):Int))else some (.out (.inr false)):=by
     unfold Fh
     simp only [show (i:Int)<l.length by omega,decide_true,bO,Bq hi,lB,WZ]
     cases h:Ud p with
     |true=>simp only [bW,bP,if_true];rw [E1 (by omega)];rfl
     |false=>simp
   cases h:Ud p with
   |true=>
    rw [h,bQ rfl]at hstep
    rw [K3 hstep,ih (i+1) (K2 hi)]
    simp [h]
   |false=>
    rw [h]at hstep
    rw [C5 hstep]
    simp [h]
theorem KF (l:List Spot)(hl:l.length≤1000000):Iw l=some (l.all Ud):=by
  unfold Iw
  have:=KE l hl l 0 (by simp)
  rw [show ((0:Nat):Int)=0 from rfl]at this
  rw [this]
  cases l.all Ud<;>rfl
theorem IC (p:Spot):Nw p=some (Ud p):=by
  unfold Nw Ud;rfl
def Q8 (p q:Spot):CurveVector:=⟨q.X - p.X,q.Y - p.Y⟩
def M6 (v w:CurveVector):Int:=v.x*w.x+v.y*w.y
/-- A vector between valid spots. -/
def YJ (v:CurveVector):Prop:= -33554432≤v.x∧v.x≤33554432∧ -33554432≤v.y∧v.y≤33554432
theorem CH {p q:Spot}(hp:Ud p=true)(hq:Ud q=true):YJ (Q8 p q):=by
  have:=okS_iff.1 hp;have:=okS_iff.1 hq
  unfold YJ Q8;dsimp only;omega
theorem Zf {p q:Spot}(hp:Ud p=true)(hq:Ud q=true):Ng p q=some (Q8 p q):=by
  have:=okS_iff.1 hp;have:=okS_iff.1 hq
  unfold Ng Q8
  rw [E1 (by omega),E1 (by omega)]
theorem TG {v w:CurveVector}(hv:YJ v)(hw:YJ w): -2251799813685248≤M6 v w∧M6 v w≤2251799813685248∧(-1125899906842624≤v.x*w.x∧v.x*w.x≤1125899906842624)∧ -1125899906842624≤v.y*w.y∧v.y*w.y≤1125899906842624:=by
  obtain ⟨a1,a2,a3,a4⟩:=hv
  obtain ⟨b1,b2,b3,b4⟩:=hw
  have h1:=aX ⟨a1,a2⟩ ⟨b1,b2⟩
  have h2:=aX ⟨a3,a4⟩ ⟨b3,b4⟩
  unfold M6
  omega
theorem Ue {v w:CurveVector}(hv:YJ v)(hw:YJ w):As v w=some (M6 v w):=by
  have h:=TG hv hw
  unfold As
  rw [E1 (n:=v.x*w.x) (by omega),E1 (n:=v.y*w.y) (by omega),E1 (by unfold M6 at h;omega)]
  rfl
theorem TH (v:CurveVector):0≤M6 v v:=by have:=Ph v.x;have:=Ph v.y;unfold M6;omega
def vs (v:CurveVector):Spot:=⟨v.x,v.y⟩
theorem Qg {p q:Spot}(hp:Ud p=true)(hq:Ud q=true):Ir q p=some (vs (Q8 p q)):=by
  have:=okS_iff.1 hp;have:=okS_iff.1 hq
  unfold Ir Q8 vs
  rw [E1 (by omega),E1 (by omega)]
theorem Uf {v w:CurveVector}(hv:YJ v)(hw:YJ w):Lc (vs v) (vs w)=some (M6 v w):=by
  have h:=TG hv hw
  unfold Lc vs
  dsimp only
  rw [E1 (n:=v.x*w.x) (by omega),E1 (n:=v.y*w.y) (by omega),E1 (by unfold M6 at h;omega)]
  rfl
/-- The error of a chain of points, from a piece on; the piece ahead of it. -/
noncomputable def QB:Option CurveVector→List Spot→Int
  |last,p::q::r=>
   if rt (M6 (Q8 p q) (Q8 p q))*rt (M6 (Q8 p q) (Q8 p q))≠M6 (Q8 p q) (Q8 p q)then 3
   else if rt (M6 (Q8 p q) (Q8 p q))<1000∨rt (M6 (Q8 p q) (Q8 p q))>1048576 then 2
   else match last with
     |some u=>if M6 u (Q8 p q)≤0 then 12 else QB (some (Q8 p q)) (q::r)
     |none=>QB (some (Q8 p q)) (q::r)
  |_,_=>0
theorem CI (last:Option CurveVector)(p q:Spot)(r:List Spot):QB last (p::q::r)=
    if rt (M6 (Q8 p q) (Q8 p q))*rt (M6 (Q8 p q) (Q8 p q))≠M6 (Q8 p q) (Q8 p q)then 3
    else if rt (M6 (Q8 p q) (Q8 p q))<1000∨rt (M6 (Q8 p q) (Q8 p q))>1048576 then 2
    else match last with
      |some u=>if M6 u (Q8 p q)≤0 then 12 else QB (some (Q8 p q)) (q::r)
      |none=>QB (some (Q8 p q)) (q::r):=by
  conv=>lhs;unfold QB
noncomputable def Cc (l:List Spot):Int:=if l.length<2 then 6 else if l.length>16 then 5 else if l.all Ud then QB none l else 2
theorem ID (c:Curve)(hl:c.Pts.length≤1000000)(hok:c.Pts.all Ud=true): ∀(r:List Spot) (p:Spot) (i:Nat) (last:CurveVector),c.Pts.drop i=p::r→YJ last→
    loop (W5 c) ((i:Int),last)=some (if QB (if i=0 then none else some last) (p::r)=0 then .inl ()else .inr (QB (if i=0 then none else some last) (p::r))):=by
  intro r
  induction r with
  |nil=>
   intro p i last hi hlast
   have hlt:=M3 hi
   have:=N1 (K2 hi)
   refine C5 ?_
   unfold W5
   dsimp only
   rw [E1 (n:=(c.Pts.length:Int) - 1) (by omega)]
   simp only [show ¬(i:Int)< (c.Pts.length:Int) - 1 by omega,decide_false,bP,QB,if_true]
  |cons q r ih=>
   intro p i last hi hlast
   have hlt:=M3 hi
   have hi1:=K2 hi
   have hlt1:=M3 hi1
   have hp:Ud p=true:=lY.1 hok p (List.mem_of_mem_drop (i:=i) (by rw [hi];simp))
   have hq:Ud q=true:=lY.1 hok q (List.mem_of_mem_drop (i:=i) (by rw [hi];simp))
   have hv:=CH hp hq
   have hg1:B8 c.Pts ((i:Int)+1)=some q:=by have:=Bq hi1;simpa using this
   have hstep:W5 c ((i:Int),last)=
    if rt (M6 (Q8 p q) (Q8 p q))*rt (M6 (Q8 p q) (Q8 p q))≠M6 (Q8 p q) (Q8 p q)then some (.out (.inr 3))
    else if rt (M6 (Q8 p q) (Q8 p q))<1000∨rt (M6 (Q8 p q) (Q8 p q))>1048576 then some (.out (.inr 2))
    else if i≠0∧M6 last (Q8 p q)≤0 then some (.out (.inr 12))else some (.go (((i+1:Nat):Int),Q8 p q)):=by
     unfold W5
     dsimp only
     rw [E1 (n:=(c.Pts.length:Int) - 1) (by omega),E1 (n:=(i:Int)+1) (by omega)]
     simp only [show (i:Int)< (c.Pts.length:Int) - 1 by omega,decide_true,bO,Bq hi,hg1,lB,Zf hp hq,Ue hv hv,Ze]
     by_cases h1:rt (M6 (Q8 p q) (Q8 p q))*rt (M6 (Q8 p q) (Q8 p q))=M6 (Q8 p q) (Q8 p q)
     ·simp only [h1,beq_self_eq_true,bW,bP,ne_eq,not_true_eq_false,if_false]
      by_cases h2:rt (M6 (Q8 p q) (Q8 p q))<1000∨rt (M6 (Q8 p q) (Q8 p q))>1048576
      ·rw [bQ h2]
       have:(decide (rt (M6 (Q8 p q) (Q8 p q))<1000)||decide (rt (M6 (Q8 p q) (Q8 p q))>1048576))=true:=by simpa using h2
       rw [this];rfl
      ·rw [bR h2]
       have:(decide (rt (M6 (Q8 p q) (Q8 p q))<1000)||decide (rt (M6 (Q8 p q) (Q8 p q))>1048576))=false:=by simpa using h2
       rw [this]
       simp only [bP]
       by_cases h3:i=0
       ·subst h3
        simp only [Int.natCast_zero,gt_iff_lt,Int.lt_irrefl,decide_false,bP,bT,lB,not_true_eq_false,false_and,if_false]
        rfl
       ·have h4:(i:Int)>0:=by omega
        simp only [h4,decide_true,bO,Ue hlast hv,lB,bS,h3,not_false_eq_true,true_and]
        by_cases h5:M6 last (Q8 p q)≤0<;>simp [h5]
     ·have:(rt (M6 (Q8 p q) (Q8 p q))*rt (M6 (Q8 p q) (Q8 p q))==M6 (Q8 p q) (Q8 p q))=false:=by simpa using h1
      simp only [this,bX,bO,ne_eq,h1,not_false_eq_true,if_true]
   rw [CI]
   by_cases h1:rt (M6 (Q8 p q) (Q8 p q))*rt (M6 (Q8 p q) (Q8 p q))≠M6 (Q8 p q) (Q8 p q)
   ·rw [bQ h1]at hstep
    rw [C5 hstep,bQ h1];rfl
   ·rw [bR h1]at hstep ⊢
    by_cases h2:rt (M6 (Q8 p q) (Q8 p q))<1000∨rt (M6 (Q8 p q) (Q8 p q))>1048576
    ·rw [bQ h2]at hstep
     rw [C5 hstep,bQ h2];rfl
    ·rw [bR h2]at hstep ⊢
     by_cases h3:i=0
     ·subst h3
      rw [bR (by simp)]at hstep
      rw [K3 hstep,ih q (0+1) (Q8 p q) hi1 hv]
      simp
     ·by_cases h5:M6 last (Q8 p q)≤0
      ·rw [bQ ⟨h3,h5⟩]at hstep
       rw [C5 hstep]
       simp [h3,h5]
      ·rw [bR (fun h=>h5 h.2)]at hstep
       rw [K3 hstep,ih q (i+1) (Q8 p q) hi1 hv]
       simp [h3,h5]
theorem Xd (c:Curve)(hl:c.Pts.length≤1000000):Es c=some (Cc c.Pts):=by
  unfold Es Cc
  by_cases h1:c.Pts.length<2
  ·rw [bQ h1,show decide ((c.Pts.length:Int)<2)=true by simp;omega];rfl
  ·rw [bR h1,show decide ((c.Pts.length:Int)<2)=false by simp;omega]
   simp only [bP]
   by_cases h2:c.Pts.length>16
   ·rw [bQ h2,show decide ((c.Pts.length:Int)>16)=true by simp;omega];rfl
   ·rw [bR h2,show decide ((c.Pts.length:Int)>16)=false by simp;omega]
    simp only [bP,KF c.Pts hl,lB]
    cases h3:c.Pts.all Ud with
    |false=>rfl
    |true=>
     simp only [bW,bP,if_true]
     cases hp:c.Pts with
     |nil=>rw [hp]at h1;simp at h1
     |cons p r=>
      have:=ID c hl h3 r p 0 ⟨0,0⟩ (by rw [hp];rfl) ⟨by decide,by decide,by decide,by decide⟩
      rw [bQ rfl,show ((0:Nat):Int)=0 from rfl]at this
      rw [this]
      by_cases h4:QB none (p::r)=0
      ·rw [bQ h4,h4];rfl
      ·rw [bR h4];rfl
theorem XA (v w:CurveVector):M6 v w=M6 w v:=by unfold M6;rw [Int.mul_comm v.x,Int.mul_comm v.y]
theorem FO (c:Curve)(hl:c.Pts.length≤1000000): ∀(r:List Spot) (i:Nat),c.Pts.drop i=r→loop (Di c) (i:Int)=some (if r.all Ud then .inl ()else .inr 2):=by
  intro r
  induction r with
  |nil=>
   intro i hi
   have:=N1 hi
   refine C5 ?_
   unfold Di
   simp only [show ¬(i:Int)<c.Pts.length by omega,decide_false,bP,List.all_nil,if_true]
  |cons p r ih=>
   intro i hi
   have hlt:=M3 hi
   have hstep:Di c (i:Int)=if Ud p then some (.go ((i+1:Nat):Int))else some (.out (.inr 2)):=by
     unfold Di
     simp only [show (i:Int)<c.Pts.length by omega,decide_true,bO,Bq hi,lB,IC]
     cases h:Ud p with
     |true=>simp only [bW,bP,if_true];rw [E1 (by omega)];rfl
     |false=>simp
   cases h:Ud p with
   |true=>
    rw [h,bQ rfl]at hstep
    rw [K3 hstep,ih (i+1) (K2 hi)]
    simp [h]
   |false=>
    rw [h]at hstep
    rw [C5 hstep]
    simp [h]
theorem cK {v:CurveVector}(hv:YJ v): ∃l,Is (M6 v v)=some l∧(D2 (l*l) !=M6 v v)= !(rt (M6 v v)*rt (M6 v v)==M6 v v)∧(rt (M6 v v)*rt (M6 v v)=M6 v v→l=rt (M6 v v)):=by
  have hb:=TG hv hv
  obtain ⟨l,h1,h2,h3,h4,h5⟩:=KD (TH v) (by omega)
  have hmm:l*l≤134217728*134217728:=VB (by omega) (by omega)
  have hmm0:=Ph l
  refine ⟨l,h1,?_,fun h=>h5 (h4.2 h)⟩
  rw [E1 (by omega)]
  by_cases h:l*l=M6 v v
  ·simp [h,h4.1 h]
  ·have h': ¬rt (M6 v v)*rt (M6 v v)=M6 v v:=fun q=>h (h4.2 q)
   have e1:(l*l !=M6 v v)=true:=bne_iff_ne.2 h
   have e2:(rt (M6 v v)*rt (M6 v v)==M6 v v)=false:=beq_eq_false_iff_ne.2 h'
   rw [e1,e2];rfl
theorem FP (c:Curve)(hl:c.Pts.length≤1000000)(hok:c.Pts.all Ud=true): ∀(r:List Spot) (p:Spot) (i:Nat) (last:Option CurveVector),c.Pts.drop i=p::r→
    (i=0∧last=none∨∃j a,i=j+1∧c.Pts.drop j=a::p::r∧last=some (Q8 a p))→
    loop (Dh c) (i:Int)=some (if QB last (p::r)=0 then .inl ()else .inr (QB last (p::r))):=by
  intro r
  induction r with
  |nil=>
   intro p i last hi hlast
   have hlt:=M3 hi
   have:=N1 (K2 hi)
   refine C5 ?_
   unfold Dh
   rw [E1 (n:=(i:Int)+1) (by omega)]
   simp only [show ¬(i:Int)+1< (c.Pts.length:Int) by omega,decide_false,bP,QB,if_true]
  |cons q r ih=>
   intro p i last hi hlast
   have hlt:=M3 hi
   have hi1:=K2 hi
   have hlt1:=M3 hi1
   have hp:Ud p=true:=lY.1 hok p (List.mem_of_mem_drop (i:=i) (by rw [hi];simp))
   have hq:Ud q=true:=lY.1 hok q (List.mem_of_mem_drop (i:=i) (by rw [hi];simp))
   have hv:=CH hp hq
   have hg1:B8 c.Pts ((i:Int)+1)=some q:=by have:=Bq hi1;simpa using this
   obtain ⟨l,hl1,hl2,hl3⟩:=cK hv
   have hstep:Dh c (i:Int)=
    if rt (M6 (Q8 p q) (Q8 p q))*rt (M6 (Q8 p q) (Q8 p q))≠M6 (Q8 p q) (Q8 p q)then some (.out (.inr 3))
    else if rt (M6 (Q8 p q) (Q8 p q))<1000∨rt (M6 (Q8 p q) (Q8 p q))>1048576 then some (.out (.inr 2))
    else match last with
      |some u=>if M6 u (Q8 p q)≤0 then some (.out (.inr 12))else some (.go ((i+1:Nat):Int))
      |none=>some (.go ((i+1:Nat):Int)):=by
     unfold Dh
     rw [E1 (n:=(i:Int)+1) (by omega)]
     simp only [show (i:Int)+1< (c.Pts.length:Int) by omega,decide_true,bO,Bq hi,hg1,lB,Qg hp hq,Uf hv hv,hl1,hl2]
     by_cases h1:rt (M6 (Q8 p q) (Q8 p q))*rt (M6 (Q8 p q) (Q8 p q))=M6 (Q8 p q) (Q8 p q)
     ·simp only [h1,beq_self_eq_true,bW,bP,ne_eq,not_true_eq_false,if_false,hl3 h1]
      by_cases h2:rt (M6 (Q8 p q) (Q8 p q))<1000∨rt (M6 (Q8 p q) (Q8 p q))>1048576
      ·rw [bQ h2]
       have:(decide (rt (M6 (Q8 p q) (Q8 p q))<1000)||decide (rt (M6 (Q8 p q) (Q8 p q))>1048576))=true:=by simpa using h2
       rw [this];rfl
      ·rw [bR h2]
       have:(decide (rt (M6 (Q8 p q) (Q8 p q))<1000)||decide (rt (M6 (Q8 p q) (Q8 p q))>1048576))=false:=by simpa using h2
       rw [this]
       simp only [bP]
       rcases hlast with ⟨rfl,rfl⟩|⟨j,a,rfl,hj,rfl⟩
       ·simp only [Int.natCast_zero,gt_iff_lt,Int.lt_irrefl,decide_false,bP,bT,lB]
        rfl
       ·have h4:(((j+1:Nat):Int))>0:=by omega
        have ha:Ud a=true:=lY.1 hok a (List.mem_of_mem_drop (i:=j) (by rw [hj];simp))
        have hva:=CH ha hp
        have hgj:B8 c.Pts (D2 (((j+1:Nat):Int) - 1))=some a:=by
          rw [E1 (by omega),show (((j+1:Nat):Int) - 1)=(j:Int) by omega]
          exact Bq hj
        simp only [h4,decide_true,bO,hgj,lB,Qg ha hp,Uf hv hva,bS]
        rw [XA (Q8 p q) (Q8 a p)]
        by_cases h5:M6 (Q8 a p) (Q8 p q)≤0
        ·simp [h5]
        ·simp [h5]
     ·have:(rt (M6 (Q8 p q) (Q8 p q))*rt (M6 (Q8 p q) (Q8 p q))==M6 (Q8 p q) (Q8 p q))=false:=by simpa using h1
      simp only [this,bX,bO,ne_eq,h1,not_false_eq_true,if_true]
   rw [CI]
   have hrec:=ih q (i+1) (some (Q8 p q)) hi1 (.inr ⟨i,p,rfl,hi,rfl⟩)
   by_cases h1:rt (M6 (Q8 p q) (Q8 p q))*rt (M6 (Q8 p q) (Q8 p q))≠M6 (Q8 p q) (Q8 p q)
   ·rw [bQ h1]at hstep
    rw [C5 hstep,bQ h1];rfl
   ·rw [bR h1]at hstep ⊢
    by_cases h2:rt (M6 (Q8 p q) (Q8 p q))<1000∨rt (M6 (Q8 p q) (Q8 p q))>1048576
    ·rw [bQ h2]at hstep
     rw [C5 hstep,bQ h2];rfl
    ·rw [bR h2]at hstep ⊢
     cases last with
     |none=>rw [K3 hstep,hrec]
     |some u=>
      dsimp only at hstep ⊢
      by_cases h5:M6 u (Q8 p q)≤0
      ·rw [bQ h5]at hstep
       rw [C5 hstep];simp [h5]
      ·rw [bR h5]at hstep
       rw [K3 hstep,hrec];simp [h5]
theorem Xe (c:Curve)(hl:c.Pts.length≤1000000):Ld c=some (Cc c.Pts):=by
  unfold Ld Cc
  by_cases h1:c.Pts.length<2
  ·rw [bQ h1,show decide ((c.Pts.length:Int)<2)=true by simp;omega];rfl
  ·rw [bR h1,show decide ((c.Pts.length:Int)<2)=false by simp;omega]
   simp only [bP]
   by_cases h2:c.Pts.length>16
   ·rw [bQ h2,show decide ((c.Pts.length:Int)>16)=true by simp;omega];rfl
   ·rw [bR h2,show decide ((c.Pts.length:Int)>16)=false by simp;omega]
    have hg:=FO c hl c.Pts 0 (by simp)
    rw [show ((0:Nat):Int)=0 from rfl]at hg
    simp only [bP,hg]
    cases h3:c.Pts.all Ud with
    |false=>rfl
    |true=>
     simp only [if_true,thenS]
     cases hp:c.Pts with
     |nil=>rw [hp]at h1;simp at h1
     |cons p r=>
      have:=FP c hl h3 r p 0 none (by rw [hp];rfl) (.inl ⟨rfl,rfl⟩)
      rw [show ((0:Nat):Int)=0 from rfl]at this
      rw [this]
      by_cases h4:QB none (p::r)=0
      ·rw [bQ h4,h4]
      ·rw [bR h4]
/-- What a valid chain is. -/
inductive Good:Option CurveVector→List Spot→Prop
  |one (last:Option CurveVector) (p:Spot):Good last [p]
  |cons (last:Option CurveVector) (p q:Spot) (r:List Spot) (h1:rt (M6 (Q8 p q) (Q8 p q))*rt (M6 (Q8 p q) (Q8 p q))=M6 (Q8 p q) (Q8 p q)) (h2:1000≤rt (M6 (Q8 p q) (Q8 p q))) (h3:rt (M6 (Q8 p q) (Q8 p q))≤1048576)
     (h4: ∀u,last=some u→0<M6 u (Q8 p q)) (h:Good (some (Q8 p q)) (q::r)):Good last (p::q::r)
theorem QC: ∀(r:List Spot) (p:Spot) (last:Option CurveVector),QB last (p::r)=0→Good last (p::r):=by
  intro r
  induction r with
  |nil=>intro p last _;exact .one _ _
  |cons q r ih=>
   intro p last h
   rw [CI]at h
   split at h
   ·cases h
   ·rename_i h1
    split at h
    ·cases h
    ·rename_i h2
     have h1:rt (M6 (Q8 p q) (Q8 p q))*rt (M6 (Q8 p q) (Q8 p q))=M6 (Q8 p q) (Q8 p q):=by simpa using h1
     cases last with
     |none=>exact .cons _ _ _ _ h1 (by omega) (by omega) (fun u hu=>by cases hu) (ih q _ h)
     |some u=>
      dsimp only at h
      split at h
      ·cases h
      ·exact .cons _ _ _ _ h1 (by omega) (by omega) (fun u' hu=>by cases hu;omega) (ih q _ h)
theorem QD {last:Option CurveVector}{l:List Spot}(h:Good last l):QB last l=0:=by
  induction h with
  |one=>rfl
  |cons last p q r h1 h2 h3 h4 h ih=>
   rw [CI,bR (by simpa using h1),bR (by omega)]
   cases last with
   |none=>exact ih
   |some u=>dsimp only;rw [bR (by have:=h4 u rfl;omega)];exact ih
structure Valid (l:List Spot):Prop where
  two:2≤l.length
  most:l.length≤16
  ok:l.all Ud=true
  good:Good none l
theorem checkM_zero {l:List Spot}:Cc l=0↔Valid l:=by
  unfold Cc
  constructor
  ·intro h
   split at h
   ·cases h
   ·rename_i h1
    split at h
    ·cases h
    ·rename_i h2
     split at h
     ·rename_i h3
      cases l with
      |nil=>simp at h1
      |cons p r=>exact ⟨by omega,by omega,h3,QC r p none h⟩
     ·cases h
  ·rintro ⟨h1,h2,h3,h4⟩
   rw [bR (by omega),bR (by omega),bQ h3]
   exact QD h4
/-- The pieces of a chain: the number, the piece. -/
noncomputable def Ug:Nat→Int→List Spot→List (Int×CurvePiece)
  |i,s,p::q::r=>((i:Int),⟨p,Q8 p q,rt (M6 (Q8 p q) (Q8 p q)),s⟩)::Ug (i+1) (D2 (s+rt (M6 (Q8 p q) (Q8 p q)))) (q::r)
  |_,_,_=> []
theorem CJ (i:Nat)(s:Int)(p q:Spot)(r:List Spot):Ug i s (p::q::r)=((i:Int),⟨p,Q8 p q,rt (M6 (Q8 p q) (Q8 p q)),s⟩)::Ug (i+1) (D2 (s+rt (M6 (Q8 p q) (Q8 p q)))) (q::r):=by conv=>lhs;unfold Ug
theorem QE (pts:List Spot)(hok:pts.all Ud=true): ∀(r:List Spot) (p:Spot) (i:Nat) (s:Int),pts.drop i=p::r→Hy pts r.length i s=some (Ug i s (p::r)):=by
  intro r
  induction r with
  |nil=>intro p i s _;rfl
  |cons q r ih=>
   intro p i s hi
   have hi1:=K2 hi
   have hp:Ud p=true:=lY.1 hok p (List.mem_of_mem_drop (i:=i) (by rw [hi];simp))
   have hq:Ud q=true:=lY.1 hok q (List.mem_of_mem_drop (i:=i) (by rw [hi];simp))
   have hv:=CH hp hq
   have h0:pts[i]? =some p:=by have:=congrArg (fun z=>z[0]?) hi;simpa using this
   have h1:pts[i+1]? =some q:=by have:=congrArg (fun z=>z[0]?) hi1;simpa using this
   rw [lL,Hy,h0,h1]
   simp only [lB,Zf hp hq,Ue hv hv,Ze]
   rw [ih q (i+1) _ hi1,CJ]
   rfl
theorem TI {pts:List Spot}(h:Valid pts):Ra pts=some (Ug 0 0 pts):=by
  unfold Ra
  have:=h.most
  rw [bQ (by omega)]
  cases hp:pts with
  |nil=>have:=h.two;rw [hp]at this;simp at this
  |cons p r=>exact QE (p::r) (by rw [← hp];exact h.ok) r p 0 0 rfl
/-- The lengths. -/
noncomputable def Yn:List Spot→List Int
  |p::q::r=>rt (M6 (Q8 p q) (Q8 p q))::Yn (q::r)
  |_=> []
theorem Ss (p q:Spot)(r:List Spot):Yn (p::q::r)=rt (M6 (Q8 p q) (Q8 p q))::Yn (q::r):=by conv=>lhs;unfold Yn
theorem Rg: ∀(r:List Spot) (p:Spot),(Yn (p::r)).length=r.length
  | [],_=>rfl
  |q::r,p=>by rw [Ss,lL,Rg r q,lL]
theorem CK: ∀(r:List Spot) (p:Spot) (i:Nat) (s:Int),(Ug i s (p::r)).map (·.2.l)=Yn (p::r)
  | [],_,_,_=>rfl
  |q::r,p,i,s=>by rw [CJ,Ss,lR,CK r q]
theorem QF: ∀(L:List (Int×CurvePiece)) (out:List Int),out.length+L.length≤1000000000→loopL Ee (fun x=>x) L out=some (out++L.map (·.2.l)):=by
  intro L
  induction L with
  |nil=>intro out _;simp [loopL]
  |cons a L ih=>
   intro out h
   simp only [lL]at h
   have:Ee out a=some (.go (out++ [a.2.l])):=by
     unfold Ee
     rw [En (by simp;omega)];rfl
   rw [loopL,this]
   dsimp only
   rw [ih _ (by simp;omega)]
   simp
theorem FQ (c:Curve)(hl:c.Pts.length≤1000000):Et c=some (if Cc c.Pts=0 then Yn c.Pts else []):=by
  unfold Et
  rw [Xd c hl,lB]
  by_cases h:Cc c.Pts=0
  ·rw [bQ h,h]
   have hv:=checkM_zero.1 h
   have:=hv.most
   simp only [bne_self_eq_false,bP,TI hv,lB]
   cases hp:c.Pts with
   |nil=>have:=hv.two;rw [hp]at this;simp at this
   |cons p r=>
    have e:=CK r p 0 0
    rw [QF _ _ (by
     have:=congrArg List.length e
     rw [lS,Rg]at this
     rw [this];rw [hp]at hl;simp at hl ⊢;omega)]
    rw [e];rfl
  ·rw [bR h,show (Cc c.Pts !=0)=true from bne_iff_ne.2 h];rfl
theorem CL (c:Curve)(hl:c.Pts.length≤1000000)(hok:c.Pts.all Ud=true): ∀(r:List Spot) (p:Spot) (i:Nat) (out:List Int) (last:Option CurveVector),c.Pts.drop i=p::r→Good last (p::r)→out.length+r.length≤1000000→
    loop (Bw c) (out,(i:Int))=some (out++Yn (p::r)):=by
  intro r
  induction r with
  |nil=>
   intro p i out last hi _ _
   have hlt:=M3 hi
   have:=N1 (K2 hi)
   refine C5 ?_
   unfold Bw
   dsimp only
   rw [E1 (n:=(i:Int)+1) (by omega)]
   simp only [show ¬(i:Int)+1< (c.Pts.length:Int) by omega,decide_false,bP,Yn,lP]
  |cons q r ih=>
   intro p i out last hi hg ho
   have hlt:=M3 hi
   have hi1:=K2 hi
   have hlt1:=M3 hi1
   have hp:Ud p=true:=lY.1 hok p (List.mem_of_mem_drop (i:=i) (by rw [hi];simp))
   have hq:Ud q=true:=lY.1 hok q (List.mem_of_mem_drop (i:=i) (by rw [hi];simp))
   have hv:=CH hp hq
   have hg1:B8 c.Pts ((i:Int)+1)=some q:=by have:=Bq hi1;simpa using this
   obtain ⟨l,hl1,hl2,hl3⟩:=cK hv
   cases hg with
   |cons _ _ _ _ h1 h2 h3 h4 hg=>
    have hll:=hl3 h1
    subst hll
    simp only [lL]at ho
    have hstep:Bw c (out,(i:Int))=some (.go (out++ [rt (M6 (Q8 p q) (Q8 p q))],((i+1:Nat):Int))):=by
      unfold Bw
      dsimp only
      rw [E1 (n:=(i:Int)+1) (by omega)]
      simp only [show (i:Int)+1< (c.Pts.length:Int) by omega,decide_true,bO,Bq hi,hg1,lB,Qg hp hq,Uf hv hv,hl1]
      rw [En (by simp;omega)]
      rfl
    rw [K3 hstep,ih q (i+1) _ _ hi1 hg (by simp;omega),Ss]
    simp
theorem FR (c:Curve)(hl:c.Pts.length≤1000000):Ly c=some (if Cc c.Pts=0 then Yn c.Pts else []):=by
  unfold Ly
  rw [Xe c hl,lB]
  by_cases h:Cc c.Pts=0
  ·rw [bQ h,h]
   have hv:=checkM_zero.1 h
   simp only [bne_self_eq_false,bP]
   cases hp:c.Pts with
   |nil=>have:=hv.two;rw [hp]at this;simp at this
   |cons p r=>
    have:=CL c hl hv.ok r p 0 [] none (by rw [hp];rfl) (by rw [← hp];exact hv.good) (by rw [hp]at hl;simp at hl ⊢;omega)
    rw [show ((0:Nat):Int)=0 from rfl]at this
    rw [this];rfl
  ·rw [bR h,show (Cc c.Pts !=0)=true from bne_iff_ne.2 h];rfl
/-- A sum, as the programs take it. -/
def AL:Int→List Int→Int
  |s,[]=>s
  |s,a::l=>AL (D2 (s+a)) l
theorem CM (l:List Int)(hl:l.length≤1000000): ∀(r:List Int) (i:Nat) (s:Int),l.drop i=r→loop (Ae l) (s,(i:Int))=some (AL s r):=by
  intro r
  induction r with
  |nil=>
   intro i s hi
   have:=N1 hi
   refine C5 ?_
   unfold Ae
   simp only [show ¬(i:Int)<l.length by omega,decide_false,bP,AL]
  |cons a r ih=>
   intro i s hi
   have hlt:=M3 hi
   have hstep:Ae l (s,(i:Int))=some (.go (D2 (s+a),((i+1:Nat):Int))):=by
     unfold Ae
     simp only [show (i:Int)<l.length by omega,decide_true,bO,Bq hi,lB]
     rw [E1 (n:=(i:Int)+1) (by omega)];rfl
   rw [K3 hstep,ih (i+1) _ (K2 hi),AL]
theorem CN (l:List Int)(hl:l.length≤1000000): ∀(r:List Int) (i:Nat) (s:Int),l.drop i=r→loop (Ad l) (s,(i:Int))=some (AL s r):=by
  intro r
  induction r with
  |nil=>
   intro i s hi
   have:=N1 hi
   refine C5 ?_
   unfold Ad
   simp only [show ¬(i:Int)<l.length by omega,decide_false,bP,AL]
  |cons a r ih=>
   intro i s hi
   have hlt:=M3 hi
   have hstep:Ad l (s,(i:Int))=some (.go (D2 (s+a),((i+1:Nat):Int))):=by
     unfold Ad
     simp only [show (i:Int)<l.length by omega,decide_true,bO,Bq hi,lB]
     rw [E1 (n:=(i:Int)+1) (by omega)];rfl
   rw [K3 hstep,ih (i+1) _ (K2 hi),AL]
noncomputable def Ks (c:Curve):List Int:=if Cc c.Pts=0 then Yn c.Pts else []
theorem fY: ∀l:List Spot,(Yn l).length≤l.length
  | []=>by simp [Yn]
  |p::r=>by rw [Rg];simp
theorem IE (c:Curve):(Ks c).length≤c.Pts.length:=by
  unfold Ks
  split
  ·exact fY _
  ·simp
theorem Uv (c:Curve)(hl:c.Pts.length≤1000000):Ck c=some (AL 0 (Ks c)):=by
  unfold Ck
  rw [FQ c hl,lB]
  have:=IE c
  have h:=CM (Ks c) (by omega) (Ks c) 0 0 (by simp)
  rw [show ((0:Nat):Int)=0 from rfl]at h
  show (loop (Ae (Ks c)) (0,0)).bind _=_
  rw [h];rfl
theorem FS (c:Curve)(hl:c.Pts.length≤1000000):Ep c=some (AL 0 (Ks c)):=by
  unfold Ep
  rw [FR c hl,lB]
  have:=IE c
  have h:=CN (Ks c) (by omega) (Ks c) 0 0 (by simp)
  rw [show ((0:Nat):Int)=0 from rfl]at h
  show (loop (Ad (Ks c)) (0,0)).bind _=_
  rw [h];rfl
/-- A quarter turn, so many times. -/
def XB:Nat→CurveVector→CurveVector
  |0,v=>v
  |n+1,v=>XB n ⟨-v.y,v.x⟩
theorem NN: ∀(n:Nat) (v w:CurveVector),M6 (XB n v) (XB n w)=M6 v w
  |0,_,_=>rfl
  |n+1,v,w=>by rw [XB,XB,NN n];unfold M6;grind
/-- A piece's vector, made of numbers: in one quadrant. -/
def kE (n:Nat)(v:CurveVector):Prop:= ∃x y L:Int,v=XB n ⟨x,y⟩∧0<x∧0≤y∧x*x+y*y=L*L∧1000≤L∧L≤3029∧x≤L∧y≤L
inductive Ch (Q:CurveVector→Prop):List Spot→Prop
  |one (p:Spot):Ch Q [p]
  |cons (p q:Spot) (r:List Spot) (h:Q (Q8 p q)) (hr:Ch Q (q::r)):Ch Q (p::q::r)
theorem IF {n:Nat}: ∀(r:List Spot) (p:Spot) (last:Option CurveVector),Ch (kE n) (p::r)→(∀u,last=some u→kE n u)→Good last (p::r)
  | [],p,last,_,_=> .one _ _
  |q::r,p,last,hc,hl=>by
   cases hc with
   |cons _ _ _ h1 h2=>
    have hq:=h1
    obtain ⟨x,y,L,hv,hx,hy,hsq,hL1,hL2,hxL,hyL⟩:=h1
    have hd:M6 (Q8 p q) (Q8 p q)=L*L:=by rw [hv,NN];unfold M6;exact hsq
    have hrt:rt (M6 (Q8 p q) (Q8 p q))=L:=by rw [hd];exact cJ (by omega) (by omega)
    refine .cons _ _ _ _ (by rw [hrt,hd]) (by rw [hrt];exact hL1) (by rw [hrt];omega) (fun u hu=> ?_) (IF r q _ h2 (fun u hu=>by cases hu;exact hq))
    obtain ⟨x',y',L',hv',hx',hy',_⟩:=hl u hu
    rw [hv,hv',NN]
    unfold M6
    have:=Int.mul_pos hx' hx
    have:=wN hy' hy
    dsimp only
    omega
/-- What the curves made of numbers are like. -/
structure Made (l:List Spot):Prop where
  two:2≤l.length
  six:l.length≤6
  ch: ∃n,Ch (kE n) l
  bd: ∀p∈l, -50000≤p.X∧p.X≤50000∧ -50000≤p.Y∧p.Y≤50000
theorem Made.valid {l:List Spot}(h:Made l):Valid l:=by
  obtain ⟨n,hc⟩:=h.ch
  have:=h.two;have:=h.six
  refine ⟨h.two,by omega,lY.2 fun p hp=>okS_iff.2 (by have:=h.bd p hp;omega),?_⟩
  match l,h,hc with
  |p::r,_,hc=>exact IF r p none hc (fun u hu=>by cases hu)
  | [],h,_=>exact absurd h.two (by simp)
/-! ### Loops that look for the first error -/
def H9 {α β:Type}(g:Nat→α→Option β):Nat→List α→Option β
  |_,[]=>none
  |i,a::r=>match g i a with
   |some e=>some e
   |none=>H9 g (i+1) r
def CO {β:Type}:Option β→Sum Unit β
  |some e=> .inr e
  |none=> .inl ()
theorem W3 {α β:Type}(l:List α)(F:Int→Option (Stp Int (Sum Unit β)))(g:Nat→α→Option β)(hF: ∀(i:Nat) a,l[i]? =some a→F (i:Int)=some (match g i a with|some e=> .out (.inr e)|none=> .go ((i+1:Nat):Int)))(h0:F (l.length:Int)=some (.out (.inl ()))):
    loop F 0=some (CO (H9 g 0 l)):=by
  have key: ∀(r:List α) (i:Nat),l.drop i=r→i≤l.length→loop F (i:Int)=some (CO (H9 g i r)):=by
    intro r
    induction r with
    |nil=>
     intro i hi hil
     have:i=l.length:=by have:=List.drop_eq_nil_iff.1 hi;omega
     subst this
     exact C5 h0
    |cons a r ih=>
     intro i hi hil
     have hlt:i<l.length:=by
       rcases Nat.lt_or_ge i l.length with q|q
       ·exact q
       ·rw [List.drop_eq_nil_of_le q]at hi;cases hi
     have ha:l[i]? =some a:=by have:=congrArg (fun z=>z[0]?) hi;simpa using this
     have hr:l.drop (i+1)=r:=by have:=congrArg (fun z=>z.drop 1) hi;simpa using this
     have hs:=hF i a ha
     unfold H9
     cases hg:g i a with
     |some e=>rw [hg]at hs;exact C5 hs
     |none=>rw [hg]at hs;rw [K3 hs];exact ih (i+1) hr (by omega)
  have:=key l 0 rfl (by omega)
  exact this
theorem firstE_none {α β:Type}{g:Nat→α→Option β}: ∀{l:List α} {i:Nat},H9 g i l=none↔∀(j:Nat) a,l[j]? =some a→g (i+j) a=none
  | [],i=>by simp [H9]
  |a::r,i=>by
   unfold H9
   cases h:g i a with
   |some e=>
    constructor
    ·intro h';cases h'
    ·intro h';have:=h' 0 a rfl;rw [Nat.add_zero,h]at this;cases this
   |none=>
    dsimp only
    rw [firstE_none (l:=r)]
    constructor
    ·intro h' j b hj
     cases j with
     |zero=>cases hj;exact h
     |succ j=>have:=h' j b hj;rwa [show i+1+j=i+ (j+1) by omega]at this
    ·intro h' j b hj
     have:=h' (j+1) b hj
     rwa [show i+ (j+1)=i+1+j by omega]at this
/-! ### Numbers -/
def Tg (n a b:Int):Bool:=decide (a≤n)&&decide (n≤b)
theorem Pk (n a b:Int):Cj n a b=some (Tg n a b):=rfl
theorem Qh (n a b:Int):Ci n a b=some (Tg n a b):=rfl
def T6 (kind:Int):Int×Int×Int:=if kind=1 then (2000,30,90)else if kind=2 then (1000,20,60)else if kind=3 then (300,100,300)else (0,0,0)
theorem Su (k:Int):Er k=some (T6 k):=by
  unfold Er T6
  by_cases h:k<0∨k≥4
  ·rw [show ((decide (k<0))||(decide (k≥4)))=true by simpa using h,bO,bR (by omega),bR (by omega),bR (by omega)]
  ·rw [show ((decide (k<0))||(decide (k≥4)))=false by rw [bZ];simpa using h,bP]
   obtain ⟨h1,h2⟩:=not_or.1 h
   rcases (show k=0∨k=1∨k=2∨k=3 by omega)with rfl|rfl|rfl|rfl<;>rfl
theorem Nk (k:Int):Cg k=some (T6 k):=by
  unfold Cg T6
  by_cases h1:k=1
  ·subst h1;rfl
  ·by_cases h2:k=2
   ·subst h2;rfl
   ·by_cases h3:k=3
    ·subst h3;rfl
    ·rw [bR h1,bR h2,bR h3]
     rw [show (k==1)=false by simpa using h1,show (k==2)=false by simpa using h2,show (k==3)=false by simpa using h3];rfl
theorem NY {n:Int}(h: -9223372036854775808≤n∧n≤9223372036854775807):D2 n=n:=Go.IntWalk.i64_in n h
theorem B9 {α:Type}{l:List α}{i:Nat}{a:α}(h:l[i]? =some a):B8 l (i:Int)=some a:=by
  unfold B8;rw [bQ (by omega),wF];exact h
theorem H8 {α:Type}{l:List α}{i:Nat}{a:α}(h:l[i]? =some a):i<l.length:=(lI.1 h).1
theorem GC {α:Type}(c:Bool)(a b:α):cond c (some a) (some b)=some (cond c a b):=by cases c<;>rfl
def Bt (high:Int):Int→List Int→Bool
  |_,[]=>true
  |low,n::r=>decide (low≤n)&&decide (n<high)&&Bt high (n+1) r
theorem DR (l:List Int)(low high:Int)(hl:l.length≤1000000)(hh:high≤1000000000)(h0:0≤low):Ax l low high=some (Bt high low l):=by
  have key: ∀(r:List Int) (i:Nat) (lo:Int),0≤lo→l.drop i=r→i≤l.length→loop (By l high) (lo,(i:Int))=some (if Bt high lo r then .inl ()else .inr false):=by
    intro r
    induction r with
    |nil=>
     intro i lo _ hi hil
     have:=N1 hi
     refine C5 ?_
     unfold By
     dsimp only
     rw [show decide ((i:Int)< (l.length:Int))=false from bK (by omega)];rfl
    |cons n r ih=>
     intro i lo hlo hi hil
     have hlt:=M3 hi
     have hs:By l high (lo,(i:Int))=some (if decide (lo≤n)&&decide (n<high)then .go (n+1,((i+1:Nat):Int))else .out (.inr false)):=by
       unfold By
       dsimp only
       rw [show decide ((i:Int)< (l.length:Int))=true from bJ (by omega),Bq hi,bO,lB,NY (n:=(i:Int)+1) (by omega)]
       by_cases q:lo≤n∧n<high
       ·rw [show ((decide (n<lo))||(decide (n≥high)))=false by rw [bZ];simp;omega,bP,NY (n:=n+1) (by omega),bQ (by simpa using q)];rfl
       ·rw [show ((decide (n<lo))||(decide (n≥high)))=true by simp;omega,bO,bR (by simpa using q)]
     unfold Bt
     cases q:(decide (lo≤n)&&decide (n<high))
     ·rw [q]at hs;rw [C5 hs];rfl
     ·rw [q]at hs
      simp only [bU,bM]at q
      rw [K3 hs,ih (i+1) (n+1) (by omega) (K2 hi) (by omega)];rfl
  unfold Ax
  have:=key l 0 low h0 rfl (by omega)
  rw [show ((0:Nat):Int)=0 from rfl]at this
  rw [this]
  cases Bt high low l<;>rfl
theorem AM (l:List Int)(low high:Int)(hl:l.length≤1000000):Fg l low high=some (Bt high low l):=by
  have key: ∀(r:List Int) (i:Nat) (lo:Int),low≤lo→(i=0→lo=low)→(0<i→l[i - 1]? =some (lo - 1))→l.drop i=r→i≤l.length→loop (Ao l low high) (i:Int)=some (if Bt high lo r then .inl ()else .inr false):=by
    intro r
    induction r with
    |nil=>
     intro i lo _ _ _ hi hil
     have:=N1 hi
     refine C5 ?_
     unfold Ao
     rw [show decide ((i:Int)< (l.length:Int))=false from bK (by omega)];rfl
    |cons n r ih=>
     intro i lo hlo h0 h1 hi hil
     have hlt:=M3 hi
     have hn:l[i]? =some n:=by have:=congrArg (fun z=>z[0]?) hi;simpa using this
     have hs:Ao l low high (i:Int)=some (if decide (lo≤n)&&decide (n<high)then .go ((i+1:Nat):Int)else .out (.inr false)):=by
       unfold Ao
       rw [show decide ((i:Int)< (l.length:Int))=true from bJ (by omega),Bq hi,bO,lB,GC,lB,GC,lB,NY (n:=(i:Int)+1) (by omega)]
       by_cases q1:n<low
       ·rw [bJ q1,bR (by simp;omega)];rfl
       ·rw [bK q1]
        simp only [bX,bO,bY]
        by_cases q2:n≥high
        ·rw [bJ q2,bR (by simp;omega)];rfl
        ·rw [bK q2]
         simp only [bX,bS,bY]
         by_cases q3:(i:Int)>0
         ·have e:B8 l (D2 ((i:Int) - 1))=some (lo - 1):=by
            rw [NY (n:=(i:Int) - 1) (by omega),show (i:Int) - 1=((i - 1:Nat):Int) by omega]
            exact B9 (h1 (by omega))
          rw [bJ q3,bO,bO,e,lB,bS]
          by_cases q4:n≤lo - 1
          ·rw [bJ q4,bR (by simp;omega)];rfl
          ·rw [bK q4,bQ (by simp;omega)];rfl
         ·have:lo=low:=h0 (by omega)
          rw [bK q3,bP,lB,bT,bQ (by simp;omega)];rfl
     unfold Bt
     cases q:(decide (lo≤n)&&decide (n<high))
     ·rw [q]at hs;rw [C5 hs];rfl
     ·rw [q]at hs
      simp only [bU,bM]at q
      rw [K3 hs,ih (i+1) (n+1) (by omega) (fun z=>by omega) (fun _=>by rw [Nat.add_sub_cancel,hn];congr 1;omega) (K2 hi) (by omega)];rfl
  unfold Fg
  have:=key l 0 low (Int.le_refl _) (fun _=>rfl) (fun z=>by omega) rfl (by omega)
  rw [show ((0:Nat):Int)=0 from rfl]at this
  rw [this]
  cases Bt high low l<;>rfl
noncomputable def Pe (c:Curve):Int:=AL 0 (Ks c)
theorem fZ {m:Map}{i:Nat}{l:Lane}(h:m.Lanes[i]? =some l)(hl:l.Curve_.Pts.length≤1000000):Ca m (i:Int)=some (Pe l.Curve_):=by
  unfold Ca
  rw [B9 h,lB,Uv _ hl];rfl
/-- The lists of a map are of bearable lengths. -/
structure Bear (m:Map):Prop where
  lanes:m.Lanes.length≤1000000
  pts: ∀l∈m.Lanes,l.Curve_.Pts.length≤1000000∧l.Next.length≤1000000
noncomputable def laneE (n:Nat)(i:Nat)(l:Lane):Option Int:=
  if (T6 l.Kind).1=0 then some 4
  else if Cc l.Curve_.Pts≠0 then some (Cc l.Curve_.Pts)
  else if (Tg l.Half 200 4000&&Tg l.Limit 1 (T6 l.Kind).1)=false then some 2
  else if 3<l.Next.length then some 8
  else if Bt n (i+1) l.Next=false then some 11 else none
theorem cL {m:Map}(B:Bear m):T9 ⟨m⟩=some ((H9 (laneE m.Lanes.length) 0 m.Lanes).getD 0):=by
  have h:=W3 m.Lanes (Q0 ⟨m⟩) (laneE m.Lanes.length) (fun i l hl=>by
    have hi:=H8 hl
    have hb:=B.lanes
    obtain ⟨p1,p2⟩:=B.pts l (lG hl)
    unfold Q0 laneE
    dsimp only
    rw [show decide ((i:Int)< (m.Lanes.length:Int))=true from bJ (by omega),B9 hl,bO,lB,Su,lB,Xd _ p1,lB,Pk,Pk,lB,GC,lB,NY (n:=(i:Int)+1) (by omega),DR _ _ _ p2 (by omega) (by omega),lB]
    by_cases h1:(T6 l.Kind).1=0
    ·rw [bQ h1,show ((T6 l.Kind).1==0)=true by simpa using h1];rfl
    ·rw [bR h1,show ((T6 l.Kind).1==0)=false by simpa using h1,bP]
     by_cases h2:Cc l.Curve_.Pts≠0
     ·rw [bQ h2,show (Cc l.Curve_.Pts !=0)=true by simpa using h2];rfl
     ·rw [bR h2,show (Cc l.Curve_.Pts !=0)=false by simpa using h2,bP]
      cases Tg l.Half 200 4000
      ·rfl
      ·cases Tg l.Limit 1 (T6 l.Kind).1
       ·rfl
       ·simp only [bW,bX,bO,bP,bY,Bool.and_self]
        rw [bR (by decide)]
        by_cases h3:3<l.Next.length
        ·rw [bQ h3,show decide ((l.Next.length:Int)>3)=true from bJ (by omega)];rfl
        ·rw [bR h3,show decide ((l.Next.length:Int)>3)=false from bK (by omega),bP]
         cases Bt (m.Lanes.length:Int) ((i:Int)+1) l.Next<;>rfl) (by
    unfold Q0
    dsimp only
    rw [show decide ((m.Lanes.length:Int)< (m.Lanes.length:Int))=false from bK (by omega)];rfl)
  unfold T9
  rw [h]
  cases H9 (laneE m.Lanes.length) 0 m.Lanes<;>rfl
theorem cM (k:Int):((decide (k<1))||(decide (k>3)))=decide ((T6 k).1=0):=by
  unfold T6
  by_cases h1:k=1
  ·subst h1;rfl
  ·by_cases h2:k=2
   ·subst h2;rfl
   ·by_cases h3:k=3
    ·subst h3;rfl
    ·rw [bR h1,bR h2,bR h3]
     simp only [decide_true,bV,bM]
     omega
theorem cN {m:Map}(B:Bear m){i:Nat}{l:Lane}(hl:m.Lanes[i]? =some l):Hr m (i:Int)=some ((laneE m.Lanes.length i l).getD 0):=by
  have hi:=H8 hl
  have hb:=B.lanes
  obtain ⟨p1,p2⟩:=B.pts l (lG hl)
  unfold Hr laneE
  rw [B9 hl,lB,cM,Xe _ p1,lB,Nk,lB,Qh,Qh,lB,GC,lB,NY (n:=(i:Int)+1) (by omega),AM _ _ _ p2,lB]
  by_cases h1:(T6 l.Kind).1=0
  ·rw [bQ h1,bJ h1];rfl
  ·rw [bR h1,bK h1,bP]
   by_cases h2:Cc l.Curve_.Pts≠0
   ·rw [bQ h2,show (Cc l.Curve_.Pts !=0)=true by simpa using h2];rfl
   ·rw [bR h2,show (Cc l.Curve_.Pts !=0)=false by simpa using h2,bP]
    cases Tg l.Half 200 4000
    ·rfl
    ·cases Tg l.Limit 1 (T6 l.Kind).1
     ·rfl
     ·simp only [bW,bX,bO,bP,bY,Bool.and_self]
      rw [bR (by decide)]
      by_cases h3:3<l.Next.length
      ·rw [bQ h3,show decide ((l.Next.length:Int)>3)=true from bJ (by omega)];rfl
      ·rw [bR h3,show decide ((l.Next.length:Int)>3)=false from bK (by omega),bP]
       cases Bt (m.Lanes.length:Int) ((i:Int)+1) l.Next<;>rfl
theorem IG {n i:Nat}{l:Lane}{e:Int}(h:laneE n i l=some e):e≠0:=by
  unfold laneE at h
  split at h
  ·cases h;decide
  ·split at h
   ·rename_i h2;cases h;exact h2
   ·split at h
    ·cases h;decide
    ·split at h
     ·cases h;decide
     ·split at h
      ·cases h;decide
      ·cases h
theorem QG {m:Map}(B:Bear m):loop (Dj m) 0=some (CO (H9 (laneE m.Lanes.length) 0 m.Lanes)):=
  W3 m.Lanes (Dj m) (laneE m.Lanes.length) (fun i l hl=>by
   have hi:=H8 hl
   have hb:=B.lanes
   unfold Dj
   rw [show decide ((i:Int)< (m.Lanes.length:Int))=true from bJ (by omega),cN B hl,bO,lB,NY (n:=(i:Int)+1) (by omega)]
   cases h:laneE m.Lanes.length i l with
   |none=>rfl
   |some e=>
    rw [Option.getD_some,show (e !=0)=true by simpa using IG h];rfl) (by
   unfold Dj
   rw [show decide ((m.Lanes.length:Int)< (m.Lanes.length:Int))=false from bK (by omega)];rfl)
theorem Jo {high:Int}: ∀{l:List Int} {low:Int},Bt high low l=true→∀k∈l,low≤k∧k<high
  | [],_,_,k,hk=>by cases hk
  |n::r,low,h,k,hk=>by
   unfold Bt at h
   simp only [bU,bM]at h
   rcases lU.1 hk with rfl|hk
   ·exact h.1
   ·have:=Jo h.2 k hk
    omega
/-- What a lane is that has no error of its own. -/
structure LaneOK (n i:Nat)(l:Lane):Prop where
  kind:(T6 l.Kind).1≠0
  curve:Cc l.Curve_.Pts=0
  half:Tg l.Half 200 4000=true
  limit:Tg l.Limit 1 (T6 l.Kind).1=true
  few:l.Next.length≤3
  next:Bt n (i+1) l.Next=true
theorem TJ {n i:Nat}{l:Lane}(h:laneE n i l=none):LaneOK n i l:=by
  unfold laneE at h
  split at h
  ·cases h
  ·rename_i h1
   split at h
   ·cases h
   ·rename_i h2
    split at h
    ·cases h
    ·rename_i h3
     split at h
     ·cases h
     ·rename_i h4
      split at h
      ·cases h
      ·rename_i h5
       simp only [Bool.not_eq_false,bU]at h3
       exact ⟨h1,Decidable.not_not.1 h2,h3.1,h3.2,by omega,by simpa using h5⟩
theorem Xf {m:Map}(h:H9 (laneE m.Lanes.length) 0 m.Lanes=none){i:Nat}{l:Lane}(hl:m.Lanes[i]? =some l):LaneOK m.Lanes.length i l:=by
  have:=firstE_none.1 h i l hl
  rw [wK]at this
  exact TJ this
theorem DS {l:List Spot}(h:Cc l=0):2≤l.length:=by
  unfold Cc at h
  split at h
  ·cases h
  ·omega
def Zg (l:List Spot):Spot:=l.headD ⟨0,0⟩
def Uw (l:List Spot):Spot:=l.getLastD ⟨0,0⟩
theorem LH {l:List Spot}(h:2≤l.length):B8 l 0=some (Zg l):=by
  cases l with
  |nil=>simp at h
  |cons a r=>rfl
theorem LI {l:List Spot}(h:2≤l.length)(hl:l.length≤1000000):B8 l (D2 ((l.length:Int) - 1))=some (Uw l):=by
  rw [NY (by omega),show (l.length:Int) - 1=((l.length - 1:Nat):Int) by omega]
  refine B9 ?_
  unfold Uw
  rw [List.getLastD_eq_getLast?,List.getLast?_eq_getElem?]
  rw [lH (by omega)];rfl
def QH (a b:Spot):Bool:=a.X==b.X&& (a.Y==b.Y&&true)
def Xg (m:Map)(l:Lane)(_:Nat)(k:Int):Option Int:=
  match m.Lanes[k.toNat]? with
  |some n=>if n.Kind≠l.Kind then some 4 else if QH (Zg n.Curve_.Pts) (Uw l.Curve_.Pts)=false then some 3 else none
  |none=>none
def nextE (m:Map)(_:Nat)(l:Lane):Option Int:=H9 (Xg m l) 0 l.Next
theorem IH {m:Map}(B:Bear m)(H:H9 (laneE m.Lanes.length) 0 m.Lanes=none){i:Nat}{l:Lane}(hl:m.Lanes[i]? =some l){j:Nat}{k:Int}(hk:l.Next[j]? =some k):
    ∃n,B8 m.Lanes k=some n∧m.Lanes[k.toNat]? =some n∧2≤n.Curve_.Pts.length∧n.Curve_.Pts.length≤1000000:=by
  have L:=Xf H hl
  have hb:=Jo L.next k (lG hk)
  have hlt:k.toNat<m.Lanes.length:=by omega
  refine ⟨m.Lanes[k.toNat],?_,lH hlt,DS (Xf H (lH hlt)).curve,(B.pts _ (List.getElem_mem hlt)).1⟩
  unfold B8
  rw [bQ (by omega),lH hlt]
theorem XC {m:Map}{l:Lane}{j:Nat}{k e:Int}(h:Xg m l j k=some e):e≠0:=by
  unfold Xg at h
  split at h
  ·split at h
   ·cases h;decide
   ·split at h
    ·cases h;decide
    ·cases h
  ·cases h
theorem LJ {m:Map}(B:Bear m)(H:H9 (laneE m.Lanes.length) 0 m.Lanes=none){i:Nat}{l:Lane}(hl:m.Lanes[i]? =some l):
    loop (W2 ⟨m⟩ l (Uw l.Curve_.Pts)) 0=some (CO (nextE m i l))∧loop (Ap m l) 0=some (CO (nextE m i l)):=by
  have L:=Xf H hl
  obtain ⟨p1,p2⟩:=B.pts l (lG hl)
  constructor
  ·refine W3 l.Next _ (Xg m l) (fun j k hk=> ?_) ?_
   ·have hj:=H8 hk
    obtain ⟨n,g1,g2,g3,g4⟩:=IH B H hl hk
    unfold W2 Xg
    dsimp only
    rw [show decide ((j:Int)< (l.Next.length:Int))=true from bJ (by omega),B9 hk,bO,lB,g1,lB,lB,LH g3,lB,NY (n:=(j:Int)+1) (by omega),g2]
    dsimp only
    rw [show ((Zg n.Curve_.Pts).X==(Uw l.Curve_.Pts).X&& ((Zg n.Curve_.Pts).Y==(Uw l.Curve_.Pts).Y&&true))=QH (Zg n.Curve_.Pts) (Uw l.Curve_.Pts) from rfl]
    by_cases h1:n.Kind≠l.Kind
    ·rw [bQ h1,show (n.Kind !=l.Kind)=true by simpa using h1];rfl
    ·rw [bR h1,show (n.Kind !=l.Kind)=false by simpa using h1]
     cases QH (Zg n.Curve_.Pts) (Uw l.Curve_.Pts)<;>rfl
   ·unfold W2
    rw [show decide ((l.Next.length:Int)< (l.Next.length:Int))=false from bK (by omega)];rfl
  ·refine W3 l.Next _ (Xg m l) (fun j k hk=> ?_) ?_
   ·have hj:=H8 hk
    obtain ⟨n,g1,g2,g3,g4⟩:=IH B H hl hk
    unfold Ap Xg
    rw [show decide ((j:Int)< (l.Next.length:Int))=true from bJ (by omega),B9 hk,bO,lB,g1,lB,LH g3,lB,LI (DS L.curve) p1,lB,NY (n:=(j:Int)+1) (by omega),g2]
    dsimp only
    rw [show ((Zg n.Curve_.Pts).X==(Uw l.Curve_.Pts).X&& ((Zg n.Curve_.Pts).Y==(Uw l.Curve_.Pts).Y&&true))=QH (Zg n.Curve_.Pts) (Uw l.Curve_.Pts) from rfl]
    by_cases h1:n.Kind≠l.Kind
    ·rw [bQ h1,show (n.Kind !=l.Kind)=true by simpa using h1];rfl
    ·rw [bR h1,show (n.Kind !=l.Kind)=false by simpa using h1]
     cases QH (Zg n.Curve_.Pts) (Uw l.Curve_.Pts)<;>rfl
   ·unfold Ap
    rw [show decide ((l.Next.length:Int)< (l.Next.length:Int))=false from bK (by omega)];rfl
theorem LK {m:Map}(B:Bear m)(H:H9 (laneE m.Lanes.length) 0 m.Lanes=none):
    S6 ⟨m⟩=some ((H9 (nextE m) 0 m.Lanes).getD 0)∧Ht m=some ((H9 (nextE m) 0 m.Lanes).getD 0):=by
  have hb:=B.lanes
  constructor
  ·have h:=W3 m.Lanes (P1 ⟨m⟩) (nextE m) (fun i l hl=>by
     have hi:=H8 hl
     have L:=Xf H hl
     obtain ⟨p1,p2⟩:=B.pts l (lG hl)
     unfold P1
     dsimp only
     rw [show decide ((i:Int)< (m.Lanes.length:Int))=true from bJ (by omega),B9 hl,bO,lB,LI (DS L.curve) p1,lB,(LJ B H hl).1,NY (n:=(i:Int)+1) (by omega)]
     cases nextE m i l<;>rfl) (by
     unfold P1
     dsimp only
     rw [show decide ((m.Lanes.length:Int)< (m.Lanes.length:Int))=false from bK (by omega)];rfl)
   unfold S6
   rw [h]
   cases H9 (nextE m) 0 m.Lanes<;>rfl
  ·have h:=W3 m.Lanes (Aq m) (nextE m) (fun i l hl=>by
     have hi:=H8 hl
     unfold Aq
     rw [show decide ((i:Int)< (m.Lanes.length:Int))=true from bJ (by omega),B9 hl,bO,lB,(LJ B H hl).2,NY (n:=(i:Int)+1) (by omega)]
     cases nextE m i l<;>rfl) (by
     unfold Aq
     rw [show decide ((m.Lanes.length:Int)< (m.Lanes.length:Int))=false from bK (by omega)];rfl)
   unfold Ht
   rw [h]
   cases H9 (nextE m) 0 m.Lanes<;>rfl
/-- The place of the first element with a property. -/
theorem II {α:Type}{f:Int→Option (Stp Int (Sum Unit Int))}(l:List α)(P:α→Bool)(hl:l.length≤1000000000)(hf: ∀(i:Nat) a,l[i]? =some a→f (i:Int)=some (if P a then .out (.inr (i:Int))else .go (D2 ((i:Int)+1))))(he:f (l.length:Int)=some (.out (.inl ()))):
    loop f 0=some (match l.findIdx? P with|some i=> .inr (i:Int)|none=> .inl ()):=by
  have key: ∀(r:List α) (i:Nat),l.drop i=r→i≤l.length→loop f (i:Int)=some (match r.findIdx? P with|some j=> .inr ((i+j:Nat):Int)|none=> .inl ()):=by
    intro r
    induction r with
    |nil=>
     intro i hi hil
     have:=N1 hi
     obtain rfl:i=l.length:=by omega
     rw [C5 he];rfl
    |cons a r ih=>
     intro i hi _
     have hlt:=M3 hi
     have h0:l[i]? =some a:=by have:=congrArg (fun z=>z[0]?) hi;simpa using this
     have hs:=hf i a h0
     rw [List.findIdx?_cons]
     by_cases hp:P a=true
     ·rw [bQ hp]at hs
      rw [C5 hs,bQ hp];simp
     ·rw [bR hp]at hs
      rw [E1 (by omega)]at hs
      rw [K3 hs,show ((i:Int)+1)=((i+1:Nat):Int) by omega,ih (i+1) (K2 hi) (by omega),bR hp]
      cases r.findIdx? P with
      |none=>rfl
      |some j=>simp only [lF];congr 3;omega
  have:=key l 0 rfl (by omega)
  rw [show ((0:Nat):Int)=0 from rfl]at this
  rw [this]
  cases l.findIdx? P<;>simp
/-- -1, or the place. -/
def CP {α:Type}(P:α→Bool)(l:List α):Int:=match l.findIdx? P with|some i=>(i:Int)|none=> -1
theorem Xh {α:Type}(P:α→Bool)(l:List α):decide (CP P l≥0)=l.any P:=by
  unfold CP
  cases h:l.findIdx? P with
  |none=>
   have:=List.findIdx?_eq_none_iff.1 h
   rw [show l.any P=false by rw [List.any_eq_false];intro x hx;simpa using this x hx]
   decide
  |some i=>
   have:=List.findIdx?_isSome (xs:=l) (p:=P)
   rw [h]at this
   rw [← this]
   simp
/-- What both twins compute of a list. -/
theorem Oa {α:Type}{f:Int→Option (Stp Int (Sum Unit Int))}(l:List α)(P:α→Bool)(hl:l.length≤1000000000)(hf: ∀(i:Nat) a,l[i]? =some a→f (i:Int)=some (if P a then .out (.inr (i:Int))else .go (D2 ((i:Int)+1))))(he:f (l.length:Int)=some (.out (.inl ()))):
    thenS (loop f 0) (fun _=>some (-1)) (fun r=>some r)=some (CP P l):=by
  rw [II l P hl hf he]
  unfold CP
  cases l.findIdx? P<;>rfl
theorem XD (l:List Phase)(hl:l.length≤1000000):D9 l=some (l.any fun p=> !Tg p.Ticks 1 10000):=by
  unfold D9 G4
  rw [Oa l (fun p=> !Tg p.Ticks 1 10000) (by omega) (fun i a h=>by
   have:=H8 h
   unfold J9 Dt
   rw [show decide ((i:Int)< (l.length:Int))=true from bJ (by omega),B9 h,bO,lB,Pk,lB,lB]
   cases Tg a.Ticks 1 10000<;>rfl) (by
   unfold J9
   simp)]
  rw [lB,Xh]
theorem TK (m:Map)(l:List Phase)(hl:l.length≤1000000)(hm:m.Lanes.length≤1000000)(hg: ∀p∈l,p.Green.length≤1000000):D8 l ⟨m⟩=some (l.any fun p=> !Bt m.Lanes.length 0 p.Green):=by
  unfold D8 G0
  rw [Oa l (fun p=> !Bt m.Lanes.length 0 p.Green) (by omega) (fun i a h=>by
   have:=H8 h
   unfold D7 R7
   dsimp only
   rw [show decide ((i:Int)< (l.length:Int))=true from bJ (by omega),B9 h,bO,lB,DR _ _ _ (hg a (lG h)) (by omega) (by omega),lB,lB]
   cases Bt (m.Lanes.length:Int) 0 a.Green<;>rfl) (by
   unfold D7
   simp)]
  rw [lB,Xh]
structure BearS (m:Map):Prop where
  many:m.Signals.length≤1000000
  phases: ∀s∈m.Signals,s.Phases.length≤1000000∧∀p∈s.Phases,p.Green.length≤1000000
def signalE (m:Map)(_:Nat)(s:Signal):Option Int:=
  if s.Phases.length=0 then some 6
  else if 6<s.Phases.length then some 8
  else if Tg s.Offset 0 1099511627776=false then some 2
  else if (s.Phases.any fun p=> !Tg p.Ticks 1 10000)=true then some 2
  else if (s.Phases.any fun p=> !Bt m.Lanes.length 0 p.Green)=true then some 11 else none
theorem TL {m:Map}(B:Bear m)(S:BearS m):R4 ⟨m⟩=some ((H9 (signalE m) 0 m.Signals).getD 0):=by
  have h:=W3 m.Signals (O2 ⟨m⟩) (signalE m) (fun i s hs=>by
    have hi:=H8 hs
    have hb:=S.many
    obtain ⟨p1,p2⟩:=S.phases s (lG hs)
    unfold O2 signalE
    dsimp only
    rw [show decide ((i:Int)< (m.Signals.length:Int))=true from bJ (by omega),B9 hs,bO,lB,Pk,lB,XD _ p1,lB,TK m _ p1 B.lanes p2,lB,NY (n:=(i:Int)+1) (by omega)]
    by_cases h1:s.Phases.length=0
    ·rw [bQ h1,h1];rfl
    ·rw [bR h1,show ((s.Phases.length:Int)==0)=false by simp only [beq_eq_false_iff_ne];omega,bP]
     by_cases h2:6<s.Phases.length
     ·rw [bQ h2,show decide ((s.Phases.length:Int)>6)=true from bJ (by omega)];rfl
     ·rw [bR h2,show decide ((s.Phases.length:Int)>6)=false from bK (by omega),bP]
      cases Tg s.Offset 0 1099511627776
      ·rfl
      ·cases (s.Phases.any fun p=> !Tg p.Ticks 1 10000)
       ·cases (s.Phases.any fun p=> !Bt m.Lanes.length 0 p.Green)<;>rfl
       ·rfl) (by
    unfold O2
    dsimp only
    rw [show decide ((m.Signals.length:Int)< (m.Signals.length:Int))=false from bK (by omega)];rfl)
  unfold R4
  rw [h]
  cases H9 (signalE m) 0 m.Signals<;>rfl
theorem QI (s:Signal)(hl:s.Phases.length≤1000000): ∀(r:List Phase) (i:Nat) (b:Bool),s.Phases.drop i=r→i≤s.Phases.length→loop (V3 s) (b,(i:Int))=some (b&& !(r.any fun p=> !Tg p.Ticks 1 10000)):=by
  intro r
  induction r with
  |nil=>
   intro i b hi hil
   have:=N1 hi
   refine C5 ?_
   unfold V3
   dsimp only
   rw [show decide ((i:Int)< (s.Phases.length:Int))=false from bK (by omega)]
   simp
  |cons p r ih=>
   intro i b hi hil
   have hlt:=M3 hi
   have hs:V3 s (b,(i:Int))=some (.go (b&&Tg p.Ticks 1 10000,((i+1:Nat):Int))):=by
     unfold V3
     dsimp only
     rw [show decide ((i:Int)< (s.Phases.length:Int))=true from bJ (by omega),Bq hi,NY (n:=(i:Int)+1) (by omega)]
     cases b<;>rfl
   rw [K3 hs,ih (i+1) _ (K2 hi) (by omega),bH]
   cases b<;>cases Tg p.Ticks 1 10000<;>simp
theorem NO (m:Map)(s:Signal)(hl:s.Phases.length≤1000000)(hg: ∀p∈s.Phases,p.Green.length≤1000000):loop (V2 m s) 0=some (if (s.Phases.any fun p=> !Bt m.Lanes.length 0 p.Green)=true then .inr 11 else .inl ()):=by
  have h:=W3 s.Phases (V2 m s) (fun _ p=>if Bt m.Lanes.length 0 p.Green then none else some 11) (fun i p hp=>by
    have:=H8 hp
    unfold V2
    rw [show decide ((i:Int)< (s.Phases.length:Int))=true from bJ (by omega),B9 hp,bO,lB,AM _ _ _ (hg p (lG hp)),lB,NY (n:=(i:Int)+1) (by omega)]
    cases Bt (m.Lanes.length:Int) 0 p.Green<;>rfl) (by
    unfold V2
    rw [show decide ((s.Phases.length:Int)< (s.Phases.length:Int))=false from bK (by omega)];rfl)
  rw [h]
  have key: ∀(l:List Phase) (i:Nat),CO (H9 (fun (_:Nat) (p:Phase)=>if Bt (m.Lanes.length:Int) 0 p.Green=true then none else some (11:Int)) i l)=if (l.any fun p=> !Bt m.Lanes.length 0 p.Green)=true then .inr 11 else .inl ():=by
    intro l
    induction l with
    |nil=>intro i;rfl
    |cons p r ih=>
     intro i
     unfold H9
     rw [bH]
     cases hq:Bt (m.Lanes.length:Int) 0 p.Green
     ·rfl
     ·exact ih (i+1)
  rw [key]
end Go.Abs.World
/-! Loops over lists, as functions on lists. -/
namespace Go.Abs
open Go
section
variable {α β σ S τ:Type}
/-- What a loop over a list makes, with a state, and with a way out. -/
def IJ (step:Nat→σ→α→Sum σ τ)(fin:σ→τ):Nat→σ→List α→τ
  |_,s,[]=>fin s
  |i,s,a::r=>match step i s a with
   | .inl s'=>IJ step fin (i+1) s' r
   | .inr t=>t
theorem T4 {l:List α}{i:Nat}{a:α}{r:List α}(h:l.drop i=a::r):l[i]? =some a:=by
  have:=congrArg (fun z=>z[0]?) h
  simpa using this
theorem iU {F:S→Option (Stp S τ)}(pk:Nat→σ→S)(l:List α)(inv:Nat→σ→Prop)(step:Nat→σ→α→Sum σ τ)(fin:σ→τ){s0:σ}{S0:S}(hS:pk 0 s0=S0)(hi:inv 0 s0)
    (hF: ∀i a s,l[i]? =some a→inv i s→F (pk i s)=some (match step i s a with| .inl s'=> .go (pk (i+1) s')| .inr t=> .out t))
    (hI: ∀i a s s',l[i]? =some a→inv i s→step i s a= .inl s'→inv (i+1) s')
    (h0: ∀s,inv l.length s→F (pk l.length s)=some (.out (fin s))):loop F S0=some (IJ step fin 0 s0 l):=by
  have key: ∀(r:List α) (i:Nat) (s:σ),l.drop i=r→i≤l.length→inv i s→loop F (pk i s)=some (IJ step fin i s r):=by
    intro r
    induction r with
    |nil=>
     intro i s hi hil hv
     have:=N1 hi
     obtain rfl:i=l.length:=by omega
     exact C5 (h0 s hv)
    |cons a r ih=>
     intro i s hi hil hv
     have hlt:=M3 hi
     have ha:=T4 hi
     have hs:=hF i a s ha hv
     unfold IJ
     cases h:step i s a with
     |inl s'=>rw [h]at hs;rw [K3 hs];exact ih (i+1) s' (K2 hi) (by omega) (hI i a s s' ha hv h)
     |inr t=>rw [h]at hs;exact C5 hs
  rw [← hS]
  exact key l 0 s0 rfl (by omega) hi
/-- The same without a way out. -/
def CQ (step:Nat→σ→α→σ):Nat→σ→List α→σ
  |_,s,[]=>s
  |i,s,a::r=>CQ step (i+1) (step i s a) r
theorem EP (step:Nat→σ→α→σ)(fin:σ→τ): ∀(l:List α) (i:Nat) (s:σ),IJ (fun i s a=> .inl (step i s a)) fin i s l=fin (CQ step i s l)
  | [],_,_=>rfl
  |_::r,i,_=>EP step fin r (i+1) _
theorem VK {F:S→Option (Stp S τ)}(pk:Nat→σ→S)(l:List α)(inv:Nat→σ→Prop)(step:Nat→σ→α→σ)(fin:σ→τ){s0:σ}{S0:S}(hS:pk 0 s0=S0)(hi:inv 0 s0)
    (hF: ∀i a s,l[i]? =some a→inv i s→F (pk i s)=some (.go (pk (i+1) (step i s a))))
    (hI: ∀i a s,l[i]? =some a→inv i s→inv (i+1) (step i s a))
    (h0: ∀s,inv l.length s→F (pk l.length s)=some (.out (fin s))):loop F S0=some (fin (CQ step 0 s0 l)):=by
  rw [← EP step fin]
  exact iU pk l inv _ fin hS hi hF (fun i a s s' h1 h2 h3=>by cases h3;exact hI i a s h1 h2) h0
/-- The elements that a loop gathers. -/
def Dy (g:Nat→α→Option β):Nat→List α→List β
  |_,[]=> []
  |i,a::r=>match g i a with
   |some b=>b::Dy g (i+1) r
   |none=>Dy g (i+1) r
theorem Sv (g:Nat→α→Option β): ∀(l:List α) (i:Nat),(Dy g i l).length≤l.length
  | [],_=>wH _
  |a::r,i=>by
   have:=Sv g r (i+1)
   unfold Dy
   cases g i a<;>simp only [lL]<;>omega
theorem AN (g:Nat→α→Option β): ∀(l:List α) (i:Nat) (s:List β),CQ (fun i s a=>match g i a with|some b=>s++ [b]|none=>s) i s l=s++Dy g i l
  | [],_,s=>by simp [CQ,Dy]
  |a::r,i,s=>by
   unfold CQ Dy
   rw [AN g r (i+1)]
   cases g i a<;>simp
theorem iV {F:S→Option (Stp S τ)}(pk:Nat→List β→S)(l:List α)(g:Nat→α→Option β)(fin:List β→τ){S0:S}(hS:pk 0 []=S0)
    (hF: ∀i a (s:List β),l[i]? =some a→s.length≤i→F (pk i s)=some (.go (pk (i+1) (match g i a with|some b=>s++ [b]|none=>s))))
    (h0: ∀s,F (pk l.length s)=some (.out (fin s))):loop F S0=some (fin (Dy g 0 l)):=by
  have:=VK pk l (fun i s=>s.length≤i) (fun i s a=>match g i a with|some b=>s++ [b]|none=>s) fin hS (by simp) hF (fun i a s _ hs=>by
    cases g i a<;>simp<;>omega) (fun s _=>h0 s)
  rw [this,AN,lQ]
theorem IK {F:List β×Int→Option (Stp (List β×Int) τ)}(l:List α)(g:Nat→α→Option β)(fin:List β→τ)
    (hF: ∀(i:Nat) a (s:List β),l[i]? =some a→s.length≤i→F (s,(i:Int))=some (.go ((match g i a with|some b=>s++ [b]|none=>s),((i+1:Nat):Int))))
    (h0: ∀s,F (s,(l.length:Int))=some (.out (fin s))):loop F ([],0)=some (fin (Dy g 0 l)):=iV (fun i s=>(s,(i:Int))) l g fin rfl hF h0
/-- Is there one? -/
theorem IL {F:Int→Option (Stp Int (Sum Unit β))}(l:List α)(p:α→Bool)(v:β)(hF: ∀(i:Nat) a,l[i]? =some a→F (i:Int)=some (if p a then .out (.inr v)else .go ((i+1:Nat):Int)))(h0:F (l.length:Int)=some (.out (.inl ()))):
    loop F 0=some (if l.any p then .inr v else .inl ()):=by
  have key: ∀(l:List α) (i:Nat),IJ (fun _ _ a=>if p a then Sum.inr (Sum.inr v)else Sum.inl ()) (fun _=>(Sum.inl ():Sum Unit β)) i () l=if l.any p then .inr v else .inl ():=by
    intro l
    induction l with
    |nil=>intro i;rfl
    |cons a r ih=>
     intro i
     unfold IJ
     rw [bH]
     cases h:p a
     ·exact ih (i+1)
     ·rfl
  rw [← key l 0]
  exact iU (F:=F) (σ:=Unit) (fun i _=>(i:Int)) l (fun _ _=>True) _ _ (s0:=()) rfl trivial (fun i a _ h _=>by rw [hF i a h];cases p a<;>rfl) (fun _ _ _ _ _ _ _=>trivial) (fun _ _=>h0)
end
theorem K4 {i:Nat}{n:Nat}(h:i<n):decide ((i:Int)< (n:Int))=true:=bJ (by omega)
theorem J4 (n:Nat):decide ((n:Int)< (n:Int))=false:=bK (by omega)
theorem I0 {i:Nat}{n:Nat}(h:i<n)(hn:n≤1000000000000):D2 ((i:Int)+1)=((i+1:Nat):Int):=by rw [E1 (by omega)];omega
end Go.Abs
namespace Go.Abs.World
open Go Go.Abs
structure BearZ (m:Map):Prop where
  many:m.Zones.length≤1000000
  parts: ∀z∈m.Zones,z.Parts.length≤1000000
noncomputable def P5 (m:Map)(k:Int):Int:=((m.Lanes[k.toNat]?).map fun l=>Pe l.Curve_).getD 0
noncomputable def Rh (m:Map)(p:Part):Bool:=decide (p.From<0)||decide (p.From≥p.To)||decide (p.To>P5 m p.Lane_)||decide (p.Rank<0)||decide (p.Rank>100)
noncomputable def zoneE (m:Map)(_:Nat)(z:Zone):Option Int:=
  if z.Parts.length<2 then some 6
  else if 6<z.Parts.length then some 8
  else if z.Signal_<0∨(m.Signals.length:Int)<z.Signal_ then some 2
  else if Bt m.Lanes.length 0 (z.Parts.map (·.Lane_))=false then some 11
  else if z.Parts.any (Rh m)=true then some 2 else none
theorem Rk {m:Map}{k:Int}(h0:0≤k)(h1:k<m.Lanes.length): ∃l,m.Lanes[k.toNat]? =some l∧B8 m.Lanes k=some l:=by
  have hlt:k.toNat<m.Lanes.length:=by omega
  refine ⟨m.Lanes[k.toNat],lH hlt,?_⟩
  unfold B8
  rw [bQ h0,lH hlt]
theorem GD {m:Map}(B:Bear m){k:Int}(h0:0≤k)(h1:k<m.Lanes.length):Ca m k=some (P5 m k):=by
  obtain ⟨l,e1,e2⟩:=Rk h0 h1
  have:=fZ (m:=m) e1 (B.pts l (lG e1)).1
  rw [show ((k.toNat:Nat):Int)=k by omega]at this
  rw [this,P5,e1];rfl
theorem IM {m:Map}(B:Bear m){k:Int}(h0:0≤k)(h1:k<m.Lanes.length): ∃l,B8 m.Lanes k=some l∧Ep l.Curve_=some (P5 m k):=by
  obtain ⟨l,e1,e2⟩:=Rk h0 h1
  refine ⟨l,e2,?_⟩
  rw [FS _ (B.pts l (lG e1)).1,P5,e1];rfl
theorem QJ {α β:Type}(f:α→β): ∀(l:List α) (i:Nat),Dy (fun _ a=>some (f a)) i l=l.map f
  | [],_=>rfl
  |a::r,i=>by rw [Dy,QJ f r];rfl
theorem cO {z:Zone}{F:List Int×Int→Option (Stp (List Int×Int) (List Int))}(hl:z.Parts.length≤1000000)
    (hF: ∀x,F x=cond (decide (x.2< (z.Parts.length:Int))) ((B8 z.Parts x.2).bind fun v=>(Bj x.1 [v.Lane_]).bind fun w=>some (.go (w,D2 (x.2+1)))) (some (.out x.1))):
    loop F ([],0)=some (z.Parts.map (·.Lane_)):=by
  rw [← QJ (fun p:Part=>p.Lane_) z.Parts 0]
  refine iV (fun i s=>(s,(i:Int))) z.Parts (fun _ p=>some p.Lane_) id rfl (fun i a s ha hs=> ?_) (fun s=> ?_)
  ·have hi:=H8 ha
   rw [hF,K4 hi,B9 ha,bO,lB,En (by simp;omega),lB,I0 hi (by omega)]
  ·rw [hF,J4];rfl
theorem cP {m:Map}(B:Bear m)(Z:BearZ m):U0 ⟨m⟩=some ((H9 (zoneE m) 0 m.Zones).getD 0):=by
  have hb:=B.lanes
  have h:=W3 m.Zones (Q4 ⟨m⟩) (zoneE m) (fun i z hz=>by
    have hi:=H8 hz
    have hm:=Z.many
    have p1:=Z.parts z (lG hz)
    unfold Q4 zoneE
    dsimp only
    rw [K4 hi,B9 hz,bO,lB,cO p1 (F:=Eu z) (fun x=>rfl),lB,DR _ _ _ (by simpa using p1) (by omega) (by omega),lB,I0 hi (by omega)]
    by_cases h1:z.Parts.length<2
    ·rw [bQ h1,show decide ((z.Parts.length:Int)<2)=true from bJ (by omega)];rfl
    ·rw [bR h1,show decide ((z.Parts.length:Int)<2)=false from bK (by omega),bP]
     by_cases h2:6<z.Parts.length
     ·rw [bQ h2,show decide ((z.Parts.length:Int)>6)=true from bJ (by omega)];rfl
     ·rw [bR h2,show decide ((z.Parts.length:Int)>6)=false from bK (by omega),bP]
      by_cases h3:z.Signal_<0∨(m.Signals.length:Int)<z.Signal_
      ·rw [bQ h3,show ((decide (z.Signal_<0))||(decide (z.Signal_>(m.Signals.length:Int))))=true by simpa using h3];rfl
      ·rw [bR h3,show ((decide (z.Signal_<0))||(decide (z.Signal_>(m.Signals.length:Int))))=false by rw [bZ];simpa using h3,bP]
       cases h4:Bt (m.Lanes.length:Int) 0 (z.Parts.map (·.Lane_))
       ·rfl
       ·rw [bR (by decide)]
        have:=IL (F:=Q3 ⟨m⟩ z) z.Parts (Rh m) (2:Int) (fun j p hp=>by
          have hj:=H8 hp
          have hk:=Jo h4 p.Lane_ (List.mem_map.2 ⟨p,lG hp,rfl⟩)
          unfold Q3 Rh
          dsimp only
          rw [K4 hj,B9 hp,bO,lB,GD B hk.1 hk.2,I0 hj (by omega)]
          cases h5:(decide (p.From<0)||decide (p.From≥p.To))
          ·simp only [bX,bO,lB]
           cases (false||decide (p.To>P5 m p.Lane_)||decide (p.Rank<0)||decide (p.Rank>100))<;>rfl
          ·rfl) (by unfold Q3;rw [J4];rfl)
        rw [this]
        cases z.Parts.any (Rh m)<;>rfl) (by
    unfold Q4
    dsimp only
    rw [J4];rfl)
  unfold U0
  rw [h]
  cases H9 (zoneE m) 0 m.Zones<;>rfl
theorem cQ {m:Map}(B:Bear m)(Z:BearZ m){i:Nat}{z:Zone}(hz:m.Zones[i]? =some z):Hu m z=some ((zoneE m i z).getD 0):=by
  have hb:=B.lanes
  have p1:=Z.parts z (lG hz)
  unfold Hu zoneE
  rw [cO p1 (F:=Ha z) (fun x=>rfl),lB,AM _ _ _ (by simpa using p1),lB]
  by_cases h1:z.Parts.length<2
  ·rw [bQ h1,show decide ((z.Parts.length:Int)<2)=true from bJ (by omega)];rfl
  ·rw [bR h1,show decide ((z.Parts.length:Int)<2)=false from bK (by omega),bP]
   by_cases h2:6<z.Parts.length
   ·rw [bQ h2,show decide ((z.Parts.length:Int)>6)=true from bJ (by omega)];rfl
   ·rw [bR h2,show decide ((z.Parts.length:Int)>6)=false from bK (by omega),bP]
    by_cases h3:z.Signal_<0∨(m.Signals.length:Int)<z.Signal_
    ·rw [bQ h3,show ((decide (z.Signal_<0))||(decide (z.Signal_>(m.Signals.length:Int))))=true by simpa using h3];rfl
    ·rw [bR h3,show ((decide (z.Signal_<0))||(decide (z.Signal_>(m.Signals.length:Int))))=false by rw [bZ];simpa using h3,bP]
     cases h4:Bt (m.Lanes.length:Int) 0 (z.Parts.map (·.Lane_))
     ·rfl
     ·rw [bR (by decide)]
      have:=IL (F:=Ar m z) z.Parts (Rh m) (2:Int) (fun j p hp=>by
        have hj:=H8 hp
        have hk:=Jo h4 p.Lane_ (List.mem_map.2 ⟨p,lG hp,rfl⟩)
        obtain ⟨l,e1,e2⟩:=IM B hk.1 hk.2
        unfold Ar Rh
        rw [K4 hj,B9 hp,bO,lB,e1,I0 hj (by omega)]
        cases h5:(decide (p.From<0)||decide (p.From≥p.To))
        ·simp only [bX,bO,lB,e2]
         cases (false||decide (p.To>P5 m p.Lane_)||decide (p.Rank<0)||decide (p.Rank>100))<;>rfl
        ·rfl) (by unfold Ar;rw [J4];rfl)
      rw [this]
      cases z.Parts.any (Rh m)<;>rfl
structure BearW (m:Map):Prop where
  many:m.Works.length≤1000000
noncomputable def workE (m:Map)(_:Nat)(w:Work):Option Int:=
  if w.Lane_<0∨(m.Lanes.length:Int)≤w.Lane_ then some 7
  else if (decide (w.From<0)||decide (w.From>w.To)||decide (w.To>P5 m w.Lane_)||decide (w.Begin<0)||decide (w.Begin≥w.End)||decide (w.End>1099511627776)|| !Tg w.Limit 0 ((m.Lanes[w.Lane_.toNat]?).map fun l=>(T6 l.Kind).1).get!)=true then some 2 else none
theorem cR {m:Map}(B:Bear m)(W:BearW m):U1 ⟨m⟩=some ((H9 (workE m) 0 m.Works).getD 0):=by
  have hb:=B.lanes
  have h:=W3 m.Works (Q5 ⟨m⟩) (workE m) (fun i w hw=>by
    have hi:=H8 hw
    have hm:=W.many
    unfold Q5 workE
    dsimp only
    rw [K4 hi,B9 hw,bO,lB,I0 hi (by omega)]
    by_cases h1:w.Lane_<0∨(m.Lanes.length:Int)≤w.Lane_
    ·rw [bQ h1,show ((decide (w.Lane_<0))||(decide (w.Lane_≥(m.Lanes.length:Int))))=true by simpa using h1];rfl
    ·rw [bR h1,show ((decide (w.Lane_<0))||(decide (w.Lane_≥(m.Lanes.length:Int))))=false by rw [bZ];simpa using h1,bP]
     obtain ⟨l,e1,e2⟩:=Rk (m:=m) (k:=w.Lane_) (by omega) (by omega)
     rw [e2,lB,Su,lB,GD B (by omega) (by omega),Pk,e1]
     simp only [lF,Option.get!_some]
     cases (decide (w.From<0)||decide (w.From>w.To))
     ·simp only [bX,bO,lB]
      cases (false||decide (w.To>P5 m w.Lane_)||decide (w.Begin<0)||decide (w.Begin≥w.End)||decide (w.End>1099511627776))
      ·simp only [bX,bO,lB]
       by_cases hq:Tg w.Limit 0 (T6 l.Kind).1=true<;>simp [hq]
      ·rfl
     ·rfl) (by
    unfold Q5
    dsimp only
    rw [J4];rfl)
  unfold U1
  rw [h]
  cases H9 (workE m) 0 m.Works<;>rfl
theorem cS {m:Map}(B:Bear m){i:Nat}(w:Work):Hv m w=some ((workE m i w).getD 0):=by
  have hb:=B.lanes
  unfold Hv workE
  by_cases h1:w.Lane_<0∨(m.Lanes.length:Int)≤w.Lane_
  ·rw [bQ h1,show ((decide (w.Lane_<0))||(decide (w.Lane_≥(m.Lanes.length:Int))))=true by simpa using h1];rfl
  ·rw [bR h1,show ((decide (w.Lane_<0))||(decide (w.Lane_≥(m.Lanes.length:Int))))=false by rw [bZ];simpa using h1,bP]
   obtain ⟨l,e1,e2⟩:=Rk (m:=m) (k:=w.Lane_) (by omega) (by omega)
   obtain ⟨l',e3,e4⟩:=IM B (k:=w.Lane_) (by omega) (by omega)
   rw [e2]at e3
   cases e3
   rw [e2,lB,Nk,lB,e4,Qh,e1]
   simp only [lF,Option.get!_some]
   cases (decide (w.From<0)||decide (w.From>w.To))
   ·simp only [bX,bO,lB]
    cases (false||decide (w.To>P5 m w.Lane_)||decide (w.Begin<0)||decide (w.Begin≥w.End)||decide (w.End>1099511627776))
    ·simp only [bX,bO,lB]
     by_cases hq:Tg w.Limit 0 (T6 l.Kind).1=true<;>simp [hq]
    ·rfl
   ·rfl
theorem TM {m:Map}(S:BearS m)(i:Nat){s:Signal}(hs:s∈m.Signals):Eo m s=some ((signalE m i s).getD 0):=by
  obtain ⟨p1,p2⟩:=S.phases s hs
  unfold Eo signalE
  rw [Qh,lB,show (0:Int)=((0:Nat):Int) from rfl,QI s p1 s.Phases 0 _ rfl (by omega),lB]
  rw [show ((0:Nat):Int)=0 from rfl,NO m s p1 p2]
  by_cases h1:s.Phases.length=0
  ·rw [bQ h1,h1];rfl
  ·rw [bR h1,show ((s.Phases.length:Int)==0)=false by simp only [beq_eq_false_iff_ne];omega,bP]
   by_cases h2:6<s.Phases.length
   ·rw [bQ h2,show decide ((s.Phases.length:Int)>6)=true from bJ (by omega)];rfl
   ·rw [bR h2,show decide ((s.Phases.length:Int)>6)=false from bK (by omega),bP]
    cases Tg s.Offset 0 1099511627776
    ·rfl
    ·cases (s.Phases.any fun p=> !Tg p.Ticks 1 10000)
     ·cases (s.Phases.any fun p=> !Bt m.Lanes.length 0 p.Green)<;>rfl
     ·rfl
/-- All lists of a map are of bearable lengths. -/
structure BearM (m:Map):Prop where
  toBear:Bear m
  toBearS:BearS m
  toBearZ:BearZ m
  toBearW:BearW m
theorem BearM.lanes {m:Map}(B:BearM m):m.Lanes.length≤1000000:=B.toBear.lanes
noncomputable def Sw (m:Map):Int:=
  if Tg m.Version 0 1099511627776=false then 2
  else if m.Lanes.length=0 then 6
  else if 12<m.Lanes.length∨12<m.Zones.length∨4<m.Signals.length∨8<m.Works.length then 8
  else ((H9 (laneE m.Lanes.length) 0 m.Lanes).or ((H9 (nextE m) 0 m.Lanes).or ((H9 (signalE m) 0 m.Signals).or ((H9 (zoneE m) 0 m.Zones).or (H9 (workE m) 0 m.Works))))).getD 0
theorem Au {α:Type}{g:Nat→α→Option Int}(h: ∀i a e,g i a=some e→e≠0): ∀{l:List α} {i:Nat} {e:Int},H9 g i l=some e→e≠0
  | [],_,_,q=>by cases q
  |a::r,i,e,q=>by
   unfold H9 at q
   cases hg:g i a with
   |some e'=>rw [hg]at q;cases q;exact h i a e hg
   |none=>rw [hg]at q;exact Au h q
theorem CR {m:Map}{i:Nat}{z:Zone}{e:Int}(h:zoneE m i z=some e):e≠0:=by
  unfold zoneE at h
  repeat' split at h
  all_goals first|(cases h;decide)|cases h
theorem Uh {m:Map}{i:Nat}{z:Signal}{e:Int}(h:signalE m i z=some e):e≠0:=by
  unfold signalE at h
  repeat' split at h
  all_goals first|(cases h;decide)|cases h
theorem IN {m:Map}{i:Nat}{z:Work}{e:Int}(h:workE m i z=some e):e≠0:=by
  unfold workE at h
  repeat' split at h
  all_goals first|(cases h;decide)|cases h
theorem IO {m:Map}{i:Nat}{z:Lane}{e:Int}(h:nextE m i z=some e):e≠0:=Au (fun _ _ _=>XC) h
/-- A loop that goes on as long as there is no error. -/
theorem cT {α:Type}{F:Int×Int→Option (Stp (Int×Int) Int)}(l:List α)(g:Nat→α→Option Int)(hg: ∀i a e,g i a=some e→e≠0)(hl:l.length≤1000000)
    (hF: ∀(i:Nat) a,l[i]? =some a→F (0,(i:Int))=some (.go ((g i a).getD 0,((i+1:Nat):Int)))) (h0: ∀(i:Nat) (e:Int),e≠0→F (e,(i:Int))=some (.out e)) (h1:F (0,(l.length:Int))=some (.out 0)) (e0:Option Int) (he: ∀e,e0=some e→e≠0):
    loop F (e0.getD 0,0)=some ((e0.or (H9 g 0 l)).getD 0):=by
  have key: ∀(r:List α) (i:Nat),l.drop i=r→i≤l.length→loop F (0,(i:Int))=some ((H9 g i r).getD 0):=by
    intro r
    induction r with
    |nil=>
     intro i hi hil
     have:=N1 hi
     obtain rfl:i=l.length:=by omega
     exact C5 h1
    |cons a r ih=>
     intro i hi hil
     have hlt:=M3 hi
     have hs:=hF i a (T4 hi)
     rw [K3 hs]
     unfold H9
     cases h:g i a with
     |some e=>exact C5 (h0 (i+1) e (hg i a e h))
     |none=>exact ih (i+1) (K2 hi) (by omega)
  cases e0 with
  |some e=>exact C5 (h0 0 e (he e rfl))
  |none=>exact key l 0 rfl (by omega)
theorem Qi {m:Map}(B:BearM m):Iu m=some (Sw m):=by
  have hb:=B.lanes
  unfold Iu Sw
  rw [Qh,lB]
  cases Tg m.Version 0 1099511627776
  ·rfl
  ·simp only [bW,bP,Bool.true_eq_false,if_false]
   by_cases h1:m.Lanes.length=0
   ·rw [bQ h1,h1];rfl
   ·rw [bR h1,show ((m.Lanes.length:Int)==0)=false by simp only [beq_eq_false_iff_ne];omega,bP]
    by_cases h2:12<m.Lanes.length∨12<m.Zones.length∨4<m.Signals.length∨8<m.Works.length
    ·rw [bQ h2,show ((((decide ((m.Lanes.length:Int)>12))||(decide ((m.Zones.length:Int)>12)))||(decide ((m.Signals.length:Int)>4)))||(decide ((m.Works.length:Int)>8)))=true by simp;omega];rfl
    ·rw [bR h2,show ((((decide ((m.Lanes.length:Int)>12))||(decide ((m.Zones.length:Int)>12)))||(decide ((m.Signals.length:Int)>4)))||(decide ((m.Works.length:Int)>8)))=false by simp;omega,bP]
     rw [QG B.toBear]
     cases H:H9 (laneE m.Lanes.length) 0 m.Lanes with
     |some e=>rfl
     |none=>
      have n1: ∀e,H9 (nextE m) 0 m.Lanes=some e→e≠0:=fun e h=>Au (fun _ _ _=>IO) h
      have n2: ∀e,(H9 (nextE m) 0 m.Lanes).or (H9 (signalE m) 0 m.Signals)=some e→e≠0:=fun e h=>by
        rcases Option.or_eq_some_iff.1 h with h|⟨_,h⟩
        ·exact n1 e h
        ·exact Au (fun _ _ _=>Uh) h
      have n3: ∀e,((H9 (nextE m) 0 m.Lanes).or (H9 (signalE m) 0 m.Signals)).or (H9 (zoneE m) 0 m.Zones)=some e→e≠0:=fun e h=>by
        rcases Option.or_eq_some_iff.1 h with h|⟨_,h⟩
        ·exact n2 e h
        ·exact Au (fun _ _ _=>CR) h
      simp only [CO,thenS,Option.none_or]
      rw [(LK B.toBear H).2,lB]
      rw [cT m.Signals (signalE m) (fun _ _ _=>Uh) B.toBearS.many (fun i a ha=>by
       have hi:=H8 ha
       have hm:=B.toBearS.many
       unfold Gh
       dsimp only
       rw [K4 hi,B9 ha,bS,show ((0:Int)==0)=true from rfl,bO,lB,TM B.toBearS i (lG ha),I0 hi (by omega)];rfl) (fun i e he=>by
       unfold Gh
       dsimp only
       rw [show (e==0)=false by simpa using he,Bool.and_false];rfl) (by unfold Gh;dsimp only;rw [J4];rfl) _ n1,lB]
      rw [cT m.Zones (zoneE m) (fun _ _ _=>CR) B.toBearZ.many (fun i a ha=>by
       have hi:=H8 ha
       have hm:=B.toBearZ.many
       unfold Gg
       dsimp only
       rw [K4 hi,B9 ha,bS,show ((0:Int)==0)=true from rfl,bO,lB,cQ B.toBear B.toBearZ ha,I0 hi (by omega)];rfl) (fun i e he=>by
       unfold Gg
       dsimp only
       rw [show (e==0)=false by simpa using he,Bool.and_false];rfl) (by unfold Gg;dsimp only;rw [J4];rfl) _ n2,lB]
      rw [cT m.Works (workE m) (fun _ _ _=>IN) B.toBearW.many (fun i a ha=>by
       have hi:=H8 ha
       have hm:=B.toBearW.many
       unfold Gf
       dsimp only
       rw [K4 hi,B9 ha,bS,show ((0:Int)==0)=true from rfl,bO,lB,cS B.toBear (i:=i) a,I0 hi (by omega)];rfl) (fun i e he=>by
       unfold Gf
       dsimp only
       rw [show (e==0)=false by simpa using he,Bool.and_false];rfl) (by unfold Gf;dsimp only;rw [J4];rfl) _ n3,lB]
      rw [Option.or_assoc,Option.or_assoc]
theorem Ml {m:Map}(B:BearM m):Bl m=some (Sw m):=by
  have hb:=B.lanes
  have s0:O0 m 0=(Ac ⟨m⟩).bind fun v2=>cond (v2 !=0) (some (.out (.inr v2))) (some (.go 1)):=rfl
  have s1:O0 m 1=(T9 ⟨m⟩).bind fun v2=>cond (v2 !=0) (some (.out (.inr v2))) (some (.go 2)):=rfl
  have s2:O0 m 2=(S6 ⟨m⟩).bind fun v2=>cond (v2 !=0) (some (.out (.inr v2))) (some (.go 3)):=rfl
  have s3:O0 m 3=(R4 ⟨m⟩).bind fun v2=>cond (v2 !=0) (some (.out (.inr v2))) (some (.go 4)):=rfl
  have s4:O0 m 4=(U0 ⟨m⟩).bind fun v2=>cond (v2 !=0) (some (.out (.inr v2))) (some (.go 5)):=rfl
  have s5:O0 m 5=(U1 ⟨m⟩).bind fun v2=>cond (v2 !=0) (some (.out (.inr v2))) (some (.go 6)):=rfl
  have s6:O0 m 6=some (.out (.inl ())):=rfl
  have stp: ∀(i j:Int) (e:Option Int) (X:Option Int),(∀e',e=some e'→e'≠0)→X=some (e.getD 0)→O0 m i=X.bind (fun v2=>cond (v2 !=0) (some (.out (.inr v2))) (some (.go j)))→loop (O0 m) i=match e with|some e'=>some (.inr e')|none=>loop (O0 m) j:=by
    intro i j e X he hX hs
    subst hX
    rw [lB]at hs
    cases e with
    |none=>exact K3 hs
    |some e'=>
     rw [Option.getD_some,show (e' !=0)=true by simpa using he e' rfl]at hs
     exact C5 hs
  unfold Bl Sw
  have hnum:Ac ⟨m⟩=some ((if Tg m.Version 0 1099511627776=false then some 2 else if m.Lanes.length=0 then some 6 else if 12<m.Lanes.length∨12<m.Zones.length∨4<m.Signals.length∨8<m.Works.length then some 8 else none:Option Int).getD 0):=by
    unfold Ac
    dsimp only
    rw [Pk,lB]
    cases Tg m.Version 0 1099511627776
    ·rfl
    ·simp only [bW,bP,Bool.true_eq_false,if_false]
     by_cases h1:m.Lanes.length=0
     ·rw [bQ h1,h1];rfl
     ·rw [bR h1,show ((m.Lanes.length:Int)==0)=false by simp only [beq_eq_false_iff_ne];omega,bP]
      by_cases h2:12<m.Lanes.length∨12<m.Zones.length∨4<m.Signals.length∨8<m.Works.length
      ·rw [bQ h2,show ((((decide ((m.Lanes.length:Int)>12))||(decide ((m.Zones.length:Int)>12)))||(decide ((m.Signals.length:Int)>4)))||(decide ((m.Works.length:Int)>8)))=true by simp;omega];rfl
      ·rw [bR h2,show ((((decide ((m.Lanes.length:Int)>12))||(decide ((m.Zones.length:Int)>12)))||(decide ((m.Signals.length:Int)>4)))||(decide ((m.Works.length:Int)>8)))=false by simp;omega];rfl
  rw [stp 0 1 _ _ (by repeat' split
                      all_goals (intro e' h;first|(cases h;decide)|cases h)) hnum s0]
  by_cases q1:Tg m.Version 0 1099511627776=false
  ·rw [bQ q1,bQ q1];rfl
  ·rw [bR q1,bR q1]
   by_cases q2:m.Lanes.length=0
   ·rw [bQ q2,bQ q2];rfl
   ·rw [bR q2,bR q2]
    by_cases q3:12<m.Lanes.length∨12<m.Zones.length∨4<m.Signals.length∨8<m.Works.length
    ·rw [bQ q3,bQ q3];rfl
    ·rw [bR q3,bR q3]
     dsimp only
     rw [stp 1 2 _ _ (fun e' h=>Au (fun _ _ _=>IG) h) (cL B.toBear) s1]
     cases H:H9 (laneE m.Lanes.length) 0 m.Lanes with
     |some e=>rfl
     |none=>
      dsimp only
      rw [stp 2 3 _ _ (fun e' h=>Au (fun _ _ _=>IO) h) (LK B.toBear H).1 s2]
      cases H9 (nextE m) 0 m.Lanes with
      |some e=>rfl
      |none=>
       dsimp only
       rw [stp 3 4 _ _ (fun e' h=>Au (fun _ _ _=>Uh) h) (TL B.toBear B.toBearS) s3]
       cases H9 (signalE m) 0 m.Signals with
       |some e=>rfl
       |none=>
        dsimp only
        rw [stp 4 5 _ _ (fun e' h=>Au (fun _ _ _=>CR) h) (cP B.toBear B.toBearZ) s4]
        cases H9 (zoneE m) 0 m.Zones with
        |some e=>rfl
        |none=>
         dsimp only
         rw [stp 5 6 _ _ (fun e' h=>Au (fun _ _ _=>IN) h) (cR B.toBear B.toBearW) s5]
         cases H9 (workE m) 0 m.Works with
         |some e=>rfl
         |none=>dsimp only;rw [C5 s6];rfl
/-- What a valid map is. -/
structure ValR (m:Map):Prop where
  ver:0≤m.Version∧m.Version≤1099511627776
  pos:0<m.Lanes.length
  lanes:m.Lanes.length≤12
  zones:m.Zones.length≤12
  signals:m.Signals.length≤4
  works:m.Works.length≤8
  laneE:H9 (laneE m.Lanes.length) 0 m.Lanes=none
  nextE:H9 (nextE m) 0 m.Lanes=none
  signalE:H9 (signalE m) 0 m.Signals=none
  zoneE:H9 (zoneE m) 0 m.Zones=none
  workE:H9 (workE m) 0 m.Works=none
theorem XE {α:Type}{g:Nat→α→Option Int}{l:List α}(h: ∀i a e,g i a=some e→e≠0)(h0:(H9 g 0 l).getD 0=0):H9 g 0 l=none:=by
  cases q:H9 g 0 l with
  |none=>rfl
  |some e=>rw [q]at h0;exact absurd h0 (Au h q)
theorem chkR_zero {m:Map}:Sw m=0↔ValR m:=by
  unfold Sw
  constructor
  ·intro h
   split at h
   ·cases h
   ·rename_i h1
    split at h
    ·cases h
    ·rename_i h2
     split at h
     ·cases h
     ·rename_i h3
      simp only [Tg,Bool.not_eq_false,bU,bM]at h1
      have key: ∀{o r:Option Int},(∀e,o=some e→e≠0)→(o.or r).getD 0=0→o=none∧r.getD 0=0:=by
        intro o r ho hr
        cases o with
        |none=>exact ⟨rfl,hr⟩
        |some e=>exact absurd hr (ho e rfl)
      obtain ⟨a1,h⟩:=key (fun e h=>Au (fun _ _ _=>IG) h) h
      obtain ⟨a2,h⟩:=key (fun e h=>Au (fun _ _ _=>IO) h) h
      obtain ⟨a3,h⟩:=key (fun e h=>Au (fun _ _ _=>Uh) h) h
      obtain ⟨a4,h⟩:=key (fun e h=>Au (fun _ _ _=>CR) h) h
      exact ⟨h1,by omega,by omega,by omega,by omega,by omega,a1,a2,a3,a4,XE (fun _ _ _=>IN) h⟩
  ·rintro ⟨h1,h2,h3,h4,h5,h6,a1,a2,a3,a4,a5⟩
   rw [bR (by simp only [Tg,Bool.not_eq_false,bU,bM];exact h1),bR (by omega),bR (by omega),a1,a2,a3,a4,a5];rfl
section
variable {m:Map}
theorem ValR.laneOK (V:ValR m){i:Nat}{l:Lane}(h:m.Lanes[i]? =some l):LaneOK m.Lanes.length i l:=Xf V.laneE h
theorem ValR.next (V:ValR m){i:Nat}{l:Lane}(h:m.Lanes[i]? =some l){k:Int}(hk:k∈l.Next):(i:Int)<k∧k<m.Lanes.length:=by
  have:=Jo (V.laneOK h).next k hk
  omega
end
/-- The lanes in which a lane goes on. -/
def nextOf (m:Map)(a:Nat):List Int:=((m.Lanes[a]?).map (·.Next)).getD []
theorem ValR.nextOf {m:Map}(V:ValR m){a:Nat}{k:Int}(hk:k∈World.nextOf m a):(a:Int)<k∧k<m.Lanes.length:=by
  unfold World.nextOf at hk
  cases h:m.Lanes[a]? with
  |none=>rw [h]at hk;cases hk
  |some l=>rw [h]at hk;exact V.next h hk
def Qj (m:Map)(b:Int):Nat→Nat→Bool
  |0,_=>false
  |n+1,a=>(nextOf m a).any fun k=>k==b||Qj m b n k.toNat
theorem QK {m:Map}(V:ValR m)(b:Int): ∀(n n' a:Nat),m.Lanes.length≤a+n→m.Lanes.length≤a+n'→Qj m b n a=Qj m b n' a:=by
  intro n
  induction n with
  |zero=>
   intro n' a h h'
   have:nextOf m a= []:=by
     unfold nextOf
     rw [lJ (by omega)];rfl
   cases n' with
   |zero=>rfl
   |succ n'=>rw [Qj,Qj,this];rfl
  |succ n ih=>
   intro n' a h h'
   cases n' with
   |zero=>
    have:nextOf m a= []:=by
      unfold nextOf
      rw [lJ (by omega)];rfl
    rw [Qj,Qj,this];rfl
   |succ n'=>
    rw [Qj,Qj]
    rw [Bool.eq_iff_iff,lZ,lZ]
    refine exists_congr fun k=>and_congr_right fun hk=> ?_
    have:=V.nextOf hk
    rw [ih n' k.toNat (by omega) (by omega)]
/-- Does a lane lead to another one? -/
def Qk (m:Map)(a:Nat)(b:Int):Bool:=Qj m b m.Lanes.length a
theorem Xz {m:Map}(V:ValR m)(a:Nat)(b:Int):Qk m a b=(nextOf m a).any fun k=>k==b||Qk m k.toNat b:=by
  unfold Qk
  rw [QK V b _ (m.Lanes.length+1) a (by omega) (by omega),Qj]
/-- What is known of the sets of the lanes from a number on. -/
structure Reach (m:Map)(i:Nat)(l:List Nat):Prop where
  len:l.length=12
  small: ∀(a x:Nat),l[a]? =some x→x<2^32
  zero: ∀(a:Nat),a<i→l[a]? =some 0
  bits: ∀(a x:Nat),i≤a→a<m.Lanes.length→l[a]? =some x→∀b:Nat,x.testBit b=Qk m a (b:Int)
theorem Reach.get {m:Map}{i:Nat}{l:List Nat}(R:Reach m i l){a:Nat}(h:a<12): ∃x,l[a]? =some x∧x<2^32:=by
  have:=R.len
  exact ⟨l[a],lH (by omega),R.small a _ (lH (by omega))⟩
theorem LL {m:Map}(V:ValR m){b:Int}: ∀(n a:Nat),m.Lanes.length≤a+n→Qk m a b=true→(a:Int)<b∧b<m.Lanes.length
  |0,a,hn,h=>by
   rw [Xz V]at h
   have:nextOf m a= []:=by
     unfold nextOf
     rw [lJ (by omega)];rfl
   rw [this]at h
   cases h
  |n+1,a,hn,h=>by
   rw [Xz V,lZ]at h
   obtain ⟨k,hk,h⟩:=h
   have:=V.nextOf hk
   rcases bV _ _▸h with h|h
   ·have:=eq_of_beq h;omega
   ·have:=LL V n k.toNat (by omega) h;omega
theorem cU {m:Map}(V:ValR m){a:Nat}{b:Int}(h:Qk m a b=true):(a:Int)<b∧b<m.Lanes.length:=LL V m.Lanes.length a (by omega) h
theorem EQ {m:Map}(V:ValR m){b:Nat}{c:Int}(h2:Qk m b c=true): ∀(n a:Nat),m.Lanes.length≤a+n→Qk m a (b:Int)=true→Qk m a c=true
  |0,a,hn,h=>by have:=cU V h;omega
  |n+1,a,hn,h=>by
   rw [Xz V,lZ]at h ⊢
   obtain ⟨k,hk,h⟩:=h
   have:=V.nextOf hk
   refine ⟨k,hk,?_⟩
   rcases bV _ _▸h with h|h
   ·have e:=eq_of_beq h
    subst e
    rw [wF,h2,Bool.or_true]
   ·rw [EQ V h2 n k.toNat (by omega) h,Bool.or_true]
/-! ### Is a lane there? -/
noncomputable def NZ (m:Map)(k:Int):Bool:=(decide (k≥0)&&decide (k<m.Lanes.length))&& (Sw m==0)
theorem isM_true {m:Map}{k:Int}:NZ m k=true↔0≤k∧k<m.Lanes.length∧ValR m:=by
  unfold NZ
  rw [bU,bU,wB,chkR_zero]
  simp only [bM,and_assoc,ge_iff_le]
theorem Xi {m:Map}(B:BearM m)(k:Int):Ki m k=some (NZ m k):=by
  unfold Ki NZ
  rw [Ml B]
  cases (decide (k≥0)&&decide (k< (m.Lanes.length:Int)))<;>rfl
theorem Ry {m:Map}(B:BearM m)(k:Int):Qe m k=some (NZ m k):=by
  unfold Qe NZ
  rw [Qi B]
  cases (decide (k≥0)&&decide (k< (m.Lanes.length:Int)))<;>rfl
theorem Ux {m:Map}(B:BearM m){k:Int}(h0:0≤k)(h1:k<m.Lanes.length):Jj m k=some (P5 m k):=by
  obtain ⟨l,e1,e2⟩:=IM B.toBear h0 h1
  unfold Jj
  rw [e1,lB,e2];rfl
noncomputable def Co (m:Map)(k:Int):Int:=if NZ m k then P5 m k else 0
theorem Ia {m:Map}(B:BearM m)(k:Int):Bb m k=some (Co m k):=by
  unfold Bb Co
  rw [Xi B,lB]
  cases h:NZ m k
  ·rfl
  ·have:=isM_true.1 h
   rw [bQ rfl,bW,bP,GD B.toBear this.1 this.2.1];rfl
theorem Om {m:Map}(B:BearM m)(k:Int):Pd m k=some (Co m k):=by
  unfold Pd Co
  rw [Ry B,lB]
  cases h:NZ m k
  ·rfl
  ·have:=isM_true.1 h
   rw [bQ rfl,bW,bP,Ux B this.1 this.2.1];rfl
theorem Xj (l:List Int)(hl:l.length≤1000000)(k:Int):M8 l k=some (l.contains k):=by
  unfold M8 Q6
  rw [Oa l (fun x=>k==x) (by omega) (fun i a h=>by
   have hi:=H8 h
   unfold R9
   rw [K4 hi,B9 h,bO,lB]
   cases k==a<;>rfl) (by unfold R9;rw [J4];rfl)]
  rw [lB,Xh,List.contains_eq_any_beq]
theorem TN (l:List Int)(hl:l.length≤1000000)(k:Int):Nc l k=some (l.contains k):=by
  unfold Nc
  rw [IL l (fun x=>x==k) true (fun i a h=>by
   have hi:=H8 h
   unfold Lx
   rw [K4 hi,B9 h,bO,lB,I0 hi (by omega)]
   cases a==k<;>rfl) (by unfold Lx;rw [J4];rfl)]
  rw [List.contains_eq_any_beq,show (fun x=>x==k)=(fun x=>k==x) from funext fun x=>by rw [Bool.beq_comm]]
  cases l.any fun x=>k==x<;>rfl
/-- What comes before a lane. -/
def Bu (m:Map)(k:Int):List Int:=Dy (fun i (l:Lane)=>if l.Next.contains k then some (i:Int)else none) 0 m.Lanes
theorem XF {m:Map}(B:BearM m)(k:Int):Ev m k=some (Bu m k):=by
  unfold Ev Bu
  have hb:=B.lanes
  rw [IK m.Lanes (fun i (l:Lane)=>if l.Next.contains k then some (i:Int)else none) id (fun i l s h hs=>by
   have hi:=H8 h
   unfold Af
   dsimp only
   rw [K4 hi,B9 h,bO,lB,Xj _ (B.toBear.pts l (lG h)).2,lB,En (by simp;omega),I0 hi (by omega)]
   cases l.Next.contains k<;>rfl) (fun s=>by unfold Af;rw [J4];rfl)]
  rfl
theorem IP {m:Map}(B:BearM m)(k:Int):Jh m k=some (Bu m k):=by
  unfold Jh Bu
  have hb:=B.lanes
  rw [IK m.Lanes (fun i (l:Lane)=>if l.Next.contains k then some (i:Int)else none) id (fun i l s h hs=>by
   have hi:=H8 h
   unfold Hq
   dsimp only
   rw [K4 hi,B9 h,bO,lB,TN _ (B.toBear.pts l (lG h)).2,lB,En (by simp;omega),I0 hi (by omega)]
   cases l.Next.contains k<;>rfl) (fun s=>by unfold Hq;rw [J4];rfl)]
  rfl
def S3 (m:Map):List Int:=Dy (fun i (_:Lane)=>if (Bu m (i:Int)).length=0 then some (i:Int)else none) 0 m.Lanes
theorem QL {m:Map}(B:BearM m):Kf m=some (S3 m):=by
  unfold Kf S3
  have hb:=B.lanes
  rw [IK m.Lanes (fun i (_:Lane)=>if (Bu m (i:Int)).length=0 then some (i:Int)else none) id (fun i l s h hs=>by
   have hi:=H8 h
   unfold Gd
   dsimp only
   rw [K4 hi,bO,IP B,lB,En (by simp;omega),I0 hi (by omega)]
   by_cases q:(Bu m (i:Int)).length=0
   ·rw [bQ q,q];rfl
   ·rw [bR q,show (((Bu m (i:Int)).length:Int)==0)=false by simp only [beq_eq_false_iff_ne];omega];rfl) (fun s=>by unfold Gd;rw [J4];rfl)]
  rfl
def Lh (z:Zone)(k:Int):Part×Bool:=match z.Parts.find? (fun p=>p.Lane_==k)with|some p=>(p,true)|none=>(⟨0,0,0,0⟩,false)
theorem gA {z:Zone}(hl:z.Parts.length≤1000000)(k:Int):Ix z k=some (Lh z k):=by
  unfold Ix K1 Lh
  rw [Oa z.Parts (fun p=>p.Lane_==k) (by omega) (fun i a h=>by
   have hi:=H8 h
   unfold L8 Mb
   rw [K4 hi,B9 h,bO,lB,lB]
   cases a.Lane_==k<;>rfl) (by unfold L8;rw [J4];rfl),lB]
  unfold CP
  cases h:z.Parts.findIdx? (fun p=>p.Lane_==k)with
  |none=>
   have:z.Parts.find? (fun p=>p.Lane_==k)=none:=by
     rw [List.find?_eq_none]
     have:=List.findIdx?_eq_none_iff.1 h
     intro x hx;simpa using this x hx
   rw [this];rfl
  |some i=>
   obtain ⟨hi,h1,h2⟩:=List.findIdx?_eq_some_iff_getElem.1 h
   have:z.Parts.find? (fun p=>p.Lane_==k)=some z.Parts[i]:=by
     rw [List.find?_eq_some_iff_getElem]
     exact ⟨h1,i,hi,rfl,fun j hj=>by simpa using h2 j hj⟩
   rw [this]
   dsimp only
   rw [show decide ((i:Int)<0)=false from bK (by omega),bP,aW hi];rfl
structure ZoneOK (m:Map)(z:Zone):Prop where
  two:2≤z.Parts.length
  six:z.Parts.length≤6
  sig:0≤z.Signal_∧z.Signal_≤m.Signals.length
  rise:Bt m.Lanes.length 0 (z.Parts.map (·.Lane_))=true
  part: ∀p∈z.Parts,0≤p.From∧p.From<p.To∧p.To≤P5 m p.Lane_∧0≤p.Rank∧p.Rank≤100
theorem TO {m:Map}{i:Nat}{z:Zone}(h:zoneE m i z=none):ZoneOK m z:=by
  unfold zoneE at h
  split at h
  ·cases h
  ·rename_i h1
   split at h
   ·cases h
   ·rename_i h2
    split at h
    ·cases h
    ·rename_i h3
     split at h
     ·cases h
     ·rename_i h4
      split at h
      ·cases h
      ·rename_i h5
       refine ⟨by omega,by omega,by omega,by simpa using h4,fun p hp=> ?_⟩
       have:=List.any_eq_false.1 (bZ.2 h5) p hp
       simp only [Rh,bV,bM,not_or,Int.not_lt,Int.not_le,ge_iff_le,gt_iff_lt]at this
       omega
theorem ValR.zoneOK {m:Map}(V:ValR m){z:Zone}(hz:z∈m.Zones):ZoneOK m z:=by
  obtain ⟨i,hi,rfl⟩:=List.mem_iff_getElem.1 hz
  have:=firstE_none.1 V.zoneE i _ (lH hi)
  exact TO this
theorem ZoneOK.lane {m:Map}{z:Zone}(O:ZoneOK m z){p:Part}(hp:p∈z.Parts):0≤p.Lane_∧p.Lane_<m.Lanes.length:=Jo O.rise p.Lane_ (List.mem_map.2 ⟨p,hp,rfl⟩)
theorem VL {m:Map}{k:Int}(h0:0≤k)(h1:k<m.Zones.length): ∃z,m.Zones[k.toNat]? =some z∧B8 m.Zones k=some z:=by
  have hlt:k.toNat<m.Zones.length:=by omega
  refine ⟨m.Zones[k.toNat],lH hlt,?_⟩
  unfold B8
  rw [bQ h0,lH hlt]
theorem cV:Gy=some true:=law04_awake_le _ (by decide+kernel)
theorem Hj (n:Int){m:Int}(hm:0<m):0≤n % m∧n % m<m:=⟨wQ n (by omega),wR n hm⟩
theorem LM {n m:Int}(hm:0<m):n % m=if n.tmod m<0 then n.tmod m+m else n.tmod m:=by
  have a:=wQ n (show m≠0 by omega)
  have b:=wR n hm
  rw [Int.tmod_eq_emod]
  by_cases q:0≤n∨m ∣ n
  ·rw [bQ q,bR (by omega)];omega
  ·rw [bR q]
   have:n % m≠0:=fun e=>q (.inr (Int.dvd_of_emod_eq_zero e))
   rw [bQ (by omega)];omega
theorem Ql {n m:Int}(hm:0<m)(hm2:m≤9223372036854775807):Pb n m=some (n % m):=by
  have h1:=LM (n:=n) hm
  have a:=Hj n hm
  unfold Pb Tl
  rw [bR (by omega),lB]
  by_cases q:n.tmod m<0
  ·rw [bQ q]at h1
   rw [bJ q,bO,E1 (by omega),← h1]
  ·rw [bR q]at h1
   rw [bK q,bP,← h1]
theorem Ui {n m:Int}(hm:0<m)(hm2:m≤9223372036854775807):Nd n m=some (n % m):=by
  have h1:=LM (n:=n) hm
  have a:=Hj n hm
  unfold Nd Tl
  rw [bR (by omega),lB]
  by_cases q:n.tmod m<0
  ·rw [bQ q]at h1
   rw [bJ q,bO,E1 (by omega),← h1]
  ·rw [bR q]at h1
   rw [bK q,bP,← h1]
def NP (kind lim:Int)(next:List Int)(a b c d:Int):Lane:=⟨kind,⟨[⟨a,b⟩,⟨c,d⟩]⟩,if kind=3 then 500 else 1500,lim,next⟩
theorem gB (kind lim:Int)(next:List Int)(a b c d:Int):T0 kind lim next [a,b,c,d]=some (NP kind lim next a b c d):=by
  unfold T0 NP
  rw [K3 (s':=(2,[⟨a,b⟩])) rfl,K3 (s':=(4,[⟨a,b⟩,⟨c,d⟩])) rfl,C5 (t:= [⟨a,b⟩,⟨c,d⟩]) rfl,lB]
  by_cases h:kind=3
  ·rw [bQ h,h];rfl
  ·rw [bR h,show (kind==3)=false by simpa using h];rfl
def kV (off a b:Int):Signal:=⟨off,[⟨12,[a]⟩,⟨5,[]⟩,⟨9,[b]⟩,⟨4,[]⟩]⟩
/-- The numbers of which a map of the kit is made. -/
structure Par where
  lim:Int
  r:Int
  o:Int
  o':Int
  ver:Int
  wk:List Work
structure ParOK (p:Par):Prop where
  lim:p.lim=1500∨p.lim=600∨p.lim=1000∨p.lim=300
  r:p.r=0∨p.r=1
  o:0≤p.o∧p.o<31
  o':0≤p.o'∧p.o'<31
  ver:0≤p.ver∧p.ver<5
  wk:p.wk= []∨∃b l,0≤b∧b<40∧0≤l∧l≤400∧p.wk= [⟨0,10000,15000,b,b+20,l⟩]
def Kx (k:Nat)(lim:Int):List Lane:=match k with
  |0=> [NP 1 lim [] 0 0 60000 0]
  |1|2=> [NP 1 lim [] 0 0 50000 0,NP 1 1500 [] 30000 (-20000) 30000 20000]
  |3=> [NP 1 lim [1,2] 0 0 30000 0,NP 1 1500 [] 30000 0 60000 0,NP 1 800 [] 30000 0 54000 10000]
  |4=> [NP 1 lim [2] 0 0 30000 0,NP 1 1500 [2] 6000 (-10000) 30000 0,NP 1 1500 [] 30000 0 60000 0]
  |5=> [NP 1 lim [1] 0 0 20000 0,NP 1 lim [] 20000 0 50000 0,NP 3 200 [] 35000 (-8000) 35000 8000]
  |_=> [NP 1 lim [1,2] 0 0 20000 0,NP 1 1500 [] 20000 0 50000 0,NP 1 1000 [] 20000 0 44000 10000,NP 2 700 [] 36000 (-12000) 36000 18000]
def AO (k:Nat)(r:Int):List Zone:=match k with
  |1=> [⟨[⟨0,28000,32000,r⟩,⟨1,18000,22000,2 - 2*r⟩],0⟩]
  |2=> [⟨[⟨0,28000,32000,r⟩,⟨1,18000,22000,2 - 2*r⟩],1⟩]
  |4=> [⟨[⟨0,25000,30000,1⟩,⟨1,20000,26000,0⟩,⟨2,0,5000,0⟩],0⟩]
  |5=> [⟨[⟨1,14000,16000,0⟩,⟨2,6000,10000,3⟩],0⟩]
  |6=> [⟨[⟨1,14000,18000,1⟩,⟨3,10000,14000,0⟩],0⟩,⟨[⟨2,14000,21000,1⟩,⟨3,14500,23000,0⟩],0⟩]
  |7=> [⟨[⟨1,14000,18000,1⟩,⟨3,10000,14000,0⟩],1⟩,⟨[⟨2,14000,21000,1⟩,⟨3,14500,23000,0⟩],2⟩]
  |_=> []
def Sx (k:Nat)(o o':Int):List Signal:=match k with
  |2=> [kV o 0 1]
  |7=> [kV o 1 3,kV o' 2 3]
  |_=> []
def CS (k:Nat)(p:Par):Map:=⟨p.ver,Kx k p.lim,AO k p.r,Sx k p.o p.o',p.wk⟩
theorem TP (n:Int): ∃k p,k<8∧ParOK p∧Xy n=some (CS k p):=by
  obtain ⟨h0,h1⟩:=Hj n (show (0:Int)<16777216 by decide)
  unfold Xy
  rw [Ql (by decide) (by decide),lB]
  generalize n % 16777216=v at h0 h1
  have t: ∀m:Int,0<m→v.tdiv m=v / m:=fun m hm=>by rw [wO h0]
  have u: ∀x m:Int,0≤x→x.tmod m=x % m:=fun x m hx=>by rw [wP hx]
  have d: ∀m:Int,0<m→0≤v / m∧v / m<16777216:=fun m hm=>⟨Int.ediv_nonneg h0 (by omega),Int.lt_of_le_of_lt (Int.ediv_le_self m h0) h1⟩
  have W: ∀m:Int,0<m→D2 (v / m)=v / m:=fun m hm=>E1 (by have:=d m hm;omega)
  rw [t 7 (by decide),t 28 (by decide),t 56 (by decide),t 1736 (by decide),t 5208 (by decide),t 208320 (by decide)]
  rw [W 7 (by decide),W 28 (by decide),W 56 (by decide),W 1736 (by decide),W 5208 (by decide),W 208320 (by decide)]
  rw [u (v / 7) _ (d 7 (by decide)).1,u (v / 28) 2 (d 28 (by decide)).1,u (v / 28) 31 (d 28 (by decide)).1,u (v / 56) 31 (d 56 (by decide)).1,u (v / 56) 17 (d 56 (by decide)).1,u (v / 1736) _ (d 1736 (by decide)).1,u (v / 5208) _ (d 5208 (by decide)).1,u (v / 208320) _ (d 208320 (by decide)).1,u v _ h0,u (v / 28) 5 (d 28 (by decide)).1]
  have b1:=Hj (v / 7) (show (0:Int)<4 by decide)
  have b2:=Hj (v / 28) (show (0:Int)<2 by decide)
  have b3:=Hj (v / 28) (show (0:Int)<31 by decide)
  have b4:=Hj (v / 56) (show (0:Int)<31 by decide)
  have b5:=Hj (v / 56) (show (0:Int)<17 by decide)
  have b6:=Hj (v / 5208) (show (0:Int)<40 by decide)
  have b7:=Hj (v / 208320) (show (0:Int)<3 by decide)
  have b8:=Hj v (show (0:Int)<7 by decide)
  have b9:=Hj (v / 28) (show (0:Int)<5 by decide)
  generalize v / 7 % 4=q1 at b1
  generalize v / 28 % 2=q2 at b2
  generalize v / 28 % 31=q3 at b3
  generalize v / 56 % 31=q4 at b4
  generalize v / 56 % 17=q5 at b5
  generalize v / 5208 % 40=q6 at b6
  generalize v / 208320 % 3=q7 at b7
  generalize v % 7=q8 at b8
  generalize v / 28 % 5=q9 at b9
  have e1: ∃lim:Int,B8 ([1500,600,1000,300]:List Int) q1=some lim∧(lim=1500∨lim=600∨lim=1000∨lim=300):=by
    rcases (show q1=0∨q1=1∨q1=2∨q1=3 by omega)with rfl|rfl|rfl|rfl
    ·exact ⟨1500,rfl,by decide⟩
    ·exact ⟨600,rfl,by decide⟩
    ·exact ⟨1000,rfl,by decide⟩
    ·exact ⟨300,rfl,by decide⟩
  obtain ⟨lim,e1,hlim⟩:=e1
  rw [e1,lB]
  have ew: ∀(L:List Lane) (Z:List Zone) (S:List Signal),∃wk,(wk= []∨∃b l,0≤b∧b<40∧0≤l∧l≤400∧wk= [⟨0,10000,15000,b,b+20,l⟩])∧
   (cond (v / 1736 % 3==1) (some (Map.mk q9 L Z S [(Work.mk 0 10000 15000 q6 (D2 (q6+20)) (D2 (q7*200)))])) (some (Map.mk q9 L Z S [])))=some ⟨q9,L,Z,S,wk⟩:=by
    intro L Z S
    cases v / 1736 % 3==1
    ·exact ⟨[], .inl rfl,rfl⟩
    ·exact ⟨[⟨0,10000,15000,q6,q6+20,q7*200⟩], .inr ⟨q6,q7*200,by omega,by omega,by omega,by omega,rfl⟩,by rw [E1 (by omega),E1 (by omega)];rfl⟩
  have er:D2 (2 - D2 (2*q2))=2 - 2*q2:=by rw [E1 (n:=2*q2) (by omega),E1 (by omega)]
  rw [er]
  simp only [gB,lB]
  have fin: ∀(k:Nat) (o o':Int) (L:List Lane) (Z:List Zone) (S:List Signal),k<8→0≤o∧o<31→0≤o'∧o'<31→L=Kx k lim→Z=AO k q2→S=Sx k o o'→∃k p,k<8∧ParOK p∧(cond (v / 1736 % 3==1) (some (Map.mk q9 L Z S [(Work.mk 0 10000 15000 q6 (D2 (q6+20)) (D2 (q7*200)))])) (some (Map.mk q9 L Z S [])))=some (CS k p):=by
    intro k o o' L Z S hk h1 h2 e1 e2 e3
    obtain ⟨wk,w1,w2⟩:=ew L Z S
    subst e1 e2 e3
    exact ⟨k,⟨lim,q2,o,o',q9,wk⟩,hk,⟨hlim,by dsimp only;omega,h1,h2,b9,w1⟩,w2⟩
  rcases (show q8=0∨q8=1∨q8=2∨q8=3∨q8=4∨q8=5∨q8=6 by omega)with rfl|rfl|rfl|rfl|rfl|rfl|rfl
  ·exact fin 0 0 0 _ _ _ (by decide) (by decide) (by decide) rfl rfl rfl
  ·exact fin 1 0 0 _ _ _ (by decide) (by decide) (by decide) rfl rfl rfl
  ·exact fin 2 q3 0 _ _ _ (by decide) b3 (by decide) rfl rfl rfl
  ·exact fin 3 0 0 _ _ _ (by decide) (by decide) (by decide) rfl rfl rfl
  ·exact fin 4 0 0 _ _ _ (by decide) (by decide) (by decide) rfl rfl rfl
  ·exact fin 5 0 0 _ _ _ (by decide) (by decide) (by decide) rfl rfl rfl
  ·rcases (show q2=0∨q2=1 by omega)with rfl|rfl
   ·exact fin 6 0 0 _ _ _ (by decide) (by decide) (by decide) rfl rfl rfl
   ·exact fin 7 q4 q5 _ _ _ (by decide) b4 (by omega) rfl rfl rfl
theorem XG:((List.range 8).all fun k=>([1500,600,1000,300]:List Int).all fun lim=>([0,1]:List Int).all fun r=>(@Bl U6) (CS k ⟨lim,r,0,0,0,[]⟩)==some 0)=true:=by decide+kernel
theorem QM (k:Nat)(lim:Int):(Kx k lim).length≤4∧∀l∈Kx k lim,l.Curve_.Pts.length=2∧l.Next.length≤2:=by
  unfold Kx
  split<;>simp [NP]
theorem ER (k:Nat)(r:Int):(AO k r).length≤2∧∀z∈AO k r,z.Parts.length≤3:=by
  unfold AO
  split<;>simp
theorem TQ (k:Nat)(o o':Int):(Sx k o o').length≤2∧∀s∈Sx k o o',s.Phases.length=4∧∀p∈s.Phases,p.Green.length≤1:=by
  unfold Sx
  split<;>simp [kV]
theorem VM {m:Map}{k:Nat}{lim r o o':Int}(h1:m.Lanes=Kx k lim)(h2:m.Zones=AO k r)(h3:m.Signals=Sx k o o')(h4:m.Works.length≤1):BearM m:=by
  obtain ⟨a1,a2⟩:=QM k lim
  obtain ⟨b1,b2⟩:=ER k r
  obtain ⟨c1,c2⟩:=TQ k o o'
  refine ⟨⟨by rw [h1];omega,fun l hl=> ?_⟩,⟨by rw [h3];omega,fun s hs=>⟨?_,fun p hp=> ?_⟩⟩,⟨by rw [h2];omega,fun z hz=> ?_⟩,⟨by omega⟩⟩
  ·rw [h1]at hl;have:=a2 l hl;omega
  ·rw [h3]at hs;have:=(c2 s hs).1;omega
  ·rw [h3]at hs;have:=(c2 s hs).2 p hp;omega
  ·rw [h2]at hz;have:=b2 z hz;omega
theorem ParOK.wk1 {p:Par}(h:ParOK p):p.wk.length≤1:=by
  rcases h.wk with e|⟨b,l,_,_,_,_,e⟩<;>rw [e]<;>simp
theorem cW {k:Nat}{p:Par}(h:ParOK p):BearM (CS k p):=VM rfl rfl rfl h.wk1
theorem mS {k:Nat}{p:Par}(hk:k<8)(h:ParOK p):ValR (CS k ⟨p.lim,p.r,0,0,0,[]⟩):=by
  have h1:=lY.1 XG k (List.mem_range.2 hk)
  have h2:=lY.1 h1 p.lim (by have:=h.lim;simp;omega)
  have h3:=lY.1 h2 p.r (by have:=h.r;simp;omega)
  have h4:=roads_Check_le _ _ (eq_of_beq h3)
  have h5:=Ml (m:=CS k ⟨p.lim,p.r,0,0,0,[]⟩) (VM rfl rfl rfl (wI 1))
  rw [h4]at h5
  exact chkR_zero.1 (lD h5).symm
/-- Another version, other offsets, other works. -/
theorem ValR.change {L:List Lane}{Z:List Zone}{S S':List Signal}{W W':List Work}{v v':Int}(V:ValR ⟨v,L,Z,S,W⟩)(hv:0≤v'∧v'≤1099511627776)(hl:S'.length=S.length)(hs: ∀s∈S',World.signalE ⟨v,L,Z,S,W⟩ 0 s=none)(hw:W'.length≤8)(hw': ∀w∈W',World.workE ⟨v,L,Z,S,W⟩ 0 w=none):ValR ⟨v',L,Z,S',W'⟩:=by
  refine ⟨hv,V.pos,V.lanes,V.zones,by show S'.length≤4;rw [hl];exact V.signals,hw,V.laneE,V.nextE,?_,?_,?_⟩
  ·rw [firstE_none]
   intro j a ha
   exact hs a (lG ha)
  ·have:=V.zoneE
   rw [firstE_none]at this ⊢
   intro j a ha
   have:=this j a ha
   unfold World.zoneE at this ⊢
   dsimp only at this ⊢
   rw [hl]
   exact this
  ·rw [firstE_none]
   intro j a ha
   exact hw' a (lG ha)
theorem XH (k:Nat)(o o' a a':Int):(Sx k o o').length=(Sx k a a').length:=by unfold Sx;split<;>rfl
theorem cX {k:Nat}{o o':Int}(h:0≤o∧o<31)(h':0≤o'∧o'<31){m:Map}(hm:m.Lanes.length=(Kx k 0).length): ∀s∈Sx k o o',signalE m 0 s=none:=by
  have key: ∀(off a b:Int),0≤off∧off<31→0≤a∧a<m.Lanes.length→0≤b∧b<m.Lanes.length→signalE m 0 (kV off a b)=none:=by
    intro off a b h1 h2 h3
    unfold signalE kV
    simp only [lL,lN]
    rw [bR (by decide),bR (by decide),bR (by simp [Tg];omega),bR (by simp [Tg]),bR]
    simp only [bH,List.any_nil,Bt,Bool.and_true,Bool.or_false,bW,bY,bV,Bool.not_eq_true',not_or,Bool.not_eq_false,bU,bM]
    omega
  intro s hs
  unfold Sx at hs
  split at hs
  ·rw [show (Kx 2 0).length=2 from rfl]at hm
   simp only [bI]at hs
   subst hs
   exact key _ _ _ h (by omega) (by omega)
  ·rw [show (Kx 7 0).length=4 from rfl]at hm
   simp only [lU,List.not_mem_nil,or_false]at hs
   rcases hs with rfl|rfl
   ·exact key _ _ _ h (by omega) (by omega)
   ·exact key _ _ _ h' (by omega) (by omega)
  ·cases hs
theorem TR (k:Nat)(lim:Int):(Kx k lim).length=(Kx k 0).length:=by unfold Kx;split<;>rfl
theorem Ya (c:Int)(h:(@Ck U6) ⟨[⟨0,0⟩,⟨c,0⟩]⟩=some c):Pe ⟨[⟨0,0⟩,⟨c,0⟩]⟩=c:=by
  have h1:=curve_Length_le _ _ h
  rw [Uv _ (by simp)]at h1
  exact lD h1
/-- The first lane of a map of the kit: a road, long enough. -/
theorem ES (k:Nat)(lim:Int): ∃l,(Kx k lim)[0]? =some l∧l.Kind=1∧l.Limit=lim∧20000≤Pe l.Curve_∧Pe l.Curve_≤60000:=by
  have e6:=Ya 60000 (by decide+kernel)
  have e5:=Ya 50000 (by decide+kernel)
  have e3:=Ya 30000 (by decide+kernel)
  have e2:=Ya 20000 (by decide+kernel)
  unfold Kx
  split
  ·exact ⟨_,rfl,rfl,rfl,by show 20000≤Pe ⟨[⟨0,0⟩,⟨60000,0⟩]⟩∧Pe ⟨[⟨0,0⟩,⟨60000,0⟩]⟩≤60000;rw [e6];decide⟩
  ·exact ⟨_,rfl,rfl,rfl,by show 20000≤Pe ⟨[⟨0,0⟩,⟨50000,0⟩]⟩∧Pe ⟨[⟨0,0⟩,⟨50000,0⟩]⟩≤60000;rw [e5];decide⟩
  ·exact ⟨_,rfl,rfl,rfl,by show 20000≤Pe ⟨[⟨0,0⟩,⟨50000,0⟩]⟩∧Pe ⟨[⟨0,0⟩,⟨50000,0⟩]⟩≤60000;rw [e5];decide⟩
  ·exact ⟨_,rfl,rfl,rfl,by show 20000≤Pe ⟨[⟨0,0⟩,⟨30000,0⟩]⟩∧Pe ⟨[⟨0,0⟩,⟨30000,0⟩]⟩≤60000;rw [e3];decide⟩
  ·exact ⟨_,rfl,rfl,rfl,by show 20000≤Pe ⟨[⟨0,0⟩,⟨30000,0⟩]⟩∧Pe ⟨[⟨0,0⟩,⟨30000,0⟩]⟩≤60000;rw [e3];decide⟩
  ·exact ⟨_,rfl,rfl,rfl,by show 20000≤Pe ⟨[⟨0,0⟩,⟨20000,0⟩]⟩∧Pe ⟨[⟨0,0⟩,⟨20000,0⟩]⟩≤60000;rw [e2];decide⟩
  ·exact ⟨_,rfl,rfl,rfl,by show 20000≤Pe ⟨[⟨0,0⟩,⟨20000,0⟩]⟩∧Pe ⟨[⟨0,0⟩,⟨20000,0⟩]⟩≤60000;rw [e2];decide⟩
theorem mT {m:Map}{l:Lane}(hl:m.Lanes[0]? =some l)(hk:l.Kind=1){w:Work}(h:w.Lane_=0∧0≤w.From∧w.From≤w.To∧w.To≤Pe l.Curve_∧0≤w.Begin∧w.Begin<w.End∧w.End≤1099511627776∧0≤w.Limit∧w.Limit≤2000):workE m 0 w=none:=by
  obtain ⟨h1,h2,h3,h4,h5,h6,h7,h8,h9⟩:=h
  have hlen:=H8 hl
  unfold workE P5
  rw [h1,show ((0:Int).toNat)=0 from rfl,hl,bR (by omega),bR]
  simp only [lF,Option.getD_some,Option.get!_some,hk,Tg,T6,if_true,bV,bM,Bool.not_eq_true',not_or,Bool.not_eq_false,bU]
  omega
/-- A map of the kit is valid, with such works. -/
theorem cY {k:Nat}{p:Par}(hk:k<8)(h:ParOK p){W:List Work}(hw:W.length≤8)(hW: ∀w∈W,w.Lane_=0∧0≤w.From∧w.From≤w.To∧w.To≤P5 (CS k p) 0∧0≤w.Begin∧w.Begin<w.End∧w.End≤1099511627776∧0≤w.Limit∧w.Limit≤2000):ValR ⟨p.ver,Kx k p.lim,AO k p.r,Sx k p.o p.o',W⟩:=by
  have V:=mS hk h
  obtain ⟨l,l1,l2,l3,l4,l5⟩:=ES k p.lim
  have hv:=h.ver
  refine ValR.change (v:=0) (S:=Sx k 0 0) (W:= []) V (by omega) (XH k _ _ _ _) (fun s hs=>cX h.o h.o' (by exact TR k p.lim) s hs) hw (fun w hwm=> ?_)
  obtain ⟨a1,a2,a3,a4,a5,a6,a7,a8,a9⟩:=hW w hwm
  refine mT (l:=l) l1 l2 ⟨a1,a2,a3,?_,a5,a6,a7,a8,a9⟩
  have:P5 (CS k p) 0=Pe l.Curve_:=by
    unfold P5 CS
    dsimp only
    rw [show ((0:Int).toNat)=0 from rfl,l1];rfl
  omega
theorem XI (k:Nat)(p:Par):20000≤P5 (CS k p) 0∧P5 (CS k p) 0≤60000:=by
  obtain ⟨l,l1,l2,l3,l4,l5⟩:=ES k p.lim
  unfold P5 CS
  dsimp only
  rw [show ((0:Int).toNat)=0 from rfl,l1]
  exact ⟨l4,l5⟩
theorem gC {k:Nat}{p:Par}(hk:k<8)(h:ParOK p):ValR (CS k p):=by
  have hl:=XI k p
  refine cY hk h (wL h.wk1 (by decide)) (fun w hw=> ?_)
  rcases h.wk with e|⟨b,l,h1,h2,h3,h4,e⟩
  ·rw [e]at hw;cases hw
  ·rw [e]at hw
   simp only [bI]at hw
   subst hw
   dsimp only
   omega
/-! ### Limits -/
end Go.Abs.World
namespace Go.Abs
theorem Dc {α β:Type}{g:Nat→α→Option β}{x:β}: ∀{l:List α} {i:Nat},x∈Dy g i l↔∃j a,l[j]? =some a∧g (i+j) a=some x
  | [],i=>by simp [Dy]
  |a::r,i=>by
   unfold Dy
   have ih:=Dc (g:=g) (x:=x) (l:=r) (i:=i+1)
   have sh:(∃j b,(a::r)[j]? =some b∧g (i+j) b=some x)↔g i a=some x∨∃j b,r[j]? =some b∧g (i+1+j) b=some x:=by
     constructor
     ·rintro ⟨j,b,h1,h2⟩
      cases j with
      |zero=>simp at h1;subst h1;exact .inl h2
      |succ j=>exact .inr ⟨j,b,by simpa using h1,by rwa [show i+1+j=i+ (j+1) by omega]⟩
     ·rintro (h|⟨j,b,h1,h2⟩)
      ·exact ⟨0,a,rfl,h⟩
      ·exact ⟨j+1,b,by simpa using h1,by rwa [show i+ (j+1)=i+1+j by omega]⟩
   rw [sh,← ih]
   cases h:g i a with
   |none=>simp
   |some b=>simp [eq_comm]
end Go.Abs
namespace Go.Abs.World
open Go Go.Abs
theorem mem_before {m:Map}{k x:Int}:x∈Bu m k↔∃(i:Nat) (l:Lane),m.Lanes[i]? =some l∧k∈l.Next∧x=(i:Int):=by
  unfold Bu
  rw [Dc]
  refine exists_congr fun i=>exists_congr fun l=>and_congr_right fun _=> ?_
  rw [wK]
  by_cases h:l.Next.contains k=true
  ·rw [bQ h]
   simp only [Option.some.injEq]
   exact ⟨fun e=>⟨by simpa using h,e.symm⟩,fun e=>e.2.symm⟩
  ·rw [bR h]
   simp only [reduceCtorEq,false_iff,not_and]
   intro hk
   exact absurd (by simpa using hk) h
theorem mem_origins {m:Map}{x:Int}:x∈S3 m↔0≤x∧x<m.Lanes.length∧Bu m x= []:=by
  unfold S3
  rw [Dc]
  constructor
  ·rintro ⟨i,l,h1,h2⟩
   have:=H8 h1
   split at h2
   ·rename_i h
    cases h2
    rw [wK]at h ⊢
    exact ⟨by omega,by omega,l8 h⟩
   ·cases h2
  ·rintro ⟨h0,h1,h2⟩
   have hlt:x.toNat<m.Lanes.length:=by omega
   refine ⟨x.toNat,m.Lanes[x.toNat],lH hlt,?_⟩
   rw [wK,show ((x.toNat:Nat):Int)=x by omega,h2];rfl
theorem NQ {m:Map}(V:ValR m){p k:Int}(h:p∈Bu m k):0≤p∧p<k∧k<m.Lanes.length∧Qk m p.toNat k=true:=by
  obtain ⟨i,l,h1,h2,rfl⟩:=mem_before.1 h
  have hk:=V.next h1 h2
  refine ⟨by omega,hk.1,hk.2,?_⟩
  rw [Xz V,lZ,wF]
  refine ⟨k,by unfold nextOf;rw [h1];exact h2,by simp⟩
/-- Each lane is a source, or a source leads to it. -/
theorem LN {m:Map}(V:ValR m): ∀(n:Nat) (a:Int),0≤a→a<m.Lanes.length→a<n→∃s∈S3 m,s=a∨Qk m s.toNat a=true
  |0,a,h0,h1,h2=>by omega
  |n+1,a,h0,h1,h2=>by
   cases hb:Bu m a with
   |nil=>exact ⟨a,mem_origins.2 ⟨h0,h1,hb⟩, .inl rfl⟩
   |cons p r=>
    obtain ⟨p0,p1,p2,p3⟩:=NQ V (show p∈Bu m a by rw [hb];simp)
    obtain ⟨s,s1,s2⟩:=LN V n p p0 (by omega) (by omega)
    refine ⟨s,s1, .inr ?_⟩
    rcases s2 with rfl|s2
    ·exact p3
    ·have e:((p.toNat:Nat):Int)=p:=by omega
     exact EQ V (b:=p.toNat) p3 m.Lanes.length s.toNat (by omega) (by rw [e];exact s2)
/-! ### How long lanes are -/
theorem cZ: ∀(l:List Int) (s:Int),(∀x∈l,0≤x∧x≤1048576)→0≤s→s+1048576*l.length≤9000000000000000000→s≤AL s l∧AL s l≤s+1048576*l.length
  | [],s,_,_,_=>by simp [AL]
  |a::r,s,h,h0,h1=>by
   have ha:=h a (by simp)
   simp only [lL]at h1 ⊢
   rw [AL,E1 (by omega)]
   have:=cZ r (s+a) (fun x hx=>h x (by simp [hx])) (by omega) (by omega)
   omega
theorem dA: ∀{l:List Spot} {last:Option CurveVector},Good last l→∀x∈Yn l,1000≤x∧x≤1048576:=by
  intro l last h
  induction h with
  |one last p=>intro x hx;simp [Yn]at hx
  |cons last p q r h1 h2 h3 h4 h ih=>
   intro x hx
   rw [Ss,lU]at hx
   rcases hx with rfl|hx
   ·exact ⟨h2,h3⟩
   ·exact ih x hx
theorem gD {c:Curve}(h:Cc c.Pts=0):1000≤Pe c∧Pe c≤16777216:=by
  have V:=checkM_zero.1 h
  unfold Pe Ks
  rw [bQ h]
  have h16:=V.most
  have h2:=V.two
  have hm:=dA V.good
  cases hp:c.Pts with
  |nil=>rw [hp]at h2;simp at h2
  |cons p r=>
   rw [hp]at hm h16 h2
   cases r with
   |nil=>simp at h2
   |cons q r=>
    simp only [lL]at h16
    rw [Ss]at hm ⊢
    have ha:=hm _ (List.mem_cons_self)
    have hl:=Rg r q
    rw [AL,E1 (by omega),Int.zero_add]
    have:=cZ (Yn (q::r)) (rt (M6 (Q8 p q) (Q8 p q))) (fun x hx=>by have:=hm x (List.mem_cons_of_mem _ hx);omega) (by omega) (by rw [hl];omega)
    rw [hl]at this
    omega
theorem ValR.long {m:Map}(V:ValR m){k:Int}(h0:0≤k)(h1:k<m.Lanes.length):1000≤P5 m k∧P5 m k≤16777216:=by
  obtain ⟨l,e1,e2⟩:=Rk h0 h1
  unfold P5
  rw [e1]
  exact gD (V.laneOK e1).curve
/-! ### Routes -/
def Ka (m:Map):Int→List Int→Bool
  |_,[]=>true
  |a,b::r=>(nextOf m a.toNat).contains b&&Ka m b r
noncomputable def P2 (m:Map)(r:List Int):Int:=
  if Sw m≠0 then Sw m
  else match r with
    | []=>13
    |a::t=>if 7<t.length∨a<0∨(m.Lanes.length:Int)≤a∨Bu m a≠ []∨Ka m a t=false then 13 else 0
/-- What a route is. -/
structure RouteOK (m:Map)(a:Int)(t:List Int):Prop where
  val:ValR m
  most:t.length≤7
  first:0≤a∧a<m.Lanes.length
  source:Bu m a= []
  chain:Ka m a t=true
theorem chkRoute_zero {m:Map}{r:List Int}:P2 m r=0↔∃a t,r=a::t∧RouteOK m a t:=by
  unfold P2
  constructor
  ·intro h
   split at h
   ·exact absurd h (by assumption)
   ·rename_i h1
    have V:=chkR_zero.1 (Decidable.not_not.1 h1)
    split at h
    ·cases h
    ·rename_i a t
     split at h
     ·cases h
     ·rename_i h2
      exact ⟨a,t,rfl,V,by omega,by omega,Decidable.not_not.1 fun q=>h2 (.inr (.inr (.inr (.inl q)))),by
        cases q:Ka m a t with
        |true=>rfl
        |false=>exact absurd (.inr (.inr (.inr (.inr q)))) h2⟩
  ·rintro ⟨a,t,rfl,V,h1,h2,h3,h4⟩
   rw [bR (by rw [chkR_zero.2 V];simp)]
   dsimp only
   rw [bR]
   rintro (q|q|q|q|q)
   ·omega
   ·omega
   ·omega
   ·exact q h3
   ·rw [h4]at q;cases q
theorem LO {m:Map}(V:ValR m): ∀{t:List Int} {a:Int},Ka m a t=true→0≤a→∀x∈t,a<x∧x<m.Lanes.length
  | [],_,_,_,x,hx=>by cases hx
  |b::r,a,h,h0,x,hx=>by
   rw [Ka,bU,List.contains_iff_mem]at h
   have hb:=V.nextOf h.1
   rcases lU.1 hx with rfl|hx
   ·omega
   ·have:=LO V h.2 (by omega) x hx;omega
theorem RouteOK.mem {m:Map}{a:Int}{t:List Int}(R:RouteOK m a t){x:Int}(hx:x∈a::t):0≤x∧x<m.Lanes.length:=by
  have:=R.first
  rcases lU.1 hx with rfl|hx
  ·exact this
  ·have:=LO R.val R.chain (by omega) x hx;omega
theorem TS {m:Map}(B:BearM m)(V:ValR m)(l:List Int)(hl:l.length≤1000000): ∀(r:List Int) (i:Nat) (a:Int),l.drop i=r→i≤l.length→0≤a→a<m.Lanes.length→loop (P4 m l) (a,(i:Int))=some (if Ka m a r=true then .inl ()else .inr 13):=by
  intro r
  induction r with
  |nil=>
   intro i a hi hil h0 h1
   have:=N1 hi
   obtain rfl:i=l.length:=by omega
   refine C5 ?_
   unfold P4
   rw [J4];rfl
  |cons b r ih=>
   intro i a hi hil h0 h1
   have hlt:=M3 hi
   have hb:=T4 hi
   obtain ⟨ln,e1,e2⟩:=Rk h0 h1
   have hs:P4 m l (a,(i:Int))=some (if ln.Next.contains b=true then .go (b,((i+1:Nat):Int))else .out (.inr 13)):=by
     unfold P4
     dsimp only
     rw [K4 hlt,B9 hb,bO,lB,e2,lB,Xj _ (B.toBear.pts _ (lG e1)).2,lB,I0 hlt (by omega)]
     cases ln.Next.contains b<;>rfl
   have hn:nextOf m a.toNat=ln.Next:=by unfold nextOf;rw [e1];rfl
   rw [Ka,hn]
   cases q:ln.Next.contains b
   ·rw [q]at hs;rw [C5 hs];rfl
   ·rw [q]at hs
    have hbm:=V.next e1 (List.contains_iff_mem.1 q)
    rw [K3 hs,ih (i+1) b (K2 hi) (by omega) (by omega) (by omega),bS]
theorem Zh {m:Map}(B:BearM m)(r:List Int)(hr:r.length≤1000000):V9 m r=some (P2 m r):=by
  unfold V9 P2
  rw [Ml B,lB]
  by_cases q:Sw m=0
  ·have V:=chkR_zero.1 q
   rw [bR (by simpa using q),show (Sw m !=0)=false by simpa using q,bP]
   cases r with
   |nil=>rfl
   |cons a t=>
    dsimp only
    simp only [lL]at hr ⊢
    by_cases h8:7<t.length
    ·rw [bQ (.inl h8),show ((((t.length+1:Nat):Int)==0)||(decide (((t.length+1:Nat):Int)>8)))=true by simp;omega];rfl
    ·rw [show ((((t.length+1:Nat):Int)==0)||(decide (((t.length+1:Nat):Int)>8)))=false by simp;omega]
     rw [show B8 (a::t) 0=some a from rfl]
     simp only [bX,bO,lB,bY]
     by_cases h0:a<0
     ·rw [bQ (.inr (.inl h0)),bJ h0];rfl
     ·rw [bK h0]
      simp only [bX,bO,lB,bY]
      by_cases h1:(m.Lanes.length:Int)≤a
      ·rw [bQ (.inr (.inr (.inl h1))),show decide (a≥(m.Lanes.length:Int))=true from bJ h1];rfl
      ·rw [show decide (a≥(m.Lanes.length:Int))=false from bK (by omega)]
       simp only [bX,bO,bY]
       rw [lB,XF B,lB]
       by_cases hb:Bu m a= []
       ·rw [hb]
        have e1:Yj (a::t) 1 ((t.length+1:Nat):Int)=some t:=by
          unfold Yj
          rw [bQ (by simp;omega)]
          simp
        rw [e1,show decide ((([]:List Int).length:Int)>0)=false from rfl,bP,lB]
        have:=TS B V t (by omega) t 0 a rfl (by omega) (by omega) (by omega)
        rw [show ((0:Nat):Int)=0 from rfl]at this
        rw [this]
        by_cases hc:Ka m a t=true
        ·rw [bQ hc,bR (by rw [hc];simp;omega)];rfl
        ·rw [bR hc,bQ (.inr (.inr (.inr (.inr (by simpa using hc)))))];rfl
       ·rw [bQ (.inr (.inr (.inr (.inl hb)))),show decide (((Bu m a).length:Int)>0)=true from bJ (by have:=List.length_pos_iff.2 hb;omega)];rfl
  ·rw [bQ q,show (Sw m !=0)=true by simpa using q];rfl
/-- Where the lanes of a route begin. -/
noncomputable def O9 (m:Map):Int→List Int→List Int
  |_,[]=> []
  |s,a::r=>s::O9 m (s+P5 m a) r
noncomputable def Dq (m:Map):Int→List Int→Int
  |s,[]=>s
  |s,a::r=>Dq m (s+P5 m a) r
theorem Li (m:Map): ∀(r:List Int) (s:Int),(O9 m s r).length=r.length
  | [],_=>rfl
  |_::r,_=>by rw [O9,lL,Li m r,lL]
noncomputable def Bh (m:Map)(r:List Int):RoadsWay:=if P2 m r=0 then ⟨m,r,O9 m 0 r,Dq m 0 r⟩else ⟨⟨0,[],[],[],[]⟩,[],[],0⟩
theorem Sy {m:Map}(B:BearM m)(r:List Int)(hr:r.length≤1000000):Z2 m r=some (Bh m r):=by
  unfold Z2 Bh
  rw [Zh B r hr,lB]
  by_cases q:P2 m r=0
  ·rw [bQ q,q]
   obtain ⟨a,t,rfl,R⟩:=chkRoute_zero.1 q
   have key: ∀(l:List Int) (i:Nat) (s:Int) (st:List Int),(a::t).drop i=l→i≤(a::t).length→0≤s→s≤16777216*i→st.length=i→loop (V6 m (a::t)) ((i:Int),(st,s))=some (st++O9 m s l,Dq m s l):=by
     intro l
     induction l with
     |nil=>
      intro i s st hi hil _ _ _
      have:=N1 hi
      obtain rfl:i=(a::t).length:=by omega
      refine C5 ?_
      unfold V6
      rw [J4,O9,Dq,lP];rfl
     |cons x l ih=>
      intro i s st hi hil h0 h1 h2
      have hlt:=M3 hi
      have hx:=T4 hi
      have hm:=R.mem (lG hx)
      have hl:=R.val.long hm.1 hm.2
      have hm7:=R.most
      simp only [lL]at hlt
      rw [K3 (s':=(((i+1:Nat):Int),(st++ [s],s+P5 m x)))]
      ·rw [ih (i+1) _ _ (K2 hi) (by simp;omega) (by omega) (by omega) (by simp [h2]),O9,Dq,lO];rfl
      ·unfold V6
       dsimp only
       rw [K4 (by simpa using hlt),B9 hx,bO,lB,En (by simp;omega),lB,GD B.toBear hm.1 hm.2,lB,I0 hlt (by omega),NY (by omega)]
   have:=key (a::t) 0 0 [] rfl (by omega) (by decide) (by decide) rfl
   rw [show ((0:Nat):Int)=0 from rfl]at this
   show (loop (V6 m (a::t)) (0,([],0))).bind _=_
   rw [this];rfl
  ·rw [bR q,show (P2 m r !=0)=true by simpa using q];rfl
/-- The place in a route at which it enters a zone. -/
noncomputable def Hl (m:Map)(r:List Int)(k:Int):Int:=match m.Zones[k.toNat]? with
  |some z=>if 0≤k∧P2 m r=0 then CP (fun l=>(Lh z l).2) r else -1
  |none=> -1
theorem dB {m:Map}(B:BearM m)(r:List Int)(hr:r.length≤1000000)(k:Int):Gv m r k=some (Hl m r k):=by
  unfold Gv Hl
  rw [Sy B r hr,lB]
  by_cases h:k<0∨(m.Zones.length:Int)≤k
  ·rw [show ((decide (k<0))||(decide (k≥(m.Zones.length:Int))))=true by simpa using h,bO]
   cases hz:m.Zones[k.toNat]? with
   |none=>rfl
   |some z=>
    have:=H8 hz
    dsimp only
    rw [bR (fun x=>by have:=x.1;omega)]
  ·obtain ⟨z,z1,z2⟩:=VL (m:=m) (k:=k) (by omega) (by omega)
   rw [show ((decide (k<0))||(decide (k≥(m.Zones.length:Int))))=false by rw [bZ];simpa using h,bP,z1]
   dsimp only
   have hp:=B.toBearZ.parts z (lG z1)
   have key: ∀l:List Int,l.length≤1000000→I8 l m k=some (CP (fun l=>(Lh z l).2) l):=by
     intro l hl
     unfold I8
     rw [Oa l (fun l=>(Lh z l).2) (by omega) (fun i a h=>by
      have hi:=H8 h
      unfold H7 Z7
      rw [K4 hi,B9 h,bO,lB,z2,lB,gA hp,lB,lB]
      cases (Lh z a).2<;>rfl) (by unfold H7;rw [J4];rfl)]
   unfold Bh
   by_cases q:P2 m r=0
   ·rw [bQ q,bQ ⟨by omega,q⟩,key r hr];rfl
   ·rw [bR q,bR (fun x=>q x.2),key [] (by simp)];rfl
/-- A walk that goes on until it can't. -/
def ET (m:Map):Nat→Int→List Int→Bool
  |c,a,[]=>(nextOf m a.toNat).isEmpty||c==0
  |c,a,b::r=>(nextOf m a.toNat).contains b&&decide (0<c)&&ET m (c - 1) b r
theorem IQ {m:Map}: ∀{r:List Int} {c:Nat} {a:Int},ET m c a r=true→Ka m a r=true∧r.length≤c
  | [],c,a,_=>⟨rfl,wI _⟩
  |b::r,c,a,h=>by
   rw [ET,bU,bU,bM]at h
   have:=IQ h.2
   rw [Ka,h.1.1,this.1]
   refine ⟨rfl,?_⟩
   simp only [lL];omega
theorem QN {m:Map}(V:ValR m): ∀(f:Nat) (x a:Int) (c:Nat) (out:List Int),0≤x→x<16777216→0≤a→a<m.Lanes.length→m.Lanes.length≤a.toNat+f→out.length+c=8→
    ∃r,loop (Ji m) (x,a,out)=some (out++r)∧ET m c a r=true
  |0,x,a,c,out,h0,h1,a0,a1,hf,hc=>by omega
  |f+1,x,a,c,out,h0,h1,a0,a1,hf,hc=>by
   obtain ⟨ln,e1,e2⟩:=Rk a0 a1
   have hn:nextOf m a.toNat=ln.Next:=by unfold nextOf;rw [e1];rfl
   have hfew:=(V.laneOK e1).few
   by_cases q:ln.Next.length=0∨c=0
   ·refine ⟨[],?_,?_⟩
    ·rw [lP]
     refine C5 ?_
     unfold Ji
     dsimp only
     rw [e2,lB]
     rw [show ((decide ((ln.Next.length:Int)>0))&& (decide ((out.length:Int)<8)))=false by simp;omega];rfl
    ·rw [ET,hn]
     rcases q with q|q
     ·rw [l8 q];rfl
     ·rw [q,beq_self_eq_true,Bool.or_true]
   ·have hm:=Hj x (show (0:Int)< (ln.Next.length:Int) by omega)
    have hlt:(x % (ln.Next.length:Int)).toNat<ln.Next.length:=by omega
    have hbm:=V.next e1 (List.getElem_mem hlt)
    have hx:0≤x / (ln.Next.length:Int)∧x / (ln.Next.length:Int)<16777216:=⟨Int.ediv_nonneg h0 (by omega),Int.lt_of_le_of_lt (Int.ediv_le_self _ h0) h1⟩
    obtain ⟨r,r1,r2⟩:=QN V f (x / (ln.Next.length:Int)) ln.Next[(x % (ln.Next.length:Int)).toNat] (c - 1) (out++ [ln.Next[(x % (ln.Next.length:Int)).toNat]]) hx.1 hx.2 (by omega) (by omega) (by omega) (by simp;omega)
    refine ⟨ln.Next[(x % (ln.Next.length:Int)).toNat]::r,?_,?_⟩
    ·rw [lO]at r1
     rw [K3 (s':=(x / (ln.Next.length:Int),ln.Next[(x % (ln.Next.length:Int)).toNat],out++ [ln.Next[(x % (ln.Next.length:Int)).toNat]]))]
     ·exact r1
     ·unfold Ji
      dsimp only
      rw [e2,lB]
      rw [show ((decide ((ln.Next.length:Int)>0))&& (decide ((out.length:Int)<8)))=true by simp;omega,bO,lB,lB]
      unfold Tl NC
      rw [bR (by omega),lB,wP h0,wO h0]
      have e3:B8 ln.Next (x % (ln.Next.length:Int))=some ln.Next[(x % (ln.Next.length:Int)).toNat]:=by
        unfold B8
        rw [bQ hm.1,lH hlt]
      rw [e3,lB,bR (by omega),lB,En (by simp;omega),lB]
      have:IntKind.wrap .i64 (x / (ln.Next.length:Int))=x / (ln.Next.length:Int):=NY (by omega)
      rw [this]
    ·rw [ET,hn,r2,Bool.and_true,bU]
     exact ⟨List.contains_iff_mem.2 (List.getElem_mem hlt),by simp;omega⟩
/-- A route of the kit: it begins at a source, and goes on until it can't. -/
theorem NR {m:Map}(B:BearM m)(V:ValR m)(n:Int): ∃a t,Ib m n=some (a::t)∧a∈S3 m∧ET m 7 a t=true:=by
  unfold Ib
  obtain ⟨s,s1,_⟩:=LN V 1 0 (by decide) (by have:=V.pos;omega) (by decide)
  have h12:=V.lanes
  have ol:(S3 m).length≤12:=wL (Sv _ _ _) h12
  have op:0< (S3 m).length:=List.length_pos_iff.2 (fun e=>by rw [e]at s1;cases s1)
  rw [QL B,lB,show (((S3 m).length:Int)==0)=false by simp only [beq_eq_false_iff_ne];omega,bP,Ql (by decide) (by decide),lB]
  have c:=Hj n (show (0:Int)<1048576 by decide)
  generalize n % 1048576=x at c
  unfold Tl NC
  rw [bR (by omega),lB,wP c.1,wO c.1]
  have hm:=Hj x (show (0:Int)< ((S3 m).length:Int) by omega)
  have hlt:(x % ((S3 m).length:Int)).toNat< (S3 m).length:=by omega
  have e3:B8 (S3 m) (x % ((S3 m).length:Int))=some (S3 m)[(x % ((S3 m).length:Int)).toNat]:=by
    unfold B8
    rw [bQ hm.1,lH hlt]
  have hx:0≤x / ((S3 m).length:Int)∧x / ((S3 m).length:Int)<16777216:=⟨Int.ediv_nonneg c.1 (by omega),by have:=Int.ediv_le_self ((S3 m).length:Int) c.1;omega⟩
  rw [e3,lB,bR (by omega),lB]
  have:IntKind.wrap .i64 (x / ((S3 m).length:Int))=x / ((S3 m).length:Int):=NY (by omega)
  rw [this]
  have hmem:=List.getElem_mem hlt
  have ho:=mem_origins.1 hmem
  obtain ⟨r,r1,r2⟩:=QN V m.Lanes.length (x / ((S3 m).length:Int)) (S3 m)[(x % ((S3 m).length:Int)).toNat] 7 [(S3 m)[(x % ((S3 m).length:Int)).toNat]] hx.1 hx.2 ho.1 ho.2.1 (by omega) rfl
  exact ⟨_,r,by rw [r1];rfl,hmem,r2⟩
theorem dC {m:Map}(V:ValR m){a:Int}{t:List Int}(ha:a∈S3 m)(h:ET m 7 a t=true):RouteOK m a t:=by
  have ho:=mem_origins.1 ha
  have hf:=IQ h
  exact ⟨V,hf.2,⟨ho.1,ho.2.1⟩,ho.2.2,hf.1⟩
end Go.Abs.World
/-! Lists that are sorted, and how an insertion sort makes them. -/
namespace Go.Abs
open Go
/-- What a comparison must satisfy. -/
structure LtOK {α:Type}(lt:α→α→Bool):Prop where
  asym: ∀a b,lt a b=true→lt b a=false
  trans: ∀a b c,lt b a=false→lt c b=false→lt c a=false
def Srt {α:Type}(lt:α→α→Bool)(l:List α):Prop:=l.Pairwise fun a b=>lt b a=false
section
variable {α:Type}
theorem Ta (U V:List α)(x y:α)(n:Int)(h:n=(U.length:Int)):Kd (U++x::V) n y=U++y::V:=by
  subst h
  simp [Kd]
theorem Km (U V:List α)(x:α)(n:Int)(h:n=(U.length:Int)):B8 (U++x::V) n=some x:=by
  subst h
  simp [B8]
theorem TT {Q:List α}(h:Q≠ []): ∃Q' q,Q=Q'++ [q]:=⟨Q.dropLast,Q.getLast h,(List.dropLast_concat_getLast h).symm⟩
variable {lt:α→α→Bool}
theorem Srt.ins (L:LtOK lt){Q1 Q2:List α}{x:α}(h:Srt lt (Q1++Q2))(h1: ∀q∈Q1,lt x q=false)(h2: ∀q∈Q2,lt x q=true):Srt lt (Q1++x::Q2):=by
  unfold Srt at h ⊢
  rw [bC]at h ⊢
  refine ⟨h.1,bB.2 ⟨fun b hb=>L.asym _ _ (h2 b hb),h.2.1⟩,fun a ha b hb=> ?_⟩
  rcases lU.1 hb with rfl|hb
  ·exact h1 a ha
  ·exact h.2.2 a ha b hb
theorem LtOK.irr (L:LtOK lt)(a:α):lt a a=false:=by
  cases h:lt a a with
  |false=>rfl
  |true=>rw [L.asym a a h]at h;cases h
theorem Srt.get (L:LtOK lt){l:List α}(h:Srt lt l){i j:Nat}(hij:i≤j)(hj:j<l.length):lt l[j] l[i]=false:=by
  rcases Nat.lt_or_eq_of_le hij with h1|h1
  ·exact bD.1 h i j (by omega) hj h1
  ·subst h1;exact L.irr _
/-- The first place from which a test fails. -/
theorem gE {F:Int×Int→Option (Stp (Int×Int) Int)}(Q:Nat→Bool)(lo hi:Nat)(hle:lo≤hi)
    (hF: ∀x y:Nat,lo≤x→x<y→y≤hi→F ((x:Int),(y:Int))=some (if Q ((x+y) / 2)then .go ((((x+y) / 2+1:Nat):Int),(y:Int))else .go ((x:Int),(((x+y) / 2:Nat):Int))))
    (hstop: ∀x y:Nat,¬x<y→F ((x:Int),(y:Int))=some (.out (x:Int)))
    (mono: ∀c c',lo≤c→c≤c'→c'<hi→Q c'=true→Q c=true):
    ∃s:Nat,loop F ((lo:Int),(hi:Int))=some (s:Int)∧lo≤s∧s≤hi∧(∀c,lo≤c→c<s→Q c=true)∧∀c,s≤c→c<hi→Q c=false:=by
  have key: ∀(k x y:Nat),y - x≤k→lo≤x→x≤y→y≤hi→(∀c,lo≤c→c<x→Q c=true)→(∀c,y≤c→c<hi→Q c=false)→
   ∃s:Nat,loop F ((x:Int),(y:Int))=some (s:Int)∧lo≤s∧s≤hi∧(∀c,lo≤c→c<s→Q c=true)∧∀c,s≤c→c<hi→Q c=false:=by
    intro k
    induction k with
    |zero=>
     intro x y hk h1 h2 h3 h4 h5
     obtain rfl:x=y:=by omega
     exact ⟨x,C5 (hstop x x (by omega)),h1,h3,h4,h5⟩
    |succ k ih=>
     intro x y hk h1 h2 h3 h4 h5
     by_cases hxy:x<y
     ·have hf:=hF x y h1 hxy h3
      cases hq:Q ((x+y) / 2)with
      |true=>
       rw [hq,bQ rfl]at hf
       obtain ⟨s,g1,g2⟩:=ih ((x+y) / 2+1) y (by omega) (by omega) (by omega) h3 (fun c hc1 hc2=>mono c ((x+y) / 2) hc1 (by omega) (by omega) hq) h5
       exact ⟨s,by rw [K3 hf];exact g1,g2⟩
      |false=>
       rw [hq,bR (by simp)]at hf
       obtain ⟨s,g1,g2⟩:=ih x ((x+y) / 2) (by omega) h1 (by omega) (by omega) h4 (fun c hc1 hc2=>by
         cases hc:Q c with
         |false=>rfl
         |true=>rw [mono ((x+y) / 2) c (by omega) hc1 hc2 hc]at hq;cases hq)
       exact ⟨s,by rw [K3 hf];exact g1,g2⟩
     ·obtain rfl:x=y:=by omega
      exact ⟨x,C5 (hstop x x (by omega)),h1,h3,h4,h5⟩
  exact key (hi - lo) lo hi (wH _) (wH _) hle (wH _) (fun c h1 h2=>absurd h2 (by omega)) (fun c h1 h2=>absurd h2 (by omega))
/-- The inner loop: an element goes down to its place. -/
theorem DT (L:LtOK lt){F:Int×List α→Option (Stp (Int×List α) (List α))}{P T:List α}(N:Nat)
    (hstop: ∀xs,F ((P.length:Int),xs)=some (.out xs))
    (hF: ∀(U V:List α) (q x:α),P.length≤U.length→(U++q::x::V).length=N→F (((U.length:Int)+1),U++q::x::V)=some (if lt x q then .go ((U.length:Int),U++x::q::V)else .out (U++q::x::V))) (x:α):
    ∀(n:Nat) (Q1 Q2:List α),Q1.length=n→Srt lt (Q1++Q2)→(∀q∈Q2,lt x q=true)→(P++Q1++x::Q2++T).length=N→
     ∃Q,loop F (((P.length+Q1.length:Nat):Int),P++Q1++x::Q2++T)=some (P++Q++T)∧Q.Perm (x::(Q1++Q2))∧Srt lt Q:=by
  intro n
  induction n with
  |zero=>
   intro Q1 Q2 hn hs hg hN
   obtain rfl:=List.length_eq_zero_iff.1 hn
   refine ⟨x::Q2,?_,by simp,?_⟩
   ·rw [C5 (by rw [lN,Nat.add_zero];exact hstop _)]
    simp
   ·exact hs.ins L (by simp) hg
  |succ n ih=>
   intro Q1 Q2 hn hs hg hN
   obtain ⟨Q',q,rfl⟩:=TT (Q:=Q1) (by rintro rfl;simp at hn)
   rw [lM,List.length_singleton]at hn
   have e1:P++ (Q'++ [q])++x::Q2++T=(P++Q')++q::x::(Q2++T):=by simp
   have e2:((P.length+ (Q'++ [q]).length:Nat):Int)=((P++Q').length:Int)+1:=by simp;omega
   have hF1:=hF (P++Q') (Q2++T) q x (by simp) (by rw [← e1];exact hN)
   by_cases hl:lt x q=true
   ·rw [bQ hl]at hF1
    obtain ⟨Q,g1,g2,g3⟩:=ih Q' (q::Q2) (by omega) (by simpa using hs) (fun y hy=>by
      rcases lU.1 hy with rfl|hy
      ·exact hl
      ·exact hg y hy) (by rw [← hN];simp)
    refine ⟨Q,?_,g2.trans (by simp),g3⟩
    rw [e1,e2,K3 hF1,← g1]
    congr 1
    simp
   ·rw [bR hl]at hF1
    have hl':lt x q=false:=by simpa using hl
    refine ⟨Q'++ [q]++x::Q2,?_,?_,hs.ins L (fun y hy=> ?_) hg⟩
    ·rw [e1,e2,C5 hF1];simp
    ·have:=List.perm_middle (a:=x) (l₁:=Q'++ [q]) (l₂:=Q2);exact this
    ·rcases lT.1 hy with h|h
     ·have hq:lt q y=false:=by
        unfold Srt at hs
        rw [lO,bC]at hs
        exact hs.2.2 y h q (by simp)
      exact L.trans y q x hq hl'
     ·rw [bI.1 h];exact hl'
/-- The outer loop. -/
theorem LP {F:Int×List α→Option (Stp (Int×List α) (List α))}{P S:List α}(N:Nat)(b:Nat)
    (hend: ∀xs (i:Nat),b≤i→F ((i:Int),xs)=some (.out xs))
    (hF: ∀(Q R:List α) (x:α),(P++Q++x::R++S).length=N→P.length+Q.length<b→Srt lt Q→∃Q',F (((P.length+Q.length:Nat):Int),P++Q++x::R++S)=some (.go (((P.length+Q.length+1:Nat):Int),P++Q'++R++S))∧Q'.Perm (x::Q)∧Srt lt Q'):
    ∀(R Q:List α),(P++Q++R++S).length=N→P.length+Q.length+R.length=b→Srt lt Q→∃Q',loop F (((P.length+Q.length:Nat):Int),P++Q++R++S)=some (P++Q'++S)∧Q'.Perm (Q++R)∧Srt lt Q':=by
  intro R
  induction R with
  |nil=>
   intro Q hN hb hs
   refine ⟨Q,?_,by simp,hs⟩
   rw [C5 (hend _ _ (by simpa using Nat.le_of_eq hb.symm))]
   simp
  |cons x R ih=>
   intro Q hN hb hs
   rw [lL]at hb
   obtain ⟨Q',g1,g2,g3⟩:=hF Q R x hN (by omega) hs
   have hl:Q'.length=Q.length+1:=by rw [g2.length_eq];simp
   obtain ⟨Q2,k1,k2,k3⟩:=ih Q' (by rw [← hN];simp [hl];omega) (by omega) g3
   refine ⟨Q2,?_,k2.trans ((g2.append_right R).trans ?_),k3⟩
   ·rw [K3 g1,← k1,hl]
    congr 1
   ·exact (List.perm_middle (a:=x) (l₁:=Q) (l₂:=R)).symm
end
end Go.Abs
/-! How the lists are sorted. -/
namespace Go.Abs.World
open Go Go.Abs
def VN (a b:Int):Bool:=decide (a<b)
theorem kF:LtOK VN:=⟨fun a b h=>by simp only [VN,bM,wC]at h ⊢;omega,fun a b c h1 h2=>by simp only [VN,wC]at h1 h2 ⊢;omega⟩
theorem gF (a b:Int):Iy a b=some (VN a b):=by
  have h: ∀x:Int,V7 x=some false:=fun x=>by unfold V7;simp
  unfold Iy
  rw [h,lB]
  rfl
theorem XJ {α:Type}(U V:List α)(q x:α):U++q::x::V=(U++ [q])++x::V:=by simp
theorem TU (P T:List Int)(x:Int)(Q:List Int)(hs:Srt VN Q)(hN:(P++Q++x::T).length≤1000000):
    ∃Q',loop (J5 (P.length:Int)) (((P.length+Q.length:Nat):Int),P++Q++x::T)=some (P++Q'++T)∧Q'.Perm (x::Q)∧Srt VN Q':=by
  have hstop: ∀xs,J5 (P.length:Int) ((P.length:Int),xs)=some (.out xs):=fun xs=>by
    unfold J5
    simp only [show decide ((P.length:Int)>(P.length:Int))=false from bK (by omega),bP,bT,lB]
  have hF: ∀(U V:List Int) (q y:Int),P.length≤U.length→(U++q::y::V).length=(P++Q++x::T).length→J5 (P.length:Int) (((U.length:Int)+1),U++q::y::V)=some (if VN y q then .go ((U.length:Int),U++y::q::V)else .out (U++q::y::V)):=fun U V q y hP hl=>by
    unfold J5
    have hb:U.length+2≤1000000:=by rw [← hl]at hN;simp at hN;omega
    have e1:D2 ((U.length:Int)+1 - 1)=(U.length:Int):=by rw [E1 (by omega)];omega
    have g1:B8 (U++q::y::V) ((U.length:Int)+1)=some y:=by rw [XJ];exact Km _ _ _ _ (by simp)
    have g2:B8 (U++q::y::V) (U.length:Int)=some q:=Km _ _ _ _ rfl
    have s1:Kd (U++q::y::V) ((U.length:Int)+1) q=U++q::q::V:=by rw [XJ,Ta _ _ _ _ _ (by simp)];simp
    have g3:B8 (U++q::q::V) (U.length:Int)=some q:=Km _ _ _ _ rfl
    have s2:Kd (U++q::q::V) (U.length:Int) y=U++y::q::V:=Ta _ _ _ _ _ rfl
    simp only [show decide (((U.length:Int)+1)>(P.length:Int))=true from bJ (by omega),bO,bS,e1,g1,g2,s1,g3,s2,lB,gF]
    cases VN y q<;>rfl
  obtain ⟨Q',h1,h2,h3⟩:=DT kF (P:=P) (T:=T) (P++Q++x::T).length hstop hF x Q.length Q [] rfl (by simpa using hs) (by simp) (by simp)
  refine ⟨Q',?_,by simpa using h2,h3⟩
  rw [← h1];congr 1;simp
theorem gG (P A S:List Int)(hN:(P++A++S).length≤1000000):
    ∃A',J3 (P++A++S) (P.length:Int) ((P.length+A.length:Nat):Int)=some (P++A'++S)∧A'.Perm A∧Srt VN A':=by
  unfold J3
  have hend: ∀(xs:List Int) (i:Nat),P.length+A.length≤i→F7 (P.length:Int) ((P.length+A.length:Nat):Int) ((i:Int),xs)=some (.out xs):=fun xs i hi=>by
    unfold F7
    rw [show decide ((i:Int)< ((P.length+A.length:Nat):Int))=false from bK (by omega)];rfl
  simp only [lM]at hN
  have hw:D2 ((P.length:Int)+1)=((P.length+1:Nat):Int):=by rw [E1 (by omega)];omega
  cases A with
  |nil=>
   refine ⟨[],?_,by simp,List.Pairwise.nil⟩
   rw [hw,C5 (hend _ _ (by simp))]
  |cons a A=>
   have hF: ∀(Q R:List Int) (x:Int),(P++Q++x::R++S).length=(P++a::A++S).length→P.length+Q.length<P.length+ (a::A).length→Srt VN Q→∃Q',F7 (P.length:Int) ((P.length+ (a::A).length:Nat):Int) (((P.length+Q.length:Nat):Int),P++Q++x::R++S)=some (.go (((P.length+Q.length+1:Nat):Int),P++Q'++R++S))∧Q'.Perm (x::Q)∧Srt VN Q':=fun Q R x hl hb hs=>by
     obtain ⟨Q',k1,k2,k3⟩:=TU P (R++S) x Q hs (by simp only [lM,lL]at hl hN ⊢;omega)
     refine ⟨Q',?_,k2,k3⟩
     unfold F7
     have e1:P++Q++x::R++S=P++Q++x::(R++S):=by simp
     rw [show decide (((P.length+Q.length:Nat):Int)< ((P.length+ (a::A).length:Nat):Int))=true from bJ (by omega),bO]
     simp only [e1,k1,lB]
     rw [E1 (by simp only [lL]at hN hb;omega)]
     simp
   obtain ⟨A',h1,h2,h3⟩:=LP (lt:=VN) (P:=P) (S:=S) (P++a::A++S).length (P.length+ (a::A).length) hend hF A [a] (by simp) (by simp;omega) (List.pairwise_singleton _ _)
   refine ⟨A',?_,h2,h3⟩
   rw [hw,← h1];congr 1;simp
theorem VO (n:Nat)(h:n≤12): ∃v,Ih (IntKind.wrap .u64 (n:Int))=some v:=by
  have: ∀n:Fin 13,(Ih (IntKind.wrap .u64 ((n.val:Nat):Int))).isSome=true:=by decide+kernel
  exact Option.isSome_iff_exists.1 (this ⟨n,by omega⟩)
theorem gH (xs:List Int)(h:xs.length≤12): ∃ys,N7 xs=some ys∧ys.Perm xs∧Srt VN ys:=by
  obtain ⟨v,hv⟩:=VO _ h
  obtain ⟨ys,h1,h2,h3⟩:=gG [] xs [] (by simp;omega)
  refine ⟨ys,?_,h2,h3⟩
  unfold N7 N2
  rw [hv,lB,C5 (t:=ys)]
  ·rfl
  ·unfold M4
   simp only [lN,wK,lQ,lP]at h1
   have e:D2 ((xs.length:Int) - 0)≤12:=by rw [E1 (by omega)];omega
   rw [show decide (D2 ((xs.length:Int) - 0)≤12)=true from bJ e,bO]
   have h1':J3 xs 0 (xs.length:Int)=some ys:=h1
   rw [h1',lB]
theorem dD:N8=some ():=by
  obtain ⟨v,hv⟩:=VO 0 (by omega)
  unfold N8 N3
  rw [show IntKind.wrap .u64 0=IntKind.wrap .u64 ((0:Nat):Int) from rfl,hv,lB,C5 (t:=())]
  ·rfl
  ·unfold M5 L0
   rw [C5 (t:=())]
   ·rfl
   ·rfl
theorem AP: ∀(l:List Int) (x:Int),x∈Ea l↔x∈l
  | [],_=> .rfl
  | [_],_=> .rfl
  |a::b::r,x=>by
   have ih:=AP (b::r) x
   rw [Ea]
   by_cases e:a=b
   ·subst e
    rw [show (a==a)=true by simp,bO,ih]
    simp
   ·rw [show (a==b)=false by simp [e],bP,lU,ih,lU (a:=x) (b:=a)]
theorem Zi: ∀(l:List Int),l.Pairwise (· ≤ ·)→(Ea l).Pairwise (· < ·)
  | [],_=>List.Pairwise.nil
  | [_],_=>List.pairwise_singleton _ _
  |a::b::r,h=>by
   obtain ⟨h1,h2⟩:=bB.1 h
   have ih:=Zi (b::r) h2
   rw [Ea]
   by_cases e:a=b
   ·rw [show (a==b)=true by simp [e],bO];exact ih
   ·rw [show (a==b)=false by simp [e],bP]
    refine bB.2 ⟨fun x hx=> ?_,ih⟩
    have hx':=(AP _ _).1 hx
    have hb:=h1 b (by simp)
    rcases lU.1 hx' with rfl|hx'
    ·omega
    ·have:=(bB.1 h2).1 x hx';omega
theorem IR: ∀{l m:List Int},l.Pairwise (· < ·)→m.Pairwise (· < ·)→(∀x,x∈l↔x∈m)→l=m
  | [],[],_,_,_=>rfl
  | [],b::m,_,_,h=>absurd ((h b).2 (by simp)) (by simp)
  |a::l,[],_,_,h=>absurd ((h a).1 (by simp)) (by simp)
  |a::l,b::m,h1,h2,h=>by
   obtain ⟨a1,a2⟩:=bB.1 h1
   obtain ⟨b1,b2⟩:=bB.1 h2
   have hab:a=b:=by
     rcases lU.1 ((h a).1 (by simp))with e|e
     ·exact e
     ·rcases lU.1 ((h b).2 (by simp))with e'|e'
      ·exact e'.symm
      ·have:=a1 _ e';have:=b1 _ e;omega
   subst hab
   congr 1
   refine IR a2 b2 fun x=>⟨fun hx=> ?_,fun hx=> ?_⟩
   ·rcases lU.1 ((h x).1 (List.mem_cons_of_mem _ hx))with rfl|e
    ·exact absurd (a1 _ hx) (by omega)
    ·exact e
   ·rcases lU.1 ((h x).2 (List.mem_cons_of_mem _ hx))with rfl|e
    ·exact absurd (b1 _ hx) (by omega)
    ·exact e
structure SigOK (s:Signal):Prop where
  pos:0<s.Phases.length
  many:s.Phases.length≤6
  off:0≤s.Offset∧s.Offset≤1099511627776
  ticks: ∀p∈s.Phases,1≤p.Ticks∧p.Ticks≤10000
  green: ∀p∈s.Phases,p.Green.length≤1000000
theorem ValR.sig {m:Map}(B:BearM m)(V:ValR m){i:Nat}{s:Signal}(h:m.Signals[i]? =some s):SigOK s:=by
  have:=firstE_none.1 V.signalE i s h
  unfold World.signalE at this
  split at this
  ·cases this
  split at this
  ·cases this
  split at this
  ·cases this
  split at this
  ·cases this
  rename_i h1 h2 h3 h4
  refine ⟨by omega,by omega,?_,fun p hp=> ?_,(B.toBearS.phases s (lG h)).2⟩
  ·have:Tg s.Offset 0 1099511627776=true:=by simpa using h3
   simpa [Tg] using this
  ·have:Tg p.Ticks 1 10000=true:=by
     cases q:Tg p.Ticks 1 10000 with
     |true=>rfl
     |false=>exact absurd (lZ.2 ⟨p,hp,by rw [q];rfl⟩) h4
   simpa [Tg] using this
def Mq:List Phase→Int
  | []=>0
  |p::r=>p.Ticks+Mq r
def EU (lane:Int):Int→List Phase→Bool
  |_,[]=>false
  |at_,p::r=>if p.Ticks≤at_ then EU lane (at_ - p.Ticks) r else p.Green.contains lane
def Uj (s:Signal)(lane tick:Int):Bool:=EU lane ((s.Offset+tick) % Mq s.Phases) s.Phases
theorem VP: ∀{l:List Phase},(∀p∈l,1≤p.Ticks∧p.Ticks≤10000)→(l.length:Int)≤Mq l∧Mq l≤10000*l.length
  | [],_=>by simp [Mq]
  |p::r,h=>by
   have:=VP (l:=r) fun q hq=>h q (List.mem_cons_of_mem _ hq)
   have:=h p (by simp)
   simp only [Mq,lL]
   omega
theorem SigOK.sum {s:Signal}(S:SigOK s):1≤Mq s.Phases∧Mq s.Phases≤60000:=by
  have:=VP S.ticks
  have:=S.pos
  have:=S.many
  omega
theorem nU (s:Signal)(S:SigOK s): ∀(r:List Phase) (i:Nat) (a:Int),s.Phases.drop i=r→i≤s.Phases.length→0≤a→a+10000*r.length≤1000000→loop (Bn s) (a,(i:Int))=some (a+Mq r):=by
  intro r
  induction r with
  |nil=>
   intro i a hi hil h0 h1
   have:=N1 hi
   obtain rfl:i=s.Phases.length:=by omega
   refine C5 ?_
   unfold Bn
   rw [J4];simp [Mq]
  |cons p r ih=>
   intro i a hi hil h0 h1
   have hlt:=M3 hi
   have hp:=T4 hi
   have hb:=S.ticks p (lG hp)
   simp only [lL]at h1
   have hs:Bn s (a,(i:Int))=some (.go (a+p.Ticks,((i+1:Nat):Int))):=by
     unfold Bn
     dsimp only
     rw [K4 hlt,B9 hp,bO,lB,E1 (by omega),I0 hlt (by have:=S.many;omega)]
   rw [K3 hs,ih (i+1) _ (K2 hi) (by omega) (by omega) (by omega),Mq]
   congr 1;omega
theorem nV (s:Signal)(S:SigOK s)(lane:Int): ∀(r:List Phase) (i:Nat) (a:Int),s.Phases.drop i=r→i≤s.Phases.length→0≤a→a≤1000000→thenS (loop (T3 s lane) (a,(i:Int))) (fun _=>some false) (fun r=>some r)=some (EU lane a r):=by
  intro r
  induction r with
  |nil=>
   intro i a hi hil h0 h1
   have:=N1 hi
   obtain rfl:i=s.Phases.length:=by omega
   rw [C5 (t:= .inl ())]
   ·rfl
   ·unfold T3
    rw [J4];rfl
  |cons p r ih=>
   intro i a hi hil h0 h1
   have hlt:=M3 hi
   have hp:=T4 hi
   have hb:=S.ticks p (lG hp)
   by_cases hc:p.Ticks≤a
   ·have hs:T3 s lane (a,(i:Int))=some (.go (a - p.Ticks,((i+1:Nat):Int))):=by
      unfold T3
      dsimp only
      rw [K4 hlt,B9 hp,bO,lB,show decide (a≥p.Ticks)=true from bJ hc,bO,E1 (by omega),I0 hlt (by have:=S.many;omega)]
    rw [K3 hs,ih (i+1) _ (K2 hi) (by omega) (by omega) (by omega),EU,bQ hc]
   ·have hs:T3 s lane (a,(i:Int))=some (.out (.inr (p.Green.contains lane))):=by
      unfold T3
      dsimp only
      rw [K4 hlt,B9 hp,bO,lB,show decide (a≥p.Ticks)=false from bK (by omega),bP,Xj _ (S.green p (lG hp)),lB]
    rw [C5 hs,EU,bR hc];rfl
theorem iW {s:Signal}(S:SigOK s){tick:Int}(h:0≤tick):(D2 (s.Offset.tmod (Mq s.Phases)+tick.tmod (Mq s.Phases))).tmod (Mq s.Phases)=(s.Offset+tick) % Mq s.Phases:=by
  obtain ⟨h1,h2⟩:=S.sum
  have ho:=S.off.1
  rw [wP ho,wP h]
  have a1:=wQ s.Offset (b:=Mq s.Phases) (by omega)
  have a2:=wQ tick (b:=Mq s.Phases) (by omega)
  have a3:=wR s.Offset (b:=Mq s.Phases) (by omega)
  have a4:=wR tick (b:=Mq s.Phases) (by omega)
  rw [E1 (by omega),wP (by omega),← Int.add_emod]
theorem LQ {s:Signal}(S:SigOK s)(lane:Int){tick:Int}(h:0≤tick):Ez s lane tick=some (Uj s lane tick):=by
  obtain ⟨h1,h2⟩:=S.sum
  unfold Ez
  have e1:loop (Bn s) (0,0)=some (Mq s.Phases):=by
    have:=nU s S s.Phases 0 0 rfl (by omega) (by omega) (by have:=S.many;omega)
    rw [Int.zero_add]at this;exact this
  have hne:Mq s.Phases≠0:=by omega
  rw [e1,lB]
  unfold Tl
  rw [bR hne,lB,bR hne,lB,bR hne,lB,iW S h]
  refine nV s S lane s.Phases 0 _ rfl (by omega) (wQ _ hne) ?_
  have:=wR (s.Offset+tick) (b:=Mq s.Phases) (by omega)
  omega
noncomputable def DU (m:Map)(g lane tick:Int):Bool:=(((decide (tick≥0))&& (decide (g≥0)))&& (decide (g< (m.Signals.length:Int))))&&NZ m lane&&Uj (m.Signals.getD g.toNat default) lane tick
theorem dE {m:Map}(B:BearM m)(g lane tick:Int):Gw m g lane tick=some (DU m g lane tick):=by
  unfold Gw DU
  rw [Xi B]
  cases hc:(((decide (tick≥0))&& (decide (g≥0)))&& (decide (g< (m.Signals.length:Int))))
  ·rfl
  ·cases hi:NZ m lane
   ·rfl
   ·simp only [bU,bM]at hc
    obtain ⟨⟨c1,c2⟩,c3⟩:=hc
    have hl:g.toNat<m.Signals.length:=by omega
    have hget:m.Signals[g.toNat]? =some (m.Signals.getD g.toNat default):=by rw [List.getD,lH hl];rfl
    have hg:B8 m.Signals g=some (m.Signals.getD g.toNat default):=by unfold B8;rw [bQ c2,hget]
    have S:=((isM_true.1 hi).2.2).sig B hget
    simp only [bO,lB,bS,hg,LQ S lane c1]
theorem Ky {high:Int}: ∀{l:List Int} {low:Int},Bt high low l=true→l.Pairwise (· < ·)
  | [],_,_=>List.Pairwise.nil
  |n::r,low,h=>by
   simp only [Bt,bU]at h
   refine bB.2 ⟨fun x hx=> ?_,Ky h.2⟩
   have:=(Jo h.2 x hx).1
   omega
def Uy (m:Map)(z:Zone):Signal:=m.Signals.getD (z.Signal_ - 1).toNat default
def Jc (m:Map)(lane tick:Int)(z:Zone)(p:Part):Option Int:=if p.Lane_==lane&& !Uj (Uy m z) lane tick then some p.From else none
def Bv (m:Map)(lane tick:Int)(z:Zone):List Int:=if z.Signal_==0 then []else z.Parts.filterMap (Jc m lane tick z)
def IS (m:Map)(lane tick:Int):List Int:=m.Zones.flatMap (Bv m lane tick)
theorem QO (m:Map)(lane tick:Int)(z:Zone): ∀l:List Part,(l.map (·.Lane_)).Pairwise (· < ·)→(l.filterMap (Jc m lane tick z)).length≤1
  | [],_=>by simp
  |p::r,h=>by
   obtain ⟨h1,h2⟩:=bB.1 h
   rw [List.filterMap_cons]
   by_cases e:p.Lane_=lane
   ·have:r.filterMap (Jc m lane tick z)= []:=by
      rw [List.filterMap_eq_nil_iff]
      intro q hq
      have:p.Lane_<q.Lane_:=h1 q.Lane_ (List.mem_map_of_mem hq)
      unfold Jc
      rw [show (q.Lane_==lane)=false by simp;omega];rfl
    rw [this]
    cases Jc m lane tick z p<;>simp
   ·have:Jc m lane tick z p=none:=by unfold Jc;rw [show (p.Lane_==lane)=false by simp [e]];rfl
    rw [this]
    exact QO m lane tick z r h2
theorem Zj {m:Map}{z:Zone}(Z:ZoneOK m z)(lane tick:Int):(Bv m lane tick z).length≤1:=by
  unfold Bv
  split
  ·simp
  ·exact QO m lane tick z _ (Ky Z.rise)
theorem QP {m:Map}(lane tick:Int): ∀l:List Zone,(∀z∈l,ZoneOK m z)→(l.flatMap (Bv m lane tick)).length≤l.length
  | [],_=>by simp
  |z::r,h=>by
   rw [bF,lM,lL]
   have:=Zj (h z (by simp)) lane tick
   have:=QP lane tick r fun y hy=>h y (List.mem_cons_of_mem _ hy)
   omega
theorem kG {m:Map}(B:BearM m)(V:ValR m)(lane:Int){tick:Int}(ht:0≤tick)(z:Zone)(Z:ZoneOK m z)(hz:z.Signal_≠0): ∀(r:List Part) (i:Nat) (out:List Int),z.Parts.drop i=r→i≤z.Parts.length→out.length+r.length≤1000→
    loop (Z8 m lane tick z) (out,(i:Int))=some (out++r.filterMap (Jc m lane tick z)):=by
  intro r
  induction r with
  |nil=>
   intro i out hi hil hl
   have:=N1 hi
   obtain rfl:i=z.Parts.length:=by omega
   refine C5 ?_
   unfold Z8
   rw [J4];simp
  |cons p r ih=>
   intro i out hi hil hl
   have hlt:=M3 hi
   have hp:=T4 hi
   have hsz:=Z.six
   simp only [lL]at hl
   have hw:D2 (z.Signal_ - 1)=z.Signal_ - 1:=E1 (by have:=Z.sig;have:=V.signals;omega)
   have hk:(z.Signal_ - 1).toNat<m.Signals.length:=by have:=Z.sig;omega
   have hget:m.Signals[(z.Signal_ - 1).toNat]? =some (Uy m z):=by rw [Uy,List.getD,lH hk];rfl
   have hg:B8 m.Signals (z.Signal_ - 1)=some (Uy m z):=by unfold B8;rw [bQ (by have:=Z.sig;omega),hget]
   have hs:Z8 m lane tick z (out,(i:Int))=some (.go ((match Jc m lane tick z p with|some b=>out++ [b]|none=>out),((i+1:Nat):Int))):=by
     unfold Z8 Jc
     dsimp only
     rw [K4 hlt,B9 hp,bO,lB,hw,hg,I0 hlt (by omega)]
     cases p.Lane_==lane
     ·rfl
     ·simp only [bO,lB,bS]
      rw [LQ (V.sig B hget) lane ht,lB]
      cases Uj (Uy m z) lane tick
      ·simp only [bX,bO,if_true]
       rw [En (by simp;omega),lB]
      ·rfl
   rw [K3 hs,List.filterMap_cons]
   cases Jc m lane tick z p with
   |none=>exact ih (i+1) out (K2 hi) (by omega) (by omega)
   |some b=>
    dsimp only
    rw [ih (i+1) (out++ [b]) (K2 hi) (by omega) (by simp;omega)]
    simp
theorem kH {m:Map}(B:BearM m)(V:ValR m)(lane:Int){tick:Int}(ht:0≤tick): ∀(r:List Zone) (i:Nat) (out:List Int),m.Zones.drop i=r→i≤m.Zones.length→out.length+r.length≤100→
    loop (Z9 m lane tick) (out,(i:Int))=some (out++r.flatMap (Bv m lane tick)):=by
  intro r
  induction r with
  |nil=>
   intro i out hi hil hl
   have:=N1 hi
   obtain rfl:i=m.Zones.length:=by omega
   refine C5 ?_
   unfold Z9
   rw [J4];simp
  |cons z r ih=>
   intro i out hi hil hl
   have hlt:=M3 hi
   have hz:=T4 hi
   have Z:=V.zoneOK (lG hz)
   simp only [lL]at hl
   have hn:=V.zones
   have hs:Z9 m lane tick (out,(i:Int))=some (.go (out++Bv m lane tick z,((i+1:Nat):Int))):=by
     unfold Z9 Bv
     dsimp only
     rw [K4 hlt,B9 hz,bO,lB,I0 hlt (by omega)]
     by_cases e:z.Signal_=0
     ·rw [show (z.Signal_==0)=true by simp [e],bO,bQ rfl];simp
     ·rw [show (z.Signal_==0)=false by simp [e],bP,bR (by simp)]
      have:=kG B V lane ht z Z e z.Parts 0 out rfl (by omega) (by have:=Z.six;omega)
      have this':loop (Z8 m lane tick z) (out,0)=_:=this
      rw [this',lB]
   have:=Zj Z lane tick
   rw [K3 hs,ih (i+1) _ (K2 hi) (by omega) (by rw [lM];omega),bF,lO]
/-- The red lines: strictly ascending, and those that there are. -/
theorem gI {m:Map}(B:BearM m)(V:ValR m)(lane:Int){tick:Int}(ht:0≤tick): ∃R,Lg m lane tick=some R∧R.Pairwise (· < ·)∧(∀x,x∈R↔x∈IS m lane tick)∧R.length≤1000:=by
  have hlen:(IS m lane tick).length≤12:=wL (QP lane tick m.Zones fun z hz=>V.zoneOK hz) V.zones
  have h1:loop (Z9 m lane tick) ([],0)=some (IS m lane tick):=by
    have:=kH B V lane ht m.Zones 0 [] rfl (by omega) (by simp;have:=V.zones;omega)
    rw [lQ]at this
    exact this
  unfold Lg
  rw [h1,lB]
  cases q:IS m lane tick with
  |nil=>exact ⟨[],by rw [dD];rfl,List.Pairwise.nil,fun x=> .rfl,by simp⟩
  |cons a l=>
   rw [q]at hlen
   obtain ⟨ys,g1,g2,g3⟩:=gH (a::l) hlen
   have hys:ys≠ []:=by rintro rfl;exact absurd g2.length_eq (by simp)
   have hc:BW ys=some (Ea ys):=by cases ys with|nil=>exact absurd rfl hys|cons=>rfl
   refine ⟨Ea ys,by rw [show List.isEmpty (a::l)=false from rfl,bP,g1,lB,hc];rfl,Zi _ (g3.imp fun {a b} h=> ?_),fun x=>(AP _ _).trans g2.mem_iff,?_⟩
   ·simp only [VN,wC]at h;omega
   ·have: ∀l:List Int,(Ea l).length≤l.length:=by
      intro l
      induction l with
      |nil=>simp [Ea]
      |cons a l ih=>
       cases l with
       |nil=>simp [Ea]
       |cons b r=>
        rw [Ea]
        cases a==b
        ·simp only [bP,lL]at ih ⊢;omega
        ·simp only [bO,lL]at ih ⊢;omega
    have h2:=this ys
    rw [g2.length_eq]at h2
    omega
theorem kI {m:Map}(B:BearM m)(lane tick:Int): ∃R,Ef m lane tick=some R∧R.Pairwise (· < ·)∧(∀x,x∈R↔ (0≤tick∧NZ m lane=true∧x∈IS m lane tick))∧R.length≤1000:=by
  unfold Ef
  rw [Xi B]
  by_cases ht:tick<0
  ·exact ⟨[],by rw [show decide (tick<0)=true from bJ ht];rfl,List.Pairwise.nil,fun x=>⟨fun h=>absurd h (by simp),fun h=>by omega⟩,by simp⟩
  ·rw [show decide (tick<0)=false from bK ht]
   cases hi:NZ m lane
   ·exact ⟨[],rfl,List.Pairwise.nil,fun x=>⟨fun h=>absurd h (by simp),fun h=>by cases h.2.1⟩,by simp⟩
   ·obtain ⟨R,g1,g2,g3,g4⟩:=gI B (isM_true.1 hi).2.2 lane (tick:=tick) (by omega)
    exact ⟨R,by simp only [bX,bO,lB,bW,Bool.or_false,bP,g1],g2,fun x=>(g3 x).trans ⟨fun h=>⟨by omega,rfl,h⟩,fun h=>h.2.2⟩,g4⟩
end Go.Abs.World
namespace Go.Abs
open Go
section
variable {α β σ τ:Type}
/-- What rounds put one behind the other. -/
def Rl (g:Nat→α→List β):Nat→List α→List β
  |_,[]=> []
  |i,a::r=>g i a++Rl g (i+1) r
theorem LR (g:Nat→α→List β)(C:Nat): ∀(l:List α) (i:Nat),(∀(j:Nat) a,l[j]? =some a→(g (i+j) a).length≤C)→(Rl g i l).length≤l.length*C
  | [],_,_=>by simp [Rl]
  |a::r,i,h=>by
   have h1:=h 0 a rfl
   have h2:=LR g C r (i+1) (fun j b hb=>by have:=h (j+1) b (by simpa using hb);rwa [show i+1+j=i+ (j+1) by omega])
   rw [Rl,lM,lL,Nat.succ_mul]
   rw [Nat.add_zero]at h1
   omega
end
end Go.Abs
namespace Go.Abs.World
open Go Go.Abs
theorem QQ {z:Zone}(hl:z.Parts.length≤1000000)(k:Int):AJ z k=some (Lh z k):=by
  have key: ∀(r:List Part) (i:Nat),z.Parts.drop i=r→i≤z.Parts.length→thenS (loop (Kk z k) (i:Int)) (fun _=>some ((⟨0,0,0,0⟩:Part),false)) (fun r=>some r)=some (match r.find? (fun p=>p.Lane_==k)with|some p=>(p,true)|none=>(⟨0,0,0,0⟩,false)):=by
    intro r
    induction r with
    |nil=>
     intro i hi hil
     have:=N1 hi
     obtain rfl:i=z.Parts.length:=by omega
     rw [C5 (t:= .inl ()) (by unfold Kk;rw [J4];rfl)];rfl
    |cons p r ih=>
     intro i hi hil
     have hlt:=M3 hi
     have hp:=T4 hi
     rw [List.find?_cons]
     cases q:p.Lane_==k
     ·rw [K3 (s':=((i+1:Nat):Int)) (by unfold Kk;rw [K4 hlt,B9 hp,bO,lB,q,I0 hlt (by omega)];rfl)]
      exact ih (i+1) (K2 hi) (by omega)
     ·rw [C5 (t:= .inr (p,true)) (by unfold Kk;rw [K4 hlt,B9 hp,bO,lB,q,bO,lB])];rfl
  exact key z.Parts 0 rfl (by omega)
theorem mU (s:Signal)(S:SigOK s): ∀(r:List Phase) (i:Nat) (a:Int),s.Phases.drop i=r→i≤s.Phases.length→0≤a→a+10000*r.length≤1000000→loop (Gk s) (a,(i:Int))=some (a+Mq r):=by
  intro r
  induction r with
  |nil=>
   intro i a hi hil h0 h1
   have:=N1 hi
   obtain rfl:i=s.Phases.length:=by omega
   refine C5 ?_
   unfold Gk
   rw [J4];simp [Mq]
  |cons p r ih=>
   intro i a hi hil h0 h1
   have hlt:=M3 hi
   have hp:=T4 hi
   have hb:=S.ticks p (lG hp)
   simp only [lL]at h1
   have hs:Gk s (a,(i:Int))=some (.go (a+p.Ticks,((i+1:Nat):Int))):=by
     unfold Gk
     dsimp only
     rw [K4 hlt,B9 hp,bO,lB,E1 (by omega),I0 hlt (by have:=S.many;omega)]
   rw [K3 hs,ih (i+1) _ (K2 hi) (by omega) (by omega) (by omega),Mq]
   congr 1;omega
theorem mV (s:Signal)(S:SigOK s)(lane:Int): ∀(r:List Phase) (i:Nat) (a:Int),s.Phases.drop i=r→i≤s.Phases.length→0≤a→a≤1000000→thenS (loop (Dp s lane) (a,(i:Int))) (fun _=>some false) (fun r=>some r)=some (EU lane a r):=by
  intro r
  induction r with
  |nil=>
   intro i a hi hil h0 h1
   have:=N1 hi
   obtain rfl:i=s.Phases.length:=by omega
   rw [C5 (t:= .inl ())]
   ·rfl
   ·unfold Dp
    rw [J4];rfl
  |cons p r ih=>
   intro i a hi hil h0 h1
   have hlt:=M3 hi
   have hp:=T4 hi
   have hb:=S.ticks p (lG hp)
   by_cases hc:p.Ticks≤a
   ·have hs:Dp s lane (a,(i:Int))=some (.go (a - p.Ticks,((i+1:Nat):Int))):=by
      unfold Dp
      dsimp only
      rw [K4 hlt,B9 hp,bO,lB,show decide (a<p.Ticks)=false from bK (by omega),bP,lB,E1 (by omega),I0 hlt (by have:=S.many;omega)]
    rw [K3 hs,ih (i+1) _ (K2 hi) (by omega) (by omega) (by omega),EU,bQ hc]
   ·have hs:Dp s lane (a,(i:Int))=some (.out (.inr (p.Green.contains lane))):=by
      unfold Dp
      dsimp only
      rw [K4 hlt,B9 hp,bO,lB,show decide (a<p.Ticks)=true from bJ (by omega),bO,lB,TN _ (S.green p (lG hp)),lB]
    rw [C5 hs,EU,bR hc];rfl
theorem LS {s:Signal}(S:SigOK s)(lane:Int){tick:Int}(h:0≤tick):Rf s lane tick=some (Uj s lane tick):=by
  obtain ⟨h1,h2⟩:=S.sum
  unfold Rf
  have e1:loop (Gk s) (0,0)=some (Mq s.Phases):=by
    have:=mU s S s.Phases 0 0 rfl (by omega) (by omega) (by have:=S.many;omega)
    rw [Int.zero_add]at this;exact this
  have hne:Mq s.Phases≠0:=by omega
  rw [e1,lB]
  unfold Tl
  rw [bR hne,lB,bR hne,lB,bR hne,lB,iW S h]
  refine mV s S lane s.Phases 0 _ rfl (by omega) (wQ _ hne) ?_
  have:=wR (s.Offset+tick) (b:=Mq s.Phases) (by omega)
  omega
theorem XK {m:Map}(B:BearM m)(g lane tick:Int):Xa m g lane tick=some (DU m g lane tick):=by
  unfold Xa DU
  rw [Ry B,lB]
  have e:(((NZ m lane&& (decide (g≥0)))&& (decide (g< (m.Signals.length:Int))))&& (decide (tick≥0)))=((((decide (tick≥0))&& (decide (g≥0)))&& (decide (g< (m.Signals.length:Int))))&&NZ m lane):=by
    cases NZ m lane<;>cases decide (g≥0)<;>cases decide (g< (m.Signals.length:Int))<;>cases decide (tick≥0)<;>rfl
  rw [e]
  cases hc:((((decide (tick≥0))&& (decide (g≥0)))&& (decide (g< (m.Signals.length:Int))))&&NZ m lane)
  ·rfl
  ·simp only [bU,bM]at hc
   obtain ⟨⟨⟨c1,c2⟩,c3⟩,c4⟩:=hc
   have hl:g.toNat<m.Signals.length:=by omega
   have hget:m.Signals[g.toNat]? =some (m.Signals.getD g.toNat default):=by rw [List.getD,lH hl];rfl
   have hg:B8 m.Signals g=some (m.Signals.getD g.toNat default):=by unfold B8;rw [bQ c2,hget]
   have S:=((isM_true.1 c4).2.2).sig B hget
   simp only [bO,lB,bS,hg,LS S lane c1]
theorem LU (m:Map)(lane tick:Int)(z:Zone): ∀l:List Part,(l.map (·.Lane_)).Pairwise (· < ·)→l.filterMap (Jc m lane tick z)=match l.find? (fun p=>p.Lane_==lane)with|some p=>if Uj (Uy m z) lane tick=true then []else [p.From]|none=> []
  | [],_=>rfl
  |p::r,h=>by
   obtain ⟨h1,h2⟩:=bB.1 h
   rw [List.filterMap_cons,List.find?_cons]
   by_cases e:p.Lane_=lane
   ·have:r.filterMap (Jc m lane tick z)= []:=by
      rw [List.filterMap_eq_nil_iff]
      intro q hq
      have:p.Lane_<q.Lane_:=h1 q.Lane_ (List.mem_map_of_mem hq)
      unfold Jc
      rw [show (q.Lane_==lane)=false by simp;omega];rfl
    rw [this,show (p.Lane_==lane)=true by simp [e]]
    unfold Jc
    rw [show (p.Lane_==lane)=true by simp [e]]
    cases Uj (Uy m z) lane tick<;>rfl
   ·have:Jc m lane tick z p=none:=by unfold Jc;rw [show (p.Lane_==lane)=false by simp [e]];rfl
    rw [this,show (p.Lane_==lane)=false by simp [e]]
    exact LU m lane tick z r h2
theorem gJ (out:List Int)(q:Part×Bool)(i0:Int)(hl:out.length≤1000): ∀(r:List Int) (i:Nat),out.drop i=r→i≤out.length→loop (Gl (out,i0) q) (i:Int)=some ((i+ (r.takeWhile fun y=>decide (y<q.1.From)).length:Nat):Int):=by
  intro r
  induction r with
  |nil=>
   intro i hi hil
   have:=N1 hi
   obtain rfl:i=out.length:=by omega
   refine C5 ?_
   unfold Gl
   dsimp only
   rw [J4];rfl
  |cons y r ih=>
   intro i hi hil
   have hlt:=M3 hi
   have hy:=T4 hi
   rw [List.takeWhile_cons]
   by_cases hc:y<q.1.From
   ·rw [bQ (by simpa using hc),lL,K3 (s':=((i+1:Nat):Int)),ih (i+1) (K2 hi) (by omega)]
    ·congr 2;omega
    ·unfold Gl
     dsimp only
     rw [K4 hlt,B9 hy,bO,lB,show decide (y<q.1.From)=true from bJ hc,Bool.and_true,bO,I0 hlt (by omega)]
   ·rw [bR (by simpa using hc)]
    refine C5 ?_
    unfold Gl
    dsimp only
    rw [K4 hlt,B9 hy,bO,lB,show decide (y<q.1.From)=false from bK hc];rfl
theorem XL {α:Type}(L R:List α):Yj (L++R) 0 (L.length:Int)=some L:=by
  unfold Yj
  rw [bQ ⟨by omega,by omega,by simp;omega⟩]
  simp
theorem TV {α:Type}(L R:List α):Yj (L++R) (L.length:Int) ((L++R).length:Int)=some R:=by
  unfold Yj
  rw [bQ ⟨by omega,by simp;omega,by omega⟩,show (((L++R).length:Int)).toNat=(L++R).length from wF _,List.take_length,show ((L.length:Int)).toNat=L.length from wF _,List.drop_left]
theorem dF {α:Type}{p:α→Bool}: ∀{l:List α} {x:α},x∈l.takeWhile p→p x=true
  | [],_,h=>by simp at h
  |a::r,x,h=>by
   rw [List.takeWhile_cons]at h
   split at h
   ·rename_i ha
    rcases lU.1 h with rfl|h
    ·exact ha
    ·exact dF h
   ·simp at h
/-- A number is put into a list that is strictly ascending. -/
theorem dG (out:List Int)(x:Int)(hs:out.Pairwise (· < ·))(hl:out.length≤500): ∃out':List Int,∀(i':Int),((cond (decide (((out.takeWhile fun y=>decide (y<x)).length:Int)< (out.length:Int))) (B8 out ((out.takeWhile fun y=>decide (y<x)).length:Int)) (some default)).bind fun v6=>cond ((decide (((out.takeWhile fun y=>decide (y<x)).length:Int)< (out.length:Int)))&& (v6==x)) (some (.go (out,i'):Stp (List Int×Int) (List Int))) ((Yj out 0 ((out.takeWhile fun y=>decide (y<x)).length:Int)).bind fun v7=>(Bj ([]:List Int) v7).bind fun v8=>(Bj v8 [x]).bind fun v9=>(Yj out ((out.takeWhile fun y=>decide (y<x)).length:Int) (out.length:Int)).bind fun v10=>(Bj v9 v10).bind fun v11=>some (.go (v11,i'))))=some (.go (out',i'))∧
    out'.Pairwise (· < ·)∧(∀y,y∈out'↔y=x∨y∈out)∧out'.length≤out.length+1:=by
  have e:=List.takeWhile_append_dropWhile (p:=fun y=>decide (y<x)) (l:=out)
  have hL: ∀y∈out.takeWhile (fun y=>decide (y<x)),y<x:=fun y hy=>by
    have:=dF hy
    simpa using this
  have hR0: ∀y R',out.dropWhile (fun y=>decide (y<x))=y::R'→x≤y:=fun y R' h=>by
    have:=List.head?_dropWhile_not (fun y=>decide (y<x)) out
    rw [h]at this
    simp at this;exact this
  generalize out.takeWhile (fun y=>decide (y<x))=L at*
  generalize out.dropWhile (fun y=>decide (y<x))=R at*
  subst e
  have hll:L.length+R.length≤500:=by simpa using hl
  have hgo: ∀i':Int,((Yj (L++R) 0 (L.length:Int)).bind fun v7=>(Bj ([]:List Int) v7).bind fun v8=>(Bj v8 [x]).bind fun v9=>(Yj (L++R) (L.length:Int) ((L++R).length:Int)).bind fun v10=>(Bj v9 v10).bind fun v11=>some (.go (v11,i'):Stp (List Int×Int) (List Int)))=some (.go (L++x::R,i')):=fun i'=>by
    rw [XL,lB,En (by simp;omega),lB,lQ,En (by simp;omega),lB,TV,lB,En (by simp;omega),lB]
    simp
  obtain ⟨p1,p2,p3⟩:=bC.1 hs
  cases R with
  |nil=>
   refine ⟨L++ [x],fun i'=> ?_⟩
   have:=hgo i'
   refine ⟨?_,bC.2 ⟨p1,List.pairwise_singleton _ _,fun y hy z hz=>by rw [bI.1 hz];exact hL y hy⟩,fun y=>by simp [or_comm],by simp⟩
   rw [show decide ((L.length:Int)< ((L++ ([]:List Int)).length:Int))=false from bK (by simp)]
   simp only [bP,lB,bT]
   exact this
  |cons y R=>
   have hy:=hR0 y R rfl
   have hg:B8 (L++y::R) (L.length:Int)=some y:=Km _ _ _ _ rfl
   by_cases hxy:y=x
   ·subst hxy
    refine ⟨L++y::R,fun i'=>⟨?_,hs,fun z=>⟨.inr,fun h=>h.elim (fun h=>by rw [h];simp) id⟩,by simp⟩⟩
    rw [show decide ((L.length:Int)< ((L++y::R).length:Int))=true from bJ (by simp;omega)]
    simp only [bO,hg,lB,bS]
    rw [show (y==y)=true by simp];rfl
   ·refine ⟨L++x::y::R,fun i'=> ?_⟩
    have:=hgo i'
    obtain ⟨q1,q2⟩:=bB.1 p2
    refine ⟨?_,bC.2 ⟨p1,bB.2 ⟨fun z hz=> ?_,p2⟩,fun a ha b hb=> ?_⟩,fun z=>by simp only [lT,lU];constructor<;>(intro h;rcases h with h|h|h|h<;>simp [h]),by simp;omega⟩
    ·rw [show decide ((L.length:Int)< ((L++y::R).length:Int))=true from bJ (by simp;omega)]
     simp only [bO,hg,lB,bS]
     rw [show (y==x)=false by simp [hxy],bP]
     exact this
    ·rcases lU.1 hz with rfl|hz
     ·omega
     ·have:=q1 z hz;omega
    ·rcases lU.1 hb with rfl|hb
     ·exact hL a ha
     ·exact p3 a ha b hb
theorem kJ {m:Map}(B:BearM m)(V:ValR m)(lane:Int){tick:Int}(ht:0≤tick): ∀(r:List Zone) (i:Nat) (out:List Int),m.Zones.drop i=r→i≤m.Zones.length→out.Pairwise (· < ·)→out.length+r.length≤100→
    ∃R,loop (Gm m lane tick) (out,(i:Int))=some R∧R.Pairwise (· < ·)∧(∀y,y∈R↔y∈out∨y∈r.flatMap (Bv m lane tick))∧R.length≤100:=by
  intro r
  induction r with
  |nil=>
   intro i out hi hil hs hl
   have:=N1 hi
   obtain rfl:i=m.Zones.length:=by omega
   refine ⟨out,C5 ?_,hs,fun y=>by simp,by simpa using hl⟩
   unfold Gm
   rw [J4];rfl
  |cons z r ih=>
   intro i out hi hil hs hl
   have hlt:=M3 hi
   have hz:=T4 hi
   have hzm:=lG hz
   have Z:=V.zoneOK hzm
   have hsg:=Z.sig
   have hns:=V.signals
   have hnz:=V.zones
   simp only [lL]at hl
   have hpl:z.Parts.length≤1000000:=by have:=Z.six;omega
   suffices h: ∃out',Gm m lane tick (out,(i:Int))=some (.go (out',((i+1:Nat):Int)))∧out'.Pairwise (· < ·)∧(∀y,y∈out'↔y∈out∨y∈Bv m lane tick z)∧out'.length≤out.length+1 by
     obtain ⟨out',g1,g2,g3,g4⟩:=h
     obtain ⟨R,k1,k2,k3,k4⟩:=ih (i+1) out' (K2 hi) (by omega) g2 (by omega)
     refine ⟨R,by rw [K3 g1];exact k1,k2,fun y=> ?_,k4⟩
     rw [k3,g3,bF,lT,or_assoc]
   unfold Gm
   dsimp only
   rw [K4 hlt,B9 hz,bO,lB,QQ hpl,lB,I0 hlt (by omega),E1 (n:=z.Signal_ - 1) (by omega)]
   have hzl:Bv m lane tick z=if z.Signal_==0 then []else match z.Parts.find? (fun p=>p.Lane_==lane)with|some p=>if Uj (Uy m z) lane tick=true then []else [p.From]|none=> []:=by
     unfold Bv
     rw [LU m lane tick z z.Parts (Ky Z.rise)]
   have hskip:Bv m lane tick z= []→∃out',some (.go (out,((i+1:Nat):Int)):Stp (List Int×Int) (List Int))=some (.go (out',((i+1:Nat):Int)))∧out'.Pairwise (· < ·)∧(∀y,y∈out'↔y∈out∨y∈Bv m lane tick z)∧out'.length≤out.length+1:=fun h=>⟨out,rfl,hs,fun y=>by rw [h];simp,by omega⟩
   cases hp:z.Parts.find? (fun p=>p.Lane_==lane)with
   |none=>
    have hpm:Lh z lane=(⟨0,0,0,0⟩,false):=by unfold Lh;rw [hp]
    rw [hpm]
    simp only [bX,Bool.true_or,bW,bP,lB,bO]
    refine hskip ?_
    rw [hzl,hp]
    split<;>rfl
   |some p=>
    have hpm:Lh z lane=(p,true):=by unfold Lh;rw [hp]
    rw [hpm]
    by_cases h0:z.Signal_=0
    ·rw [show (z.Signal_==0)=true by simp [h0]]
     simp only [bW,bY,bP,lB,Bool.true_or,bO]
     refine hskip ?_
     rw [hzl,bQ (by simp [h0])]
    ·have hk:(z.Signal_ - 1).toNat<m.Signals.length:=by omega
     have hget:m.Signals[(z.Signal_ - 1).toNat]? =some (Uy m z):=by rw [Uy,List.getD,lH hk];rfl
     have hg:B8 m.Signals (z.Signal_ - 1)=some (Uy m z):=by unfold B8;rw [bQ (by omega),hget]
     rw [show (z.Signal_==0)=false by simp [h0]]
     simp only [bW,bY,bX,bO,lB,hg,LS (V.sig B hget) lane ht]
     rw [bR (by simp [h0]),hp]at hzl
     cases hgr:Uj (Uy m z) lane tick with
     |true=>
      rw [bO]
      refine hskip ?_
      rw [hzl,hgr];rfl
     |false=>
      rw [hgr]at hzl
      have hzl':Bv m lane tick z= [p.From]:=hzl
      have h2:loop (Gl (out,(i:Int)) (p,true)) 0=some (((out.takeWhile fun y=>decide (y<p.From)).length:Nat):Int):=by
        have:=gJ out (p,true) (i:Int) (by omega) out 0 rfl (by omega)
        rw [wK]at this
        exact this
      obtain ⟨out',hk1⟩:=dG out p.From hs (by omega)
      obtain ⟨k1,k2,k3,k4⟩:=hk1 ((i+1:Nat):Int)
      rw [bP,h2,lB]
      exact ⟨out',k1,k2,fun y=>by rw [k3,hzl',bI,or_comm],k4⟩
theorem gK {m:Map}(B:BearM m)(lane tick:Int): ∃R,Ef m lane tick=some R∧Sr m lane tick=some R∧R.length≤1000:=by
  obtain ⟨R,r1,r2,r3,r4⟩:=kI B lane tick
  refine ⟨R,r1,?_,r4⟩
  unfold Sr
  rw [Ry B,lB]
  by_cases ht:tick<0
  ·have:R= []:=List.eq_nil_iff_forall_not_mem.2 fun x hx=>by have:=(r3 x).1 hx;omega
   rw [this,show decide (tick<0)=true from bJ ht,Bool.or_true];rfl
  ·rw [show decide (tick<0)=false from bK ht,Bool.or_false]
   cases hi:NZ m lane
   ·have:R= []:=List.eq_nil_iff_forall_not_mem.2 fun x hx=>by have:=(r3 x).1 hx;rw [hi]at this;cases this.2.1
    rw [this];rfl
   ·have V:=(isM_true.1 hi).2.2
    obtain ⟨R',k1,k2,k3,_⟩:=kJ B V lane (tick:=tick) (by omega) m.Zones 0 [] rfl (by omega) List.Pairwise.nil (by simp;have:=V.zones;omega)
    have k1':loop (Gm m lane tick) ([],0)=some R':=k1
    have:R=R':=IR r2 k2 fun x=>by
      rw [r3,k3]
      exact ⟨fun h=> .inr h.2.2,fun h=>⟨by omega,hi,h.elim (fun h=>absurd h (by simp)) id⟩⟩
    unfold EO
    rw [this,k1'];rfl
end Go.Abs.World
