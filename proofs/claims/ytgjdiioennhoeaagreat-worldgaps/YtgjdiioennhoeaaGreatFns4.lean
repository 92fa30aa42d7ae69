/-
  The functions, part 4.
-/
import Derived.Test.YtgjdiioennhoeaaGreatFns3
set_option maxRecDepth 20000
set_option maxHeartbeats 4000000
set_option linter.unusedVariables false
namespace Go.Abs.World
noncomputable section
open Go Go.Abs Go.Proofs Tryz
attribute [local irreducible] L3 Lm Cq
def Aa [Lp](p1:Map)(p2:State)(p3:(List Int))(v2:State)(y2:(List Agent))(y5:(List Stay))(a1:(Int×Int))(x6:(Int× (List Crash))):Option (Stp (Int× (List Crash)) (List Crash)):=
  cond (decide (x6.1< (p1.Zones.length:Int))) ((R5 (WorldScene.mk p1 p2 (State.mk v2.Tick y2 y5) p3 x6.2) a1.1 a1.2 x6.1).bind fun v28=>cond (!v28) (some (.go ((D2 (x6.1+1)),x6.2))) ((S7 (WorldScene.mk p1 p2 (State.mk v2.Tick y2 y5) p3 x6.2) a1.1 x6.1).bind fun v29=>(S7 (WorldScene.mk p1 p2 (State.mk v2.Tick y2 y5) p3 x6.2) a1.2 x6.1).bind fun v30=>(W7 v29.Rank v30.Rank).bind fun v31=>(Z6 v30.Since v29.Since).bind fun v32=>(At [v31,v32]).bind fun v33=>(cond (v33==(-1)) (some [a1.1]) (cond (v33==1) (some [a1.2]) (some [a1.1,a1.2]))).bind fun y17=>(Bj x6.2 [(Crash.mk p2.Tick a1.1 a1.2 (-1) x6.1 y17)]).bind fun v34=>some (.go ((D2 (x6.1+1)),v34)))) (some (.out x6.2))
def Do [Lp](p1:Map)(p2:State)(p3:(List Int))(v2:State)(y2:(List Agent))(y5:(List Stay))(a1:(Int×Int))(y12:(List Crash)):Option (List Crash):=
  (loop (Aa p1 p2 p3 v2 y2 y5 a1) (0,y12)).bind fun y16=>some y16
def Ab [Lp](p1:Map)(p2:State)(p3:(List Int))(v2:State)(y2:(List Agent))(y5:(List Stay))(x4:(List Crash))(a1:(Int×Int))(x5:Int):Option (Stp Int (Sum Unit (List Crash))):=
  cond (decide (x5< (p1.Lanes.length:Int))) ((R6 (WorldScene.mk p1 p2 (State.mk v2.Tick y2 y5) p3 x4) a1.1 x5).bind fun v13=>(R6 (WorldScene.mk p1 p2 (State.mk v2.Tick y2 y5) p3 x4) a1.2 x5).bind fun v14=>cond ((!v13.2)||(!v14.2)) (some (.go (D2 (x5+1)))) ((B8 p2.Agents a1.1).bind fun v15=>(B8 p2.Agents a1.2).bind fun v16=>(cond (decide ((D2 (v15.S - v13.1))< (D2 (v16.S - v14.1)))) (some (v14.1,v13.1,a1.2,a1.1)) (some (v13.1,v14.1,a1.1,a1.2))).bind fun y14=>(B8 y2 y14.2.2.1).bind fun v17=>(Z3 v17).bind fun v18=>(W9 v18 y14.1).bind fun v19=>(B8 y2 y14.2.2.2).bind fun v20=>(Z3 v20).bind fun v21=>(W9 v21 y14.2.1).bind fun v22=>(B8 p2.Agents y14.2.2.2).bind fun v23=>(Z3 v23).bind fun v24=>(W9 v24 y14.2.1).bind fun v25=>(Bb p1 x5).bind fun v26=>cond (((((decide (v19.to≥0))&& (decide (v22.to≥0)))&& (decide (v25.from_≤v26)))&& (decide (v19.from_≤v26)))&& (decide (v22.to≥v19.from_))) ((Bj x4 [(Crash.mk p2.Tick a1.1 a1.2 x5 (-1) [y14.2.2.2])]).bind fun v27=>some (.out (.inr v27))) (some (.go (D2 (x5+1)))))) (some (.out (.inl ())))
def Fp [Lp](p1:Map)(p2:State)(p3:(List Int))(v2:State)(y2:(List Agent))(y5:(List Stay))(x4:(List Crash))(a1:(Int×Int)):Option (List Crash):=
  thenS (loop (Ab p1 p2 p3 v2 y2 y5 x4 a1) 0) (fun _=>some x4) (fun r=>some r)
def Bd [Lp](p1:Map)(p2:State)(p3:(List Int))(v2:State)(y2:(List Agent))(y5:(List Stay))(x4:(List Crash))(a1:(Int×Int)):Option (Stp (List Crash) (List Crash)):=
  (Fp p1 p2 p3 v2 y2 y5 x4 a1).bind fun y12=>(Do p1 p2 p3 v2 y2 y5 a1 y12).bind fun y15=>some (.go y15)
def Rx:Option Unit:=
  some ()
def Fq [Lp](p1:Map)(p2:State)(p3:(List Int))(v2:State)(y2:(List Agent))(y5:(List Stay)):Option (List Crash):=
  (Rx).bind fun y10=>((DO p2).bind fun v12=>loopL (Bd p1 p2 p3 v2 y2 y5) (fun (x4:(List Crash))=>x4) v12 []).bind fun y11=>some y11
def Be [Lp](p1:Map)(p2:State)(p3:(List Int))(v2:State)(y2:(List Agent))(x2:(Int× (List Stay)))(v6:Agent)(x3:(Int× (List Stay))):Option (Stp (Int× (List Stay)) (List Stay)):=
  cond (decide (x3.1< (p1.Zones.length:Int))) ((N0 (WorldScene.mk p1 p2 (State.mk v2.Tick y2 x3.2) p3 []) x2.1 x3.1).bind fun v7=>cond (!v7) (some (.go ((D2 (x3.1+1)),x3.2))) ((C7 p2.In (Stay.mk x2.1 x3.1 p2.Tick 0)).bind fun v8=>(cond v8.2 ((B8 p2.In v8.1).bind fun v9=>some v9) ((Fl p1 v6 x3.1 p2.Tick).bind fun v10=>some (Stay.mk x2.1 x3.1 p2.Tick v10))).bind fun y8=>(Bj x3.2 [y8]).bind fun v11=>some (.go ((D2 (x3.1+1)),v11)))) (some (.out x3.2))
def Bf [Lp](p1:Map)(p2:State)(p3:(List Int))(v2:State)(y2:(List Agent))(x2:(Int× (List Stay))):Option (Stp (Int× (List Stay)) (List Stay)):=
  cond (decide (x2.1< (p2.Agents.length:Int))) ((B8 p2.Agents x2.1).bind fun v6=>(loop (Be p1 p2 p3 v2 y2 x2 v6) (0,x2.2)).bind fun y7=>some (.go ((D2 (x2.1+1)),y7))) (some (.out x2.2))
def Fr [Lp](p1:Map)(p2:State)(p3:(List Int))(v2:State)(y2:(List Agent)):Option (List Stay):=
  (loop (Bf p1 p2 p3 v2 y2) (0,[])).bind fun y6=>some y6
def Bg [Lp](p1:Map)(p2:State)(p3:(List Int))(x1:(Int× (List Agent))):Option (Stp (Int× (List Agent)) (List Agent)):=
  cond (decide (x1.1< (p2.Agents.length:Int))) ((cond (decide (x1.1< (p3.length:Int))) ((B8 p3 x1.1).bind fun v3=>some v3) (some 0)).bind fun y4=>(Jb p1 p2 x1.1 y4).bind fun v4=>(B8 x1.2 x1.1).bind fun v5=>some (.go ((D2 (x1.1+1)),(Kd x1.2 x1.1 v4)))) (some (.out x1.2))
def Fs [Lp](p1:Map)(p2:State)(p3:(List Int))(v2:State):Option (List Agent):=
  (loop (Bg p1 p2 p3) (0,v2.Agents)).bind fun y3=>some y3
def Hh [Lp](p1:Map)(p2:State)(p3:(List Int)):Option (State× (List Crash)×Int):=
  (Ct p1 p2).bind fun v1=>cond (v1 !=0) (some ((State.mk 0 [] []),[],v1)) (cond (decide (p2.Tick≥1099511627776)) (some ((State.mk 0 [] []),[],2)) ((Fo p2).bind fun v2=>((Fs p1 p2 p3 v2).bind fun y2=>(Fr p1 p2 p3 v2 y2).bind fun y5=>(Fq p1 p2 p3 v2 y2 y5).bind fun y9=>some (y2,y5,y9)).bind fun y1=>some ((State.mk (D2 (v2.Tick+1)) y1.1 y1.2.1),y1.2.2,0)))
theorem Zc(p1 p2 p3 r)(h:Hh p1 p2 p3=some r):PCall prog 31 [(.agg (V1 p1)),(.agg (Ku p2)),(.list (List.map A4 p3))] (.tup [(.agg (Ku r.1)),(.list (List.map Dg r.2.1)),(i64 r.2.2)]):=by
 refine C3 (fk func31 ntmps31 (fun r=>if r==6 then [1006003]else if r==10 then [2]else []) (by with_unfolding_all rfl)) (nl W) ?_
 unfold Hh at h
 refine B4 (s0:=⟨T [(0,(.d _)),(1,(.d _)),(2,(.d _))],G []⟩) (G9 W W) ?_
 refine lr<|fun u1 _=>sm W<|sm W<|sn W W<|sv W<|sv W<|A2<|A6<|B1<|sd W (B7 W (gq W) W W)<|sd W (B7 W (gq W) W W)<|bs h fun _ hv1 h=>B0 W W A3 (Py _ _ _ hv1) (.inl W) (sv W<|A2<|B1<|sv W<|sv W<|A2<|cc W h (fun c1 h=> ?_)<|fun c1 h=> ?_)
 refine B1<|sv W<|sv W<|V5 W G_hit [(di 0),(.d .nilS),(.d .nilS)] W (sv W<|sv W<|A2<|B2 ?_)
 cases h
 exact A7 (.inr W) (BL (M1 W G_hit (nl W) W) (B3 W) (B3 W) C1 C1 C1) (.tup (.cons (.agg (ca W<|.cons ⟨DLe.nil,W⟩ (.cons ⟨DLe.nil,W⟩ .nil))) (.cons DLe.nil A3)))
 refine A9<|A6<|B1<|sq W<|sl W (gq W) W (sv W<|A2<|cc W h (fun c2 h=> ?_)<|fun c2 h=> ?_)
 refine B1<|sv W<|V5 W G_hit [(di 0),(.d .nilS),(.d .nilS)] W (sv W<|sv W<|A2<|B2 ?_)
 cases h
 exact A7 (.inr W) (BL (M1 W G_hit (nl W) W) (B3 W) (B3 W) C1 C1 C1) (.tup (.cons (.agg (ca W<|.cons ⟨DLe.nil,W⟩ (.cons ⟨DLe.nil,W⟩ .nil))) (.cons DLe.nil A3)))
 refine A9<|A6<|FY fun u7 _=>Em (.d _) W (B7 W (gq W) W W) (Em (.d _) W (B7 W (gq W) W W) (Em (.d _) W (B7 W (gq W) W W) (bs h fun v2 hv2 h=> ?_)))
 refine mH (v:=Ak [(di v2.Tick),(oS v2.Agents (10060030,u7)),(oE v2.In (10060031,u7))]) (us:= [(10060030,u7),(10060031,u7)]) (iR (DP _ _ hv2) [] [] _ (((10060031,u7),oB 127 4 K7 v2.In)::(((10060030,u7),oB 45 7 E5 v2.Agents)::_)) W Ls W Iq trivial (fun _ h=>h) List.nodup_nil (by generalize v2.Agents=x1;generalize v2.In=x2;cases x1<;>cases x2<;>rfl) W (TA<|TA (W)) W) ?_
 refine Em (.d _) W W ?_
 refine Em (Ak ((N4 p1)++ (O7 p2)++ [(di v2.Tick),(oS v2.Agents (10060030,u7)),(oE v2.In (10060031,u7)),(dl A4 p3),(.d .nilS)])) W (by generalize v2.Agents=x1;generalize v2.In=x2;cases x1<;>cases x2<;>rfl) ?_
 refine iO (.ptr _ _) (.box _ _) W (TB W) (Em (.ptr _ _) W W (UY ⟨W,?_⟩))
 refine A6<|B1<|sv W<|sv W<|A2<|bs h fun y1 hy1 h=>E7 (fun s=> ∃g1:(Nat×Nat× ({d:Nat // d∈ [72,158]}×Nat)),Sb ⟨T [(6,(.ptr (6,u1) 0)),(10,(.ptr (30,u7) 0))],G [((6,u1),some<|.box 25 [(di 0),(.d .nilS),(.d .nilS)]),((30,u7),some<|.box 135 ((N4 p1)++ (O7 p2)++ [(di v2.Tick),(oS y1.1 (10060030,g1.1)),(oS y1.2.1 (85,g1.2.1)),(dl A4 p3),(oS y1.2.2 (g1.2.2.1.val,g1.2.2.2))])),((10060030,g1.1),oB 45 7 E5 y1.1),((85,g1.2.1),oB 127 4 K7 y1.2.1),((g1.2.2.1.val,g1.2.2.2),oB 77 6 Dg y1.2.2)]⟩ s) ?_ ?_
 refine A8<|BO<|B1<|sv W<|A2<|A6<|Xu W<|A9<|A6<|A8<|B1<|sv W<|sv W<|A2<|C6<|sv W<|sq W<|bs hy1 fun y2 hy2 hy1=>Zz (fk func90 ntmps90 m0 (by with_unfolding_all rfl)) (fun (g2:Nat)=> [(6,(.ptr (6,u1) 0)),(10,(.ptr (30,u7) 0)),(31,(.d (.agg [(.fn (.func 90) [] []),(.fn (.func 80) [] []),(.fn (.func 91) [] [])]))),(32,(di 0))]) (fun (g2:Nat)=> [((6,u1),some<|.box 25 [(di 0),(.d .nilS),(.d .nilS)]),((30,u7),some<|.box 135 ((N4 p1)++ (O7 p2)++ [(di v2.Tick),(oS y2 (10060030,g2)),(oE v2.In (10060031,u7)),(dl A4 p3),(.d .nilS)])),((10060031,u7),oB 127 4 K7 v2.In),((10060030,g2),oB 45 7 E5 y2)]) W (nl W) ?_ ?_
 unfold Fs at hy2
 refine B4 (s0:=⟨T [(0,(.ptr (30,u7) 0))],G [((30,u7),some<|.box 135 ((N4 p1)++ (O7 p2)++ [(di v2.Tick),(oS v2.Agents (10060030,u7)),(oE v2.In (10060031,u7)),(dl A4 p3),(.d .nilS)])),((10060030,u7),oB 45 7 E5 v2.Agents),((10060031,u7),oB 127 4 K7 v2.In),((6,u1),some<|.box 25 [(di 0),(.d .nilS),(.d .nilS)])]⟩) (F6 ⟨.of W,trivial⟩<|B5 G_hit (.of W)<|C2 (gq W)<|C2 (gq W)<|sg W trivial) ?_
 refine B1<|sq W<|sp W W<|sq W<|sp W W<|sl W G_hit W<|sd W (E8 W)<|sv W<|A2<|bs hy2 fun y3 hy3 hy2=>E7 (fun s=> ∃g3:Nat,Sb ⟨T [],G [((6,u1),some<|.box 25 [(di 0),(.d .nilS),(.d .nilS)]),((30,u7),some<|.box 135 ((N4 p1)++ (O7 p2)++ [(di v2.Tick),(oS y3 (10060030,g3)),(oE v2.In (10060031,u7)),(dl A4 p3),(.d .nilS)])),((10060031,u7),oB 127 4 K7 v2.In),((10060030,g3),oB 45 7 E5 y3)]⟩ s) ?_ ?_
 refine A8<|G6 (Bg p1 p2 p3) (fun (x1:(Int× (List Agent))) (g4:Nat)=>⟨T [(0,(.ptr (30,u7) 0)),(9,(di (p2.Agents.length:Int))),(10,(di x1.1))],G [((30,u7),some<|.box 135 ((N4 p1)++ (O7 p2)++ [(di v2.Tick),(oS x1.2 (10060030,g4)),(oE v2.In (10060031,u7)),(dl A4 p3),(.d .nilS)])),((6,u1),some<|.box 25 [(di 0),(.d .nilS),(.d .nilS)]),((10060031,u7),oB 127 4 K7 v2.In),((10060030,g4),oB 45 7 E5 x1.2)]⟩) (0,v2.Agents) u7 _ hy3 (F6 (Dv W)<|B5 G_hit (.of W)<|sg W<|C2 (gq W)<|C2 (gq W) trivial) ?_
 intro x1 g4 z1 hz1 ez1
 unfold Bg at hz1
 refine B1<|sv W<|A2<|A6<|cc W hz1 (fun c3 hz1=> ?_)<|fun c3 hz1=> ?_
 refine A9<|A6<|A8<|B1<|sv W<|sv W<|A2<|B1<|sv W<|A2<|A6<|B1<|sv W<|sq W<|sp W W<|sq W<|sl W G_hit W<|sd W (E8 W)<|sv W<|A2<|bs hz1 fun y4 hy4 hz1=>E7 (fun s=> ∃g5:Unit,Sb ⟨T [(0,(.ptr (30,u7) 0)),(2,(di x1.1)),(3,(di y4)),(9,(di (p2.Agents.length:Int))),(10,(di x1.1))],G [((30,u7),some<|.box 135 ((N4 p1)++ (O7 p2)++ [(di v2.Tick),(oS x1.2 (10060030,g4)),(oE v2.In (10060031,u7)),(dl A4 p3),(.d .nilS)])),((6,u1),some<|.box 25 [(di 0),(.d .nilS),(.d .nilS)]),((10060030,g4),oB 45 7 E5 x1.2),((10060031,u7),oB 127 4 K7 v2.In)]⟩ s) ?_ ?_
 refine cc W hy4 (fun c4 hy4=> ?_)<|fun c4 hy4=> ?_
 refine C6<|sq W<|sq W<|sp W W<|sl W G_hit W<|sv W<|bs hy4 fun _ hv3 hy4=>sd W (E2 W W hv3 W)<|sd W (H5 W hv3 W)<|sv W<|A2 ?_
 obtain rfl:=(lD hy4)
 exact X2 ⟨(),(F6 (Dv W)<|B5 G_hit (.of W)<|sg W<|C2 (gq W)<|C2 (gq W) trivial)⟩
 refine A9 ?_
 cases hy4
 exact X2 ⟨(),(F6 (Dv W)<|B5 G_hit (.of W)<|sg W<|C2 (gq W)<|C2 (gq W) trivial)⟩
 rintro _ ⟨g5,q1⟩
 refine B4 q1<|J0 W<|sq W<|sq W<|sp W W<|sq W<|C0 (oS x1.2 (10060030,g4)) W (U5 W G_hit W) (sv W<|sq W<|sp W W<|sq W<|sd W (B7 W G_hit W W)<|sq W<|sp W W<|sq W<|sd W (B7 W G_hit W W)<|sv W<|sv W<|bs hz1 fun v4 hv4 hz1=>B0 W W A3 (KC _ _ _ _ _ hv4) (.inl W) (bs hz1 fun _ hv5 hz1=>C0 (.aptr _ _ _ _) W (SY W W (gq W) hv5) ?_))
 rw [X1 (Tm hv5)]
 refine Sh E5 _ _ _ (x1.1) _ v4 (E5 v4) W W W (Xv (gq W)<|Tm hv5) hv5 (nl W) W (A2<|F9<|C6<|sv W<|sv W<|A2<|G5 ?_)
 cases hz1
 exact ⟨W,g4,(F6 (Dv W)<|B5 (gq W) (.box (cv<|cv<|cv<|cv<|cv<|cv<|cv<|cv<|cv<|.cons (.of (X1<|FW<|Tm hv5).symm) cw)) (sg W<|C2 (gq W)<|O8 G_hit trivial))⟩
 refine D5 W ?_
 cases hz1
 obtain rfl:=ez1 _ rfl
 refine ⟨nofun,D4 W<|X2 ?_⟩
 exact ⟨g4,(F6 trivial<|sg W<|B5 G_hit (.of W)<|C2 (gq W)<|C2 (gq W) trivial)⟩
 rintro _ ⟨g3,q2⟩
 refine G5 ?_
 obtain rfl:=(lD hy2)
 exact Wh q2 (.inl W) g3 (Dv W) (B5 G_hit (.of W)<|sg W<|C2 (gq W)<|C2 (gq W) trivial)
 intro g2
 intro u20 hu20
 refine A2<|F9<|C6<|sv W<|sv W<|A2<|BO<|B1<|sv W<|A2<|A6<|Xu W<|A9<|A6<|A8<|B1<|sv W<|sv W<|A2<|C6<|sv W<|sq W<|bs hy1 fun y5 hy5 hy1=>Zz (fk func80 ntmps80 (fun r=>if r==13 then [1007]else []) (by with_unfolding_all rfl)) (fun (g6:Nat)=> [(6,(.ptr (6,u1) 0)),(10,(.ptr (30,u7) 0)),(31,(.d (.agg [(.fn (.func 90) [] []),(.fn (.func 80) [] []),(.fn (.func 91) [] [])]))),(32,(di 1))]) (fun (g6:Nat)=> [((6,u1),some<|.box 25 [(di 0),(.d .nilS),(.d .nilS)]),((30,u7),some<|.box 135 ((N4 p1)++ (O7 p2)++ [(di v2.Tick),(oS y2 (10060030,g2)),(oS y5 (85,g6)),(dl A4 p3),(.d .nilS)])),((10060030,g2),oB 45 7 E5 y2),((85,g6),oB 127 4 K7 y5)]) W (nl W) ?_ ?_
 unfold Fr at hy5
 refine B4 (s0:=⟨T [(0,(.ptr (30,u7) 0))],G [((30,u7),some<|.box 135 ((N4 p1)++ (O7 p2)++ [(di v2.Tick),(oS y2 (10060030,g2)),(oE v2.In (10060031,u7)),(dl A4 p3),(.d .nilS)])),((10060030,g2),oB 45 7 E5 y2),((10060031,u7),oB 127 4 K7 v2.In),((6,u1),some<|.box 25 [(di 0),(.d .nilS),(.d .nilS)])]⟩) (F6 ⟨.of W,trivial⟩<|sg W<|C2 (gq W)<|C2 (gq W)<|B5 G_hit (.of W) trivial) ?_
 refine B1<|sq W<|sp W W<|sq W<|sp W W<|V5 W G_hit ((N4 p1)++ (O7 p2)++ [(di v2.Tick),(oS y2 (10060030,g2)),(.d .nilS),(dl A4 p3),(.d .nilS)]) W (A2<|B1<|sq W<|sp W W<|sq W<|sp W W<|sl W G_hit W<|sd W (E8 W)<|sv W<|A2<|bs hy5 fun y6 hy6 hy5=>E7 (fun s=> ∃g7:Nat,Sb ⟨T [],G [((6,u1),some<|.box 25 [(di 0),(.d .nilS),(.d .nilS)]),((30,u7),some<|.box 135 ((N4 p1)++ (O7 p2)++ [(di v2.Tick),(oS y2 (10060030,g2)),(oS y6 (85,g7)),(dl A4 p3),(.d .nilS)])),((10060030,g2),oB 45 7 E5 y2),((85,g7),oB 127 4 K7 y6)]⟩ s) ?_ ?_)
 refine A8<|G6 (Bf p1 p2 p3 v2 y2) (fun (x2:(Int× (List Stay))) (g8:Nat)=>⟨T [(0,(.ptr (30,u7) 0)),(16,(dl E5 p2.Agents)),(17,(di (p2.Agents.length:Int))),(18,(di x2.1))],G [((30,u7),some<|.box 135 ((N4 p1)++ (O7 p2)++ [(di v2.Tick),(oS y2 (10060030,g2)),(oS x2.2 (85,g8)),(dl A4 p3),(.d .nilS)])),((6,u1),some<|.box 25 [(di 0),(.d .nilS),(.d .nilS)]),((10060030,g2),oB 45 7 E5 y2),((85,g8),oB 127 4 K7 x2.2)]⟩) (0,[]) 0 _ hy6 (F6 (Dv W)<|B5 G_hit (.of W)<|sg W<|C2 (gq W)<|T8 trivial) ?_
 intro x2 g8 z2 hz2 ez2
 unfold Bf at hz2
 refine B1<|sv W<|A2<|A6<|cc W hz2 (fun c5 hz2=> ?_)<|fun c5 hz2=> ?_
 refine A9<|A6<|A8<|lr<|fun u28 _=>sv W<|bs hz2 fun v6 hv6 hz2=>sd W (E2 W W hv6 W)<|sd W (E4 W hv6 W W)<|sm W<|sv W<|V5 W G_hit (X5 v6) W (A2<|B1<|sq W<|sp W W<|sq W<|sp W W<|sl W (gq W) W (sd W (E8 W)<|sv W<|A2<|bs hz2 fun y7 hy7 hz2=>E7 (fun s=> ∃g9:Nat,Sb ⟨T [(0,(.ptr (30,u7) 0)),(16,(dl E5 p2.Agents)),(17,(di (p2.Agents.length:Int))),(18,(di x2.1))],G [((30,u7),some<|.box 135 ((N4 p1)++ (O7 p2)++ [(di v2.Tick),(oS y2 (10060030,g2)),(oS y7 (85,g9)),(dl A4 p3),(.d .nilS)])),((6,u1),some<|.box 25 [(di 0),(.d .nilS),(.d .nilS)]),((10060030,g2),oB 45 7 E5 y2),((85,g9),oB 127 4 K7 y7)]⟩ s) ?_ ?_))
 refine A8<|G6 (Be p1 p2 p3 v2 y2 x2 v6) (fun (x3:(Int× (List Stay))) (g10:Nat)=>⟨T [(0,(.ptr (30,u7) 0)),(2,(di x2.1)),(3,(.ptr (3,u28) 0)),(16,(dl E5 p2.Agents)),(17,(di (p2.Agents.length:Int))),(18,(di x2.1)),(28,(di (p1.Zones.length:Int))),(29,(di x3.1))],G [((30,u7),some<|.box 135 ((N4 p1)++ (O7 p2)++ [(di v2.Tick),(oS y2 (10060030,g2)),(oS x3.2 (85,g10)),(dl A4 p3),(.d .nilS)])),((3,u28),some<|.box 45 (X5 v6)),((6,u1),some<|.box 25 [(di 0),(.d .nilS),(.d .nilS)]),((10060030,g2),oB 45 7 E5 y2),((85,g10),oB 127 4 K7 x3.2)]⟩) (0,x2.2) g8 _ hy7 (F6 (Dv W)<|sg W<|B5 G_hit (.of W)<|sg W<|C2 (gq W)<|C2 (gq W) trivial) ?_
 intro x3 g10 z3 hz3 ez3
 unfold Be at hz3
 refine B1<|sv W<|A2<|A6<|cc W hz3 (fun c6 hz3=> ?_)<|fun c6 hz3=> ?_
 refine A9<|A6<|A8<|B1<|sv W<|sv W<|A2<|A6<|B1<|sq W<|sv W<|sv W<|bs hz3 fun v7 hv7 hz3=>B0 W (E3 (An G_hit<|rD<|rD<|rD<|rD<|rD<|rD<|rD<|rD<|rD<|E3 (X4<|gq W)<|E3 (X4<|gq W)<|rD<|rD G2)<|rD<|rD G2) (.cons (DLe.bp<|ca W<|ca W<|ca W<|ca W<|ca W<|ca W<|ca W<|ca W<|ca W<|.cons ⟨X3,W⟩ (.cons ⟨X3,W⟩ (ca W<|.cons ⟨DLe.nil,W⟩ .nil))) (.cons (.refl _) A3)) (Ba _ _ _ _ hv7) (.inr W) (C0 (.d (bo (!v7))) W W (A2<|cc W hz3 (fun c7 hz3=> ?_)<|fun c7 hz3=> ?_))
 refine Zu W<|C6<|sv W<|sv W<|A2<|G5 ?_
 cases hz3
 exact ⟨W,g10,(F6 (Dv W)<|B5 G_hit (.of W)<|sg W<|sg W<|C2 (gq W)<|C2 (gq W) trivial)⟩
 refine A9<|lr<|fun u34 _=>sv W<|sv W<|sq W<|sp W W<|sq W<|sp W W<|sl W G_hit W<|sv W<|sm W<|V5 W G_hit [(di x2.1),(di x3.1),(di p2.Tick),(di 0)] W (A2<|A6<|A6<|J0 W<|sq W<|sq W<|sp W W<|sq W<|sl W (gq W) W (sd W (B7 W G_hit W W)<|bs hz3 fun _ hv8 hz3=>B0 W W A3 (O1 _ _ _ hv8) (.inl W) (sv W<|sv W<|sv W<|sv W<|sv W<|A2<|B1<|sv W<|A2<|bs hz3 fun y8 hy8 hz3=>E7 (fun s=> ∃g11:Unit,Sb ⟨T [(0,(.ptr (30,u7) 0)),(2,(di x2.1)),(3,(.ptr (3,u28) 0)),(5,(.ptr (5,u34) 0)),(16,(dl E5 p2.Agents)),(17,(di (p2.Agents.length:Int))),(18,(di x2.1)),(28,(di (p1.Zones.length:Int))),(29,(di x3.1))],G [((30,u7),some<|.box 135 ((N4 p1)++ (O7 p2)++ [(di v2.Tick),(oS y2 (10060030,g2)),(oS x3.2 (85,g10)),(dl A4 p3),(.d .nilS)])),((3,u28),some<|.box 45 (X5 v6)),((5,u34),some<|.box 127 (Ys y8)),((6,u1),some<|.box 25 [(di 0),(.d .nilS),(.d .nilS)]),((10060030,g2),oB 45 7 E5 y2),((85,g10),oB 127 4 K7 x3.2)]⟩ s) ?_ ?_)))
 refine cc W hy8 (fun c8 hy8=> ?_)<|fun c8 hy8=> ?_
 refine C6<|sq W<|sq W<|sp W W<|sq W<|sl W (gq W) W (sv W<|bs hy8 fun v9 hv9 hy8=>sd W (E2 W W hv9 W)<|sd W (E4 W hv9 W W)<|V5 W G_hit (Ys v9) W (A2 ?_))
 obtain rfl:=(lD hy8)
 exact X2 ⟨(),(F6 (Dv W)<|sg W<|sg W<|B5 G_hit (.of W)<|sg W<|C2 (gq W)<|C2 (gq W) trivial)⟩
 refine J0 W<|sq W<|sq W<|sp W W<|sd W (B7 W (gq W) W W)<|sd W (B7 W (gq W) W W)<|sv W<|sq W<|sp W W<|sq W<|sp W W<|sl W (gq W) W (bs hy8 fun v10 hv10 hy8=>B0 W W A3 (Yz _ _ _ _ _ hv10) (.inl W) (sq W<|V5 W G_hit [(di x2.1),(di x3.1),(di p2.Tick),(di v10)] W (A2 ?_)))
 cases hy8
 exact X2 ⟨(),(F6 (Dv W)<|sg W<|sg W<|B5 G_hit (.of W)<|sg W<|C2 (gq W)<|C2 (gq W) trivial)⟩
 rintro _ ⟨g11,q3⟩
 refine B4 q3<|Mz W fun u39 _=>sq W<|sq W<|sp W W<|sq W<|sp W W<|C0 (oS x3.2 (85,g10)) W (U5 W G_hit W) (sd W (B7 W (gq W) W W)<|C0 (dl K7 [y8]) W W (bs hz3 fun _ hv11 hz3=>U7 K7 (85,g10) x3.2 y8 [] _ (P0<|fun _=>W) W (gq W) hv11 (sq W<|sp W W<|sq W<|V5 W (gq W) ((N4 p1)++ (O7 p2)++ [(di v2.Tick),(oS y2 (10060030,g2)),(.sl (85,u39)),(dl A4 p3),(.d .nilS)]) W (A2<|F9<|C6<|sv W<|sv W<|A2<|G5 ?_))))
 cases hz3
 exact ⟨W,u39,(F6 (Dv W)<|B5 G_hit (.box (cv<|cv<|cv<|cv<|cv<|cv<|cv<|cv<|cv<|cv<|.cons (.of (X1<|Aj hv11).symm) cw))<|sg W<|sg W<|C2 (gq W)<|O8 (gq W) trivial)⟩
 refine D5 W ?_
 cases hz3
 obtain rfl:=ez3 _ rfl
 refine ⟨nofun,D4 W<|X2 ?_⟩
 exact ⟨g10,(F6 (Dv W)<|B5 G_hit (.of W)<|sg W<|C2 (gq W)<|C2 (gq W) trivial)⟩
 rintro _ ⟨g9,q4⟩
 refine F9<|B4 q4<|C6<|sv W<|sv W<|A2<|G5 ?_
 cases hz2
 exact ⟨W,g9,(F6 (Dv W)<|B5 G_hit (.of W)<|sg W<|C2 (gq W)<|C2 (gq W) trivial)⟩
 refine D5 W ?_
 cases hz2
 obtain rfl:=ez2 _ rfl
 refine ⟨nofun,D4 W<|X2 ?_⟩
 exact ⟨g8,(F6 trivial<|sg W<|B5 G_hit (.of W)<|C2 (gq W)<|C2 (gq W) trivial)⟩
 rintro _ ⟨g7,q5⟩
 refine G5 ?_
 obtain rfl:=(lD hy5)
 exact Wh q5 (.inl W) g7 (Dv W) (B5 G_hit (.of W)<|sg W<|C2 (gq W)<|C2 (gq W) trivial)
 intro g6
 intro u42 hu42
 refine A2<|F9<|C6<|sv W<|sv W<|A2<|BO<|B1<|sv W<|A2<|A6<|Xu W<|A9<|A6<|A8<|B1<|sv W<|sv W<|A2<|C6<|sv W<|sq W<|bs hy1 fun y9 hy9 hy1=>Zz (fk func91 ntmps91 (fun r=>if r==1 then [1]else if r==4 then [3]else if r==5 then [3]else []) (by with_unfolding_all rfl)) (fun (g12:({d:Nat // d∈ [72,158]}×Nat))=> [(6,(.ptr (6,u1) 0)),(10,(.ptr (30,u7) 0)),(31,(.d (.agg [(.fn (.func 90) [] []),(.fn (.func 80) [] []),(.fn (.func 91) [] [])]))),(32,(di 2))]) (fun (g12:({d:Nat // d∈ [72,158]}×Nat))=> [((6,u1),some<|.box 25 [(di 0),(.d .nilS),(.d .nilS)]),((30,u7),some<|.box 135 ((N4 p1)++ (O7 p2)++ [(di v2.Tick),(oS y2 (10060030,g2)),(oS y5 (85,g6)),(dl A4 p3),(oS y9 (g12.1.val,g12.2))])),((10060030,g2),oB 45 7 E5 y2),((85,g6),oB 127 4 K7 y5),((g12.1.val,g12.2),oB 77 6 Dg y9)]) W (nl W) ?_ ?_
 unfold Fq at hy9
 refine B4 (s0:=⟨T [(0,(.ptr (30,u7) 0))],G [((30,u7),some<|.box 135 ((N4 p1)++ (O7 p2)++ [(di v2.Tick),(oS y2 (10060030,g2)),(oS y5 (85,g6)),(dl A4 p3),(.d .nilS)])),((10060030,g2),oB 45 7 E5 y2),((85,g6),oB 127 4 K7 y5),((6,u1),some<|.box 25 [(di 0),(.d .nilS),(.d .nilS)])]⟩) (F6 ⟨.of W,trivial⟩<|sg W<|C2 (gq W)<|C2 (gq W)<|B5 G_hit (.of W) trivial) ?_
 refine lr<|fun u47 _=>sm W<|A2<|B1<|sp W (U5 W G_hit W)<|bs hy9 fun _ hy10 hy9=>Zz (fk func81 ntmps81 m0 (by with_unfolding_all rfl)) (fun (g13:{g:Nat // g≠u47})=> [(1,(.ptr (1,u47) 0)),(5,(.fn (.func 174) [] [(.ptr (1,g13.1) 0)]))]) (fun (g13:{g:Nat // g≠u47})=> [((1,u47),some<|.box 133 [(.ptr (30,u7) 0)]),((30,u7),some<|.box 135 ((N4 p1)++ (O7 p2)++ [(di v2.Tick),(oS y2 (10060030,g2)),(oS y5 (85,g6)),(dl A4 p3),(.d .nilS)])),((6,u1),some<|.box 25 [(di 0),(.d .nilS),(.d .nilS)]),((10060030,g2),oB 45 7 E5 y2),((85,g6),oB 127 4 K7 y5),((1,g13.1),some<|.box 133 [(.ptr (30,u7) 0)])]) W (nl W) ?_ ?_
 unfold Rx at hy10
 refine B4 (s0:=⟨T [(0,(.ptr (30,u7) 0))],G [((30,u7),some<|.box 135 ((N4 p1)++ (O7 p2)++ [(di v2.Tick),(oS y2 (10060030,g2)),(oS y5 (85,g6)),(dl A4 p3),(.d .nilS)])),((10060030,g2),oB 45 7 E5 y2),((85,g6),oB 127 4 K7 y5),((6,u1),some<|.box 25 [(di 0),(.d .nilS),(.d .nilS)]),((1,u47),some<|.box 133 [(.ptr (30,u7) 0)])]⟩) (F6 ⟨.of W,trivial⟩<|sg W<|C2 (gq W)<|C2 (gq W)<|sg W<|B5 G_hit (.of W) trivial) ?_
 refine lr<|fun u49 hu49=>sm W<|sv W<|A2<|B1<|C0 (.fn _ _ _) W W (C0 (.fn _ _ _) W W (A2<|B2 ?_))
 cases hy10
 exact NI (.inr W) (VF<|B3 W) ⟨u49,(Ne.symm<|PJ (k:=(1,u47)) hu49 (gq W))⟩ (Dv W) (B5 (Y7 (PJ hu49<|gq W)<|gq W) (.of W) (sg W<|sg W<|C2 (gq W)<|C2 (gq W)<|B5 G_hit (.of W) trivial))
 intro g13
 intro u51 hu51
 refine A2<|bs hy9 fun y11 hy11 hy9=>E7 (fun s=> ∃g14:({d:Nat // d∈ [72,158]}×Nat),Sb ⟨T [],G [((6,u1),some<|.box 25 [(di 0),(.d .nilS),(.d .nilS)]),((30,u7),some<|.box 135 ((N4 p1)++ (O7 p2)++ [(di v2.Tick),(oS y2 (10060030,g2)),(oS y5 (85,g6)),(dl A4 p3),(oS y11 (g14.1.val,g14.2))])),((10060030,g2),oB 45 7 E5 y2),((85,g6),oB 127 4 K7 y5),((g14.1.val,g14.2),oB 77 6 Dg y11)]⟩ s) ?_ ?_
 refine A8<|bs hy11 fun v12 hv12 hy11=>B4 (s0:=⟨T [(1,(.ptr (1,u47) 0)),(5,(.fn (.func 174) [] [(.ptr (1,g13.1) 0)]))],G [((1,u47),some<|.box 133 [(.ptr (30,u7) 0)]),((30,u7),some<|.box 135 ((N4 p1)++ (O7 p2)++ [(di v2.Tick),(oS y2 (10060030,g2)),(oS y5 (85,g6)),(dl A4 p3),(.d .nilS)])),((10060030,g2),oB 45 7 E5 y2),((85,g6),oB 127 4 K7 y5),((1,g13.1),some<|.box 133 [(.ptr (30,u7) 0)]),((6,u1),some<|.box 25 [(di 0),(.d .nilS),(.d .nilS)])]⟩) (F6 (Dv W)<|B5 G_hit (.of W)<|sg W<|C2 (gq W)<|C2 (gq W)<|B5 (Y7 g13.2<|gq W) (.of W) (sg W trivial)) ?_
 refine PW (.fn (.func 174) [] [(.ptr (1,g13.1) 0)]) (Tx (1,g13.1) (30,u7) p2) HX v12 (Bd p1 p2 p3 v2 y2 y5) (fun (x4:(List Crash))=>x4) (fun (x4:(List Crash)) (g15:({d:Nat // d∈ [72,158]}×Nat))=> [((1,u47),some<|.box 133 [(.ptr (30,u7) 0)]),((1,g13.1),some<|.box 133 [(.ptr (30,u7) 0)]),((6,u1),some<|.box 25 [(di 0),(.d .nilS),(.d .nilS)]),((30,u7),some<|.box 135 ((N4 p1)++ (O7 p2)++ [(di v2.Tick),(oS y2 (10060030,g2)),(oS y5 (85,g6)),(dl A4 p3),(oS x4 (g15.1.val,g15.2))])),((10060030,g2),oB 45 7 E5 y2),((85,g6),oB 127 4 K7 y5),((g15.1.val,g15.2),oB 77 6 Dg x4)]) [] (⟨72, .head _⟩,0) _ W (HY hv12 _ _) (fun x4 g15 _ _=>⟨G3 W<|Y7 g13.2 G_hit,_,_,_,_,_,_,_,_,_,_,G3 W<|gq W⟩) (fun _=>W) hy11 (F6 trivial<|B5 G_hit (.of W)<|B5 (Y7 g13.2<|gq W) (.of W) (sg W<|sg W<|C2 (gq W)<|C2 (gq W)<|T8 trivial)) nofun ?_ ?_
 intro u53 hu53 hku53
 refine ⟨fun x4 g15=>(G3 W<|G3 W<|G3 W<|G3 W<|G3 W<|G3 W<|G3 (GA g15.1.property W) W),?_⟩
 intro r1 x4 g15 a1 z4 hrr1 hz4 ez4
 unfold Bd at hz4
 show Cq _ _ _ _ _ _ ⟨T [(7,(di a1.2)),(6,(di a1.1)),(1,(.ptr (1,u47) 0)),(5,(.fn (.func 174) [] [(.ptr (1,g13.1) 0)]))],G [((1000000,u53),some (.obj (T [(1,(.ptr (1,u47) 0)),(5,(.fn (.func 174) [] [(.ptr (1,g13.1) 0)]))]) r1)),((1,u47),some (.box 133 [(.ptr (30,u7) 0)])),((1,g13.1),some (.box 133 [(.ptr (30,u7) 0)])),((6,u1),some (.box 25 [(di 0),(.d .nilS),(.d .nilS)])),((30,u7),some (.box 135 ((N4 p1)++ (O7 p2)++ [(di v2.Tick),(oS y2 (10060030,g2)),(oS y5 (85,g6)),(dl A4 p3),(oS x4 (g15.1.val,g15.2))]))),((10060030,g2),oB 45 7 E5 y2),((85,g6),oB 127 4 K7 y5),((g15.1.val,g15.2),oB 77 6 Dg x4)]⟩
 refine B1<|sv W<|A2<|C6<|sv W<|A2<|X2<|SX G_hit ?_
 refine A8<|B1<|sp W (U5 W (gq W) W)<|sv W<|sv W<|bs hz4 fun y12 hy12 hz4=>Zz (fk func183 ntmps183 (fun r=>if r==13 then [1014,1016]else []) (by with_unfolding_all rfl)) (fun (g16:({d:Nat // d∈ [72,158]}×Nat))=> [(1,(.ptr (1,u47) 0)),(2,(di a1.1)),(3,(di a1.2))]) (fun (g16:({d:Nat // d∈ [72,158]}×Nat))=> [((1,u47),some<|.box 133 [(.ptr (30,u7) 0)]),((6,u1),some<|.box 25 [(di 0),(.d .nilS),(.d .nilS)]),((30,u7),some<|.box 135 ((N4 p1)++ (O7 p2)++ [(di v2.Tick),(oS y2 (10060030,g2)),(oS y5 (85,g6)),(dl A4 p3),(oS y12 (g16.1.val,g16.2))])),((1,g13.1),some<|.box 133 [(.ptr (30,u7) 0)]),((1000000,u53),some<|.obj (T [(1,(.ptr (1,u47) 0)),(5,(.fn (.func 174) [] [(.ptr (1,g13.1) 0)]))]) {r1 with state:= .busy}),((10060030,g2),oB 45 7 E5 y2),((85,g6),oB 127 4 K7 y5),((g16.1.val,g16.2),oB 77 6 Dg y12)]) W (nl W) ?_ ?_
 unfold Fp at hy12
 refine B4 (s0:=⟨T [(0,(.ptr (30,u7) 0)),(1,(di a1.1)),(2,(di a1.2))],G [((30,u7),some<|.box 135 ((N4 p1)++ (O7 p2)++ [(di v2.Tick),(oS y2 (10060030,g2)),(oS y5 (85,g6)),(dl A4 p3),(oS x4 (g15.1.val,g15.2))])),((10060030,g2),oB 45 7 E5 y2),((85,g6),oB 127 4 K7 y5),((g15.1.val,g15.2),oB 77 6 Dg x4),((6,u1),some<|.box 25 [(di 0),(.d .nilS),(.d .nilS)]),((1,u47),some<|.box 133 [(.ptr (30,u7) 0)]),((1,g13.1),some<|.box 133 [(.ptr (30,u7) 0)]),((1000000,u53),some<|.obj (T [(1,(.ptr (1,u47) 0)),(5,(.fn (.func 174) [] [(.ptr (1,g13.1) 0)]))]) {r1 with state:= .busy})]⟩) (F6 (Dv W)<|sg W<|C2 (gq W)<|C2 (gq W)<|C2 (Yk g15.1.property 8 W G_hit)<|sg W<|sg W<|B5 (Wg 2 W<|Y7 g13.2 G_hit) (.of W) (B5 G_hit (.of W) trivial)) ?_
 refine B1<|sq W<|sp W W<|sq W<|sp W W<|sl W G_hit W<|sd W (E8 W)<|sv W<|A2<|js hy12 fun z5 hz5 hy12=>E7 (fun s=> ∃(y13:Unit) (g17:Unit),z5= .inl y13∧Sb ⟨T [],G [((6,u1),some<|.box 25 [(di 0),(.d .nilS),(.d .nilS)]),((30,u7),some<|.box 135 ((N4 p1)++ (O7 p2)++ [(di v2.Tick),(oS y2 (10060030,g2)),(oS y5 (85,g6)),(dl A4 p3),(oS x4 (g15.1.val,g15.2))])),((1,u47),some<|.box 133 [(.ptr (30,u7) 0)]),((1,g13.1),some<|.box 133 [(.ptr (30,u7) 0)]),((1000000,u53),some<|.obj (T [(1,(.ptr (1,u47) 0)),(5,(.fn (.func 174) [] [(.ptr (1,g13.1) 0)]))]) {r1 with state:= .busy}),((10060030,g2),oB 45 7 E5 y2),((85,g6),oB 127 4 K7 y5),((g15.1.val,g15.2),oB 77 6 Dg x4)]⟩ s) ?_ ?_
 refine A8<|G6 (Ab p1 p2 p3 v2 y2 y5 x4 a1) (fun (x5:Int) (g18:Unit)=>⟨T [(0,(.ptr (30,u7) 0)),(1,(di a1.1)),(2,(di a1.2)),(22,(di (p1.Lanes.length:Int))),(23,(di x5))],G [((30,u7),some<|.box 135 ((N4 p1)++ (O7 p2)++ [(di v2.Tick),(oS y2 (10060030,g2)),(oS y5 (85,g6)),(dl A4 p3),(oS x4 (g15.1.val,g15.2))])),((6,u1),some<|.box 25 [(di 0),(.d .nilS),(.d .nilS)]),((1,u47),some<|.box 133 [(.ptr (30,u7) 0)]),((1,g13.1),some<|.box 133 [(.ptr (30,u7) 0)]),((1000000,u53),some<|.obj (T [(1,(.ptr (1,u47) 0)),(5,(.fn (.func 174) [] [(.ptr (1,g13.1) 0)]))]) {r1 with state:= .busy}),((10060030,g2),oB 45 7 E5 y2),((85,g6),oB 127 4 K7 y5),((g15.1.val,g15.2),oB 77 6 Dg x4)]⟩) 0 () _ hz5 (F6 (Dv W)<|B5 G_hit (.of W)<|B5 (Wg 3 W<|G3 (GA g15.1.property W) G_hit) (.of W) (B5 (Wg 3 W<|G3 (GA g15.1.property W)<|gq W) (.of W) (B5 (Wg 3 W<|G3 (GA g15.1.property W)<|G3 W<|Y7 g13.2 G_hit) (.of W) (B5 (Wg 3 W<|G3 (GA g15.1.property W)<|gq W) (.of W) (C2 (gq W)<|C2 (gq W)<|C2 (Yk g15.1.property 3 W G_hit) trivial))))) ?_
 intro x5 g18 z6 hz6 ez6
 unfold Ab at hz6
 refine B1<|sv W<|A2<|A6<|cc W hz6 (fun c9 hz6=> ?_)<|fun c9 hz6=> ?_
 refine A9<|A6<|A8<|B1<|sv W<|sv W<|A2<|B1<|sq W<|sv W<|sv W<|bs hz6 fun v13 hv13 hz6=>B0 W (E3 (An G_hit<|rD<|rD<|rD<|rD<|rD<|rD<|rD<|rD<|rD<|E3 (X4<|gq W)<|E3 (X4<|gq W)<|rD<|E3 (X4<|Yk g15.1.property 7 W G_hit) G2)<|rD<|rD G2) (.cons (DLe.bp<|ca W<|ca W<|ca W<|ca W<|ca W<|ca W<|ca W<|ca W<|ca W<|.cons ⟨X3,W⟩ (.cons ⟨X3,W⟩ (ca W<|.cons ⟨X3,W⟩ .nil))) (.cons (.refl _) A3)) (Mg _ _ _ _ hv13) (.inr W) (sv W<|sv W<|sv W<|sv W<|sv W<|A2<|B1<|sq W<|sv W<|sv W<|bs hz6 fun v14 hv14 hz6=>B0 W (E3 (An G_hit<|rD<|rD<|rD<|rD<|rD<|rD<|rD<|rD<|rD<|E3 (X4<|gq W)<|E3 (X4<|gq W)<|rD<|E3 (X4<|Yk g15.1.property 7 W G_hit) G2)<|rD<|rD G2) (.cons (DLe.bp<|ca W<|ca W<|ca W<|ca W<|ca W<|ca W<|ca W<|ca W<|ca W<|.cons ⟨X3,W⟩ (.cons ⟨X3,W⟩ (ca W<|.cons ⟨X3,W⟩ .nil))) (.cons (.refl _) A3)) (Mg _ _ _ _ hv14) (.inr W) (sv W<|sv W<|sv W<|sv W<|sv W<|A2<|A6<|B1<|sv W<|C0 (.d (bo (!v13.2))) W W (sv W<|gf W (fun _=>W) ?_)))
 refine U8 _ (.d (bo (!v14.2))) W (N5 W) (fun w2=>(by simp only [A5 w2];rfl)) ?_
 refine sd W (T5 W W<|fun hc=>A5<|M7 hc)<|A2<|cc W hz6 (fun c10 hz6=> ?_)<|fun c10 hz6=> ?_
 refine Zu W<|C6<|sv W<|sv W<|A2<|G5 ?_
 cases hz6
 exact ⟨W,(),(F6 (Dv W)<|B5 G_hit (.of W)<|sg W<|sg W<|B5 (Wg 2 W<|Y7 g13.2 G_hit) (.of W) (sg W<|C2 (gq W)<|C2 (gq W)<|C2 (Yk g15.1.property 7 W G_hit) trivial))⟩
 refine A9<|B1<|sv W<|sv W<|sv W<|sv W<|A2<|A6<|A6<|J0 W<|sq W<|sq W<|sp W W<|sq W<|sl W G_hit W<|sv W<|bs hz6 fun _ hv15 hz6=>sd W (E2 W W hv15 W)<|sv W<|sd W (H5 W hv15 W)<|sv W<|sv W<|sq W<|sp W W<|sq W<|sp W W<|sl W G_hit W<|sv W<|bs hz6 fun _ hv16 hz6=>sd W (E2 W W hv16 W)<|sv W<|sd W (H5 W hv16 W)<|sv W<|sv W<|sv W<|A2<|bs hz6 fun y14 hy14 hz6=>E7 (fun s=> ∃g19:Unit,Sb ⟨T [(0,(.ptr (30,u7) 0)),(1,(di a1.1)),(2,(di a1.2)),(6,(di x5)),(7,(di y14.1)),(9,(di y14.2.1)),(11,(di y14.2.2.1)),(12,(di y14.2.2.2)),(22,(di (p1.Lanes.length:Int))),(23,(di x5))],G [((30,u7),some<|.box 135 ((N4 p1)++ (O7 p2)++ [(di v2.Tick),(oS y2 (10060030,g2)),(oS y5 (85,g6)),(dl A4 p3),(oS x4 (g15.1.val,g15.2))])),((6,u1),some<|.box 25 [(di 0),(.d .nilS),(.d .nilS)]),((1,u47),some<|.box 133 [(.ptr (30,u7) 0)]),((1,g13.1),some<|.box 133 [(.ptr (30,u7) 0)]),((1000000,u53),some<|.obj (T [(1,(.ptr (1,u47) 0)),(5,(.fn (.func 174) [] [(.ptr (1,g13.1) 0)]))]) {r1 with state:= .busy}),((10060030,g2),oB 45 7 E5 y2),((85,g6),oB 127 4 K7 y5),((g15.1.val,g15.2),oB 77 6 Dg x4)]⟩ s) ?_ ?_
 refine cc W hy14 (fun c11 hy14=> ?_)<|fun c11 hy14=> ?_
 refine C6<|sv W<|sv W<|sv W<|sv W<|sv W<|sv W<|sv W<|sv W<|A2 ?_
 cases hy14
 exact X2 ⟨(),(F6 (Dv W)<|B5 G_hit (.of W)<|sg W<|sg W<|B5 (Wg 2 W<|Y7 g13.2 G_hit) (.of W) (sg W<|C2 (gq W)<|C2 (gq W)<|C2 (Yk g15.1.property 7 W G_hit) trivial))⟩
 refine A9 ?_
 cases hy14
 exact X2 ⟨(),(F6 (Dv W)<|B5 G_hit (.of W)<|sg W<|sg W<|B5 (Wg 2 W<|Y7 g13.2 G_hit) (.of W) (sg W<|C2 (gq W)<|C2 (gq W)<|C2 (Yk g15.1.property 7 W G_hit) trivial))⟩
 rintro _ ⟨g19,q6⟩
 refine B4 q6<|A6<|J0 W<|sq W<|sq W<|sp W W<|sq W<|C0 (oS y2 (10060030,g2)) W (U5 W G_hit W) (sv W<|bs hz6 fun _ hv17 hz6=>C0 (.aptr _ _ _ _) W (SY W W (gq W) hv17) (sd W (Si W (Xv (gq W)<|Tm hv17) hv17 W W)<|bs hz6 fun _ hv18 hz6=>B0 W W A3 (If _ _ hv18) (.inl W) (sv W<|bs hz6 fun v19 hv19 hz6=>B0 W W A3 (Hf _ _ _ hv19) (.inl W) (sq W<|sp W W<|sq W<|sp W W<|C0 (oS y2 (10060030,g2)) W (U5 W G_hit W) (sv W<|bs hz6 fun _ hv20 hz6=>C0 (.aptr _ _ _ _) W (SY W W (gq W) hv20) (sd W (Si W (Xv (gq W)<|Tm hv20) hv20 W W)<|bs hz6 fun _ hv21 hz6=>B0 W W A3 (If _ _ hv21) (.inl W) (sv W<|bs hz6 fun v22 hv22 hz6=>B0 W W A3 (Hf _ _ _ hv22) (.inl W) (sm W<|sn W W<|V5 W (gq W) [(di v19.from_),(di v19.to)] W (V5 W (gq W) [(di v22.from_),(di v22.to)] W (A2<|B1<|sq W<|sp W W<|sq W<|sp W W<|sl W (gq W) W (sv W<|bs hz6 fun _ hv23 hz6=>sd W (E2 W W hv23 W)<|sd W (E4 W hv23 W W)<|bs hz6 fun _ hv24 hz6=>B0 W W A3 (If _ _ hv24) (.inl W) (sv W<|bs hz6 fun v25 hv25 hz6=>B0 W W A3 (Hf _ _ _ hv25) (.inl W) (sm W<|V5 W G_hit [(di v25.from_),(di v25.to)] W (A2<|B1<|sq W<|sp W W<|sp W W ?_))))))))))))))
 refine sd W (B7 W (gq W) W W)<|sv W<|bs hz6 fun _ hv26 hz6=>B0 W W A3 (Oi _ _ _ hv26) (.inl W) (sv W<|A2<|B1<|sq W<|sl W (gq W) W (sv W<|sv W<|gp W (O5 W) (fun _=>W) (gt W (vl W (gq W) W)<|gt W (vb W W W)<|sa W W W<|sv W<|gp W (O5 W) (fun _=>W) (gt W (vl W G_hit W)<|gt W (fun _=>W)<|gt W (fun w9=>(S9 (A5 w9) (A5 w9) W))<|sa W W W<|sv W<|gp W (O5 W) (fun _=>W) (gt W (vl W (gq W) W)<|gt W (fun _=>W)<|gt W (fun w13=>(S9 (A5 w13) (A5 w13) W))<|sa W W W<|sv W<|gp W (O5 W) (fun _=>W) (gt W (vl W (gq W) W)<|gp W (O5 W) (fun _=>W) (gt W (vl W (gq W) W)<|gt W (fun w18=>(S9 (A5 w18) (A5 w18) W))<|sa W W W<|A2<|cc W hz6 (fun c12 hz6=> ?_)<|fun c12 hz6=> ?_)))))))
 refine A6<|Mz W fun u71 _=>sq W<|sq W<|sp W W<|sq W<|C0 (oS x4 (g15.1.val,g15.2)) W (U5 W (gq W) W) (sq W<|sp W W<|sq W<|sp W W<|sl W (gq W) W (sv W<|sv W<|sv W<|sv W<|C0 (dl A4 [y14.2.2.2]) W W (sv W<|C0 (dl Dg [(Crash.mk p2.Tick a1.1 a1.2 x5 (-1) [y14.2.2.2])]) W W (bs hz6 fun _ hv27 hz6=>U7 Dg (g15.1.val,g15.2) x4 (Crash.mk p2.Tick a1.1 a1.2 x5 (-1) [y14.2.2.2]) [] _ (P0<|fun _=>W) W (G3 (FZ g15.1.property W)<|G3 (FZ g15.1.property W)<|G3 (FZ g15.1.property W)<|G3 (FZ g15.1.property W)<|G3 (FZ g15.1.property W)<|G3 (FZ g15.1.property W)<|G3 (FZ g15.1.property W)<|G3 (FZ g15.1.property W)<|G3 (FZ g15.1.property W)<|G3 (FZ g15.1.property W)<|G3 (FZ g15.1.property W)<|G3 (FZ g15.1.property W)<|G3 (FZ g15.1.property W) G_hit) hv27 (sq W<|sp W W<|Nn _ _ _ _ _ W W W (G3 W<|G3 (GA g15.1.property W)<|gq W) (nl W) ((N4 p1)++ (O7 p2)++ [(di v2.Tick),(oS y2 (10060030,g2)),(oS y5 (85,g6)),(dl A4 p3),(.sl (158,u71))]) W (A2<|B2 ?_))))))
 cases hz6
 obtain rfl:=ez6 _ rfl
 refine ⟨nofun,H4 ?_⟩
 rw [wE]at hy12
 cases hy12
 exact NI (.inr W) (mG) (⟨158, .tail _ (.head _)⟩,u71) (Dv W) (B5 (Wg 2 W<|G3 (GA g15.1.property W)<|gq W) (.of W) (B5 (Wg 2 W<|G3 (GA g15.1.property W)<|gq W) (.of W) (B5 G_hit (.box (cv<|cv<|cv<|cv<|cv<|cv<|cv<|cv<|cv<|cv<|cv<|cv<|.cons (.of (X1<|Aj hv27).symm) .nil))<|B5 (Wg 2 W<|G3 (GA g15.1.property W)<|G3 W<|G3 W<|G3 W<|G3 W<|G3 W<|G3 W<|G3 W<|G3 W<|Y7 g13.2 G_hit) (.of W) (B5 (Wg 2 W<|G3 (GA g15.1.property W)<|gq W) (.of W) (C2 (Wg 2 W<|G3 (GA g15.1.property W)<|gq W)<|C2 (Wg 2 W<|G3 (GA g15.1.property W)<|gq W)<|O8 (gq W) trivial)))))
 refine A9<|F9<|C6<|sv W<|sv W<|A2<|G5 ?_
 cases hz6
 exact ⟨W,(),(F6 (Dv W)<|sg W<|sg W<|sg W<|B5 (Wg 8 W<|Y7 g13.2 G_hit) (.of W) (sg W<|C2 (gq W)<|C2 (gq W)<|C2 (Yk g15.1.property 13 W G_hit) trivial))⟩
 refine D5 W ?_
 cases hz6
 obtain rfl:=ez6 _ rfl
 refine ⟨nofun,D4 W<|X2 ?_⟩
 exact ⟨_,(),W,(F6 trivial<|sg W<|B5 G_hit (.of W)<|sg W<|B5 (Wg 2 W<|Y7 g13.2 G_hit) (.of W) (sg W<|C2 (gq W)<|C2 (gq W)<|C2 (Yk g15.1.property 7 W G_hit) trivial))⟩
 rintro _ ⟨y13,g17,rfl,q7⟩
 rw [wD]at hy12
 refine G5 ?_
 obtain rfl:=(lD hy12)
 exact Wh q7 (.inl W) (g15.1,g15.2) (Dv W) (sg W<|B5 G_hit (.of W)<|sg W<|B5 (Wg 2 W<|Y7 g13.2 G_hit) (.of W) (sg W<|C2 (gq W)<|C2 (gq W)<|C2 (Yk g15.1.property 7 W G_hit) trivial))
 intro g16
 intro u73 hu73
 refine A2<|C6<|sp W (U5 W G_hit W)<|sv W<|sv W<|bs hz4 fun y15 hy15 hz4=>Zz (fk func184 ntmps184 (fun r=>if r==5 then [1002]else if r==6 then [1010]else if r==8 then [1001]else if r==10 then [1001]else if r==11 then [1015]else []) (by with_unfolding_all rfl)) (fun (g20:({d:Nat // d∈ [72,158]}×Nat))=> []) (fun (g20:({d:Nat // d∈ [72,158]}×Nat))=> [((6,u1),some<|.box 25 [(di 0),(.d .nilS),(.d .nilS)]),((30,u7),some<|.box 135 ((N4 p1)++ (O7 p2)++ [(di v2.Tick),(oS y2 (10060030,g2)),(oS y5 (85,g6)),(dl A4 p3),(oS y15 (g20.1.val,g20.2))])),((1,u47),some<|.box 133 [(.ptr (30,u7) 0)]),((1,g13.1),some<|.box 133 [(.ptr (30,u7) 0)]),((1000000,u53),some<|.obj (T [(1,(.ptr (1,u47) 0)),(5,(.fn (.func 174) [] [(.ptr (1,g13.1) 0)]))]) {r1 with state:= .busy}),((10060030,g2),oB 45 7 E5 y2),((85,g6),oB 127 4 K7 y5),((g20.1.val,g20.2),oB 77 6 Dg y15)]) W (nl W) ?_ ?_
 unfold Do at hy15
 refine B4 (s0:=⟨T [(0,(.ptr (30,u7) 0)),(1,(di a1.1)),(2,(di a1.2))],G [((30,u7),some<|.box 135 ((N4 p1)++ (O7 p2)++ [(di v2.Tick),(oS y2 (10060030,g2)),(oS y5 (85,g6)),(dl A4 p3),(oS y12 (g16.1.val,g16.2))])),((10060030,g2),oB 45 7 E5 y2),((85,g6),oB 127 4 K7 y5),((g16.1.val,g16.2),oB 77 6 Dg y12),((6,u1),some<|.box 25 [(di 0),(.d .nilS),(.d .nilS)]),((1,u47),some<|.box 133 [(.ptr (30,u7) 0)]),((1,g13.1),some<|.box 133 [(.ptr (30,u7) 0)]),((1000000,u53),some<|.obj (T [(1,(.ptr (1,u47) 0)),(5,(.fn (.func 174) [] [(.ptr (1,g13.1) 0)]))]) {r1 with state:= .busy})]⟩) (F6 (Dv W)<|sg W<|C2 (gq W)<|C2 (gq W)<|C2 (Yk g16.1.property 7 W G_hit)<|sg W<|B5 G_hit (.of W)<|B5 (Y7 g13.2<|gq W) (.of W) (sg W trivial)) ?_
 refine B1<|sq W<|sp W W<|sq W<|sp W W<|sl W G_hit W<|sd W (E8 W)<|sv W<|A2<|bs hy15 fun y16 hy16 hy15=>E7 (fun s=> ∃g21:({d:Nat // d∈ [72,158]}×Nat),Sb ⟨T [],G [((6,u1),some<|.box 25 [(di 0),(.d .nilS),(.d .nilS)]),((30,u7),some<|.box 135 ((N4 p1)++ (O7 p2)++ [(di v2.Tick),(oS y2 (10060030,g2)),(oS y5 (85,g6)),(dl A4 p3),(oS y16 (g21.1.val,g21.2))])),((1,u47),some<|.box 133 [(.ptr (30,u7) 0)]),((1,g13.1),some<|.box 133 [(.ptr (30,u7) 0)]),((1000000,u53),some<|.obj (T [(1,(.ptr (1,u47) 0)),(5,(.fn (.func 174) [] [(.ptr (1,g13.1) 0)]))]) {r1 with state:= .busy}),((10060030,g2),oB 45 7 E5 y2),((85,g6),oB 127 4 K7 y5),((g21.1.val,g21.2),oB 77 6 Dg y16)]⟩ s) ?_ ?_
 refine A8<|G6 (Aa p1 p2 p3 v2 y2 y5 a1) (fun (x6:(Int× (List Crash))) (g22:({d:Nat // d∈ [72,158]}×Nat))=>⟨T [(0,(.ptr (30,u7) 0)),(1,(di a1.1)),(2,(di a1.2)),(15,(di (p1.Zones.length:Int))),(16,(di x6.1))],G [((30,u7),some<|.box 135 ((N4 p1)++ (O7 p2)++ [(di v2.Tick),(oS y2 (10060030,g2)),(oS y5 (85,g6)),(dl A4 p3),(oS x6.2 (g22.1.val,g22.2))])),((6,u1),some<|.box 25 [(di 0),(.d .nilS),(.d .nilS)]),((1,u47),some<|.box 133 [(.ptr (30,u7) 0)]),((1,g13.1),some<|.box 133 [(.ptr (30,u7) 0)]),((1000000,u53),some<|.obj (T [(1,(.ptr (1,u47) 0)),(5,(.fn (.func 174) [] [(.ptr (1,g13.1) 0)]))]) {r1 with state:= .busy}),((10060030,g2),oB 45 7 E5 y2),((85,g6),oB 127 4 K7 y5),((g22.1.val,g22.2),oB 77 6 Dg x6.2)]⟩) (0,y12) (g16.1,g16.2) _ hy16 (F6 (Dv W)<|B5 G_hit (.of W)<|B5 (Wg 3 W<|G3 (GA g16.1.property W) G_hit) (.of W) (B5 (Wg 3 W<|G3 (GA g16.1.property W)<|gq W) (.of W) (B5 (Wg 3 W<|G3 (GA g16.1.property W)<|G3 W<|Y7 g13.2 G_hit) (.of W) (B5 (Wg 3 W<|G3 (GA g16.1.property W)<|gq W) (.of W) (C2 (gq W)<|C2 (gq W)<|C2 (Yk g16.1.property 3 W G_hit) trivial))))) ?_
 intro x6 g22 z7 hz7 ez7
 unfold Aa at hz7
 refine B1<|sv W<|A2<|A6<|cc W hz7 (fun c13 hz7=> ?_)<|fun c13 hz7=> ?_
 refine A9<|A6<|A8<|B1<|sv W<|sv W<|A2<|A6<|B1<|sq W<|sv W<|sv W<|sv W<|bs hz7 fun v28 hv28 hz7=>B0 W (E3 (An G_hit<|rD<|rD<|rD<|rD<|rD<|rD<|rD<|rD<|rD<|E3 (X4<|gq W)<|E3 (X4<|gq W)<|rD<|E3 (X4<|Yk g22.1.property 7 W G_hit) G2)<|rD<|rD<|rD G2) (.cons (DLe.bp<|ca W<|ca W<|ca W<|ca W<|ca W<|ca W<|ca W<|ca W<|ca W<|.cons ⟨X3,W⟩ (.cons ⟨X3,W⟩ (ca W<|.cons ⟨X3,W⟩ .nil))) (.cons (.refl _) (.cons (.refl _) A3))) (Md _ _ _ _ _ hv28) (.inr W) (C0 (.d (bo (!v28))) W W (A2<|cc W hz7 (fun c14 hz7=> ?_)<|fun c14 hz7=> ?_))
 refine Zu W<|C6<|sv W<|sv W<|A2<|G5 ?_
 cases hz7
 exact ⟨W,(g22.1,g22.2),(F6 (Dv W)<|B5 G_hit (.of W)<|sg W<|sg W<|B5 (Wg 2 W<|Y7 g13.2 G_hit) (.of W) (sg W<|C2 (gq W)<|C2 (gq W)<|C2 (Yk g22.1.property 7 W G_hit) trivial))⟩
 refine A9<|B1<|sq W<|sv W<|sv W<|bs hz7 fun v29 hv29 hz7=>B0 W (E3 (An G_hit<|rD<|rD<|rD<|rD<|rD<|rD<|rD<|rD<|rD<|E3 (X4<|gq W)<|E3 (X4<|gq W)<|rD<|E3 (X4<|Yk g22.1.property 7 W G_hit) G2)<|rD<|rD G2) (.cons (DLe.bp<|ca W<|ca W<|ca W<|ca W<|ca W<|ca W<|ca W<|ca W<|ca W<|.cons ⟨X3,W⟩ (.cons ⟨X3,W⟩ (ca W<|.cons ⟨X3,W⟩ .nil))) (.cons (.refl _) A3)) (Mt _ _ _ _ hv29) (.inr W) (sq W<|sv W<|sv W<|bs hz7 fun v30 hv30 hz7=>B0 W (E3 (An G_hit<|rD<|rD<|rD<|rD<|rD<|rD<|rD<|rD<|rD<|E3 (X4<|gq W)<|E3 (X4<|gq W)<|rD<|E3 (X4<|Yk g22.1.property 7 W G_hit) G2)<|rD<|rD G2) (.cons (DLe.bp<|ca W<|ca W<|ca W<|ca W<|ca W<|ca W<|ca W<|ca W<|ca W<|.cons ⟨X3,W⟩ (.cons ⟨X3,W⟩ (ca W<|.cons ⟨X3,W⟩ .nil))) (.cons (.refl _) A3)) (Mt _ _ _ _ hv30) (.inr W) (sm W<|sn W W<|V5 W (gq W) (Ys v29) W (V5 W (gq W) (Ys v30) W (A2<|B1<|sv W<|sv W<|C0 (dl A4 [a1.1,a1.2]) W W (C0 (dl A4 [a1.1,a1.2]) W W (A2<|A6<|A6<|J0 W<|sq W<|sl W (gq W) W (sq W<|sl W G_hit W<|bs hz7 fun v31 hv31 hz7=>B0 W W A3 (Hd _ _ _ hv31) (.inl W) (sq W<|sl W G_hit W<|sq W<|sl W (gq W) W (bs hz7 fun v32 hv32 hz7=>B0 W W A3 (Nz _ _ _ hv32) (.inl W) (C0 (dl A4 [v31,v32]) W W (bs hz7 fun _ hv33 hz7=>B0 W W A3 (Rt _ _ hv33) (.inl W) (A2<|bs hz7 fun y17 hy17 hz7=>E7 (fun s=> ∃g23:Unit,Sb ⟨T [(0,(.ptr (30,u7) 0)),(1,(di a1.1)),(2,(di a1.2)),(6,(di x6.1)),(9,(dl A4 y17)),(15,(di (p1.Zones.length:Int))),(16,(di x6.1))],G [((30,u7),some<|.box 135 ((N4 p1)++ (O7 p2)++ [(di v2.Tick),(oS y2 (10060030,g2)),(oS y5 (85,g6)),(dl A4 p3),(oS x6.2 (g22.1.val,g22.2))])),((6,u1),some<|.box 25 [(di 0),(.d .nilS),(.d .nilS)]),((1,u47),some<|.box 133 [(.ptr (30,u7) 0)]),((1,g13.1),some<|.box 133 [(.ptr (30,u7) 0)]),((1000000,u53),some<|.obj (T [(1,(.ptr (1,u47) 0)),(5,(.fn (.func 174) [] [(.ptr (1,g13.1) 0)]))]) {r1 with state:= .busy}),((10060030,g2),oB 45 7 E5 y2),((85,g6),oB 127 4 K7 y5),((g22.1.val,g22.2),oB 77 6 Dg x6.2)]⟩ s) ?_ ?_))))))))))))
 refine A8<|B1<|sv W<|sv W<|A2<|cc W hy17 (fun c15 hy17=> ?_)<|fun c15 hy17=> ?_
 refine C6<|sv W<|C0 (dl A4 [a1.1]) W W (C0 (dl A4 [a1.1]) W W (A2<|F9 ?_))
 cases hy17
 exact X2 ⟨(),(F6 (Dv W)<|sg W<|sg W<|sg W<|B5 (Wg 6 W<|Y7 g13.2 G_hit) (.of W) (sg W<|C2 (gq W)<|C2 (gq W)<|C2 (Yk g22.1.property 11 W G_hit) trivial))⟩
 refine B1<|sv W<|sv W<|A2<|cc W hy17 (fun c16 hy17=> ?_)<|fun c16 hy17=> ?_
 refine C6<|sv W<|C0 (dl A4 [a1.2]) W W (C0 (dl A4 [a1.2]) W W (A2<|F9 ?_))
 cases hy17
 exact X2 ⟨(),(F6 (Dv W)<|sg W<|sg W<|sg W<|B5 (Wg 6 W<|Y7 g13.2 G_hit) (.of W) (sg W<|C2 (gq W)<|C2 (gq W)<|C2 (Yk g22.1.property 11 W G_hit) trivial))⟩
 refine A9<|F9 ?_
 cases hy17
 exact X2 ⟨(),(F6 (Dv W)<|sg W<|sg W<|sg W<|B5 (Wg 6 W<|Y7 g13.2 G_hit) (.of W) (sg W<|C2 (gq W)<|C2 (gq W)<|C2 (Yk g22.1.property 11 W G_hit) trivial))⟩
 rintro _ ⟨g23,q8⟩
 refine B4 q8<|Mz W fun u87 _=>sq W<|sq W<|sp W W<|sq W<|C0 (oS x6.2 (g22.1.val,g22.2)) W (U5 W G_hit W) (sq W<|sp W W<|sq W<|sp W W<|sl W G_hit W<|sv W<|sv W<|sv W<|sv W<|sv W<|C0 (dl Dg [(Crash.mk p2.Tick a1.1 a1.2 (-1) x6.1 y17)]) W W (bs hz7 fun _ hv34 hz7=>U7 Dg (g22.1.val,g22.2) x6.2 (Crash.mk p2.Tick a1.1 a1.2 (-1) x6.1 y17) [] _ (P0<|fun _=>W) W (G3 (FZ g22.1.property W)<|G3 (FZ g22.1.property W)<|G3 (FZ g22.1.property W)<|G3 (FZ g22.1.property W)<|G3 (FZ g22.1.property W)<|G3 (FZ g22.1.property W)<|G3 (FZ g22.1.property W) G_hit) hv34 (sq W<|sp W W<|Nn _ _ _ _ _ W W W (G3 W<|G3 (GA g22.1.property W) G_hit) (nl W) ((N4 p1)++ (O7 p2)++ [(di v2.Tick),(oS y2 (10060030,g2)),(oS y5 (85,g6)),(dl A4 p3),(.sl (72,u87))]) W (A2<|F9<|C6<|sv W<|sv W<|A2<|G5 ?_))))
 cases hz7
 exact ⟨W,(⟨72, .head _⟩,u87),(F6 (Dv W)<|B5 G_hit (.box (cv<|cv<|cv<|cv<|cv<|cv<|cv<|cv<|cv<|cv<|cv<|cv<|.cons (.of (X1<|Aj hv34).symm) .nil))<|B5 (Wg 2 W<|G3 (GA g22.1.property W)<|gq W) (.of W) (B5 (Wg 2 W<|G3 (GA g22.1.property W)<|gq W) (.of W) (B5 (Wg 2 W<|G3 (GA g22.1.property W)<|G3 W<|G3 W<|Y7 g13.2 G_hit) (.of W) (B5 (Wg 2 W<|G3 (GA g22.1.property W)<|gq W) (.of W) (C2 (Wg 2 W<|G3 (GA g22.1.property W)<|gq W)<|C2 (Wg 2 W<|G3 (GA g22.1.property W)<|gq W)<|O8 (gq W) trivial)))))⟩
 refine D5 W ?_
 cases hz7
 obtain rfl:=ez7 _ rfl
 refine ⟨nofun,D4 W<|X2 ?_⟩
 exact ⟨(g22.1,g22.2),(F6 trivial<|sg W<|B5 G_hit (.of W)<|sg W<|B5 (Wg 2 W<|Y7 g13.2 G_hit) (.of W) (sg W<|C2 (gq W)<|C2 (gq W)<|C2 (Yk g22.1.property 7 W G_hit) trivial))⟩
 rintro _ ⟨g21,q9⟩
 refine G5 ?_
 obtain rfl:=(lD hy15)
 exact Wh q9 (.inl W) (g21.1,g21.2) trivial (B5 G_hit (.of W)<|sg W<|sg W<|B5 (Wg 2 W<|Y7 g13.2 G_hit) (.of W) (sg W<|C2 (gq W)<|C2 (gq W)<|C2 (Yk g21.1.property 7 W G_hit) trivial))
 intro g20
 intro u89 hu89
 refine A2<|F9<|G5 ?_
 cases hz4
 exact aQ (gq W) (g20.1,g20.2) (sg W<|B5 (Wg 2 W<|Y7 g13.2 G_hit) (.of W) (B5 G_hit (.of W)<|sg W<|C2 (gq W)<|C2 (gq W)<|C2 (Yk g20.1.property 7 W G_hit) trivial))
 rintro x4 g15 _ rfl qx4
 refine F9<|X2 ?_
 exact ⟨(g15.1,g15.2),(Sb.after qx4<|F6 trivial<|sg W<|sg W<|C2 (gq W)<|C2 (gq W)<|C2 (Yk g15.1.property 6 W G_hit) trivial)⟩
 rintro _ ⟨g14,q10⟩
 refine G5 ?_
 obtain rfl:=(lD hy9)
 exact Wh q10 (.inl W) (g14.1,g14.2) (Dv W) (B5 G_hit (.of W)<|sg W<|C2 (gq W)<|C2 (gq W)<|C2 (Yk g14.1.property 4 W G_hit) trivial)
 intro g12
 intro u90 hu90
 refine A2<|F9<|C6<|sv W<|sv W<|A2<|BO<|B1<|sv W<|A2<|A6<|Qy W<|Zu W ?_
 cases hy1
 exact X2 ⟨(g2,g6,(g12.1,g12.2)),(F6 (Dv W)<|B5 G_hit (.of W)<|sg W<|C2 (gq W)<|C2 (gq W)<|C2 (Yk g12.1.property 4 W G_hit) trivial)⟩
 rintro _ ⟨g1,q11⟩
 refine B4 q11<|B1<|sq W<|sp W W<|sq W<|sp W W<|sl W (gq W) W (sv W<|sq W<|sp W W<|sq W<|V5 W (gq W) ((N4 p1)++ (O7 p2)++ [(di<|D2 (v2.Tick+1)),(oS y1.1 (10060030,g1.1)),(oS y1.2.1 (85,g1.2.1)),(dl A4 p3),(oS y1.2.2 (g1.2.2.1.val,g1.2.2.2))]) W (A2<|A6<|FY fun _ _=>Em (.ptr _ _) W W (Em (.ptr _ _) W W (Em (.ptr _ _) W W (Em (Ak [(di<|D2 (v2.Tick+1)),(oS y1.1 (10060030,g1.1)),(oS y1.2.1 (85,g1.2.1))]) W (B7 W G_hit W W) (Em (.ptr _ _) W W (Em (.ptr _ _) W W (Em (.ptr _ _) W W (Em (oS y1.2.2 (g1.2.2.1.val,g1.2.2.2)) W (U5 W G_hit W) (UZ _ _ _ _ _ (Aw _) W W (gq W) (nl W) [(di<|D2 (v2.Tick+1)),(oS y1.1 (10060030,g1.1)),(oS y1.2.1 (85,g1.2.1))] W (Em (oS y1.2.2 (g1.2.2.1.val,g1.2.2.2)) W W (Em (.d _) W W (UY ⟨by first|rfl|((generalize g1.2.2.1=q0;rcases q0 with ⟨d0,_|⟨_,_|⟨_,h0⟩⟩⟩)<;>(generalize y1.2.2=z4;cases z4)<;>first|rfl|contradiction),?_⟩)))))))))))))
 refine B2 ?_
 cases h
 exact A7 (.inr W) (BL (M1 W G_hit (nl W) W) (B3 W) (B3 W) (Pq<|rD<|E3 (X4<|gq W)<|E3 (X4<|gq W) G2) (X4<|Yk g1.2.2.1.property 6 W G_hit) C1) (.tup (.cons (.agg (ca W<|.cons ⟨X3,W⟩ (.cons ⟨X3,W⟩ .nil))) (.cons X3 A3)))
def Gy [Lp]:Option Bool:=
  (Pj).bind fun v1=>(Re 0 10000 1000).bind fun v2=>(Re 1 46000 1000).bind fun v3=>(Jl v1 [v2,v3]).bind fun v4=>cond (((v4.2 !=0)||((v4.1.In.length:Int) !=0))||((v4.1.Agents.length:Int) !=2)) (some false) ((Hh v1 v4.1 [50,(-90)]).bind fun v5=>((cond (((v5.2.2==0)&& ((v5.2.1.length:Int)==0))&& ((v5.1.Agents.length:Int)==2)) (B8 v5.1.Agents 0) (some default))).bind fun v6=>((cond ((((v5.2.2==0)&& ((v5.2.1.length:Int)==0))&& ((v5.1.Agents.length:Int)==2))&& (v6.S==11030)) (B8 v5.1.Agents 1) (some default))).bind fun v7=>((cond (((((v5.2.2==0)&& ((v5.2.1.length:Int)==0))&& ((v5.1.Agents.length:Int)==2))&& (v6.S==11030))&& (v7.V==910)) (Kw 100 30) (some default))).bind fun v8=>some ((((((v5.2.2==0)&& ((v5.2.1.length:Int)==0))&& ((v5.1.Agents.length:Int)==2))&& (v6.S==11030))&& (v7.V==910))&& (v8==120)))
theorem Ww(r)(h:Gy=some r):PCall prog 21 [] (bo r):=by
 refine C3 (fk func21 ntmps21 (fun r=>if r==2 then [1003]else if r==5 then [1002]else []) (by with_unfolding_all rfl)) (nl W) ?_
 unfold Gy at h
 refine B4 (s0:=⟨T [],G []⟩) (G9 W W) ?_
 refine B1<|sv W<|A2<|B1<|bs h fun v1 hv1 h=>B0 W W A3 (NK _ hv1) (.inl W) (sm W<|V5 W G_hit (N4 v1) W (A2<|A6<|J0 W<|sd W (B7 W G_hit W W)<|bs h fun v2 hv2 h=>B0 W W A3 (Wv _ _ _ _ hv2) (.inl W) (bs h fun v3 hv3 h=>B0 W W A3 (Wv _ _ _ _ hv3) (.inl W) (C0 (dl E5 [v2,v3]) W (Xx E5 ([v2,v3]:List Agent) (fun _=>W) W W ⟨W,W,W,W,W,W,trivial⟩ (fun _=>W)) (bs h fun v4 hv4 h=>B0 W W A3 (CF _ _ _ hv4) (.inl W) (sv W<|sv W<|sv W<|sm W<|V5 W G_hit (O7 v4.1) W (sv W<|A2<|A6<|B1<|sv W<|sv W<|sv W<|gp W (N5 W) (fun _=>W) (gf W (vl W G_hit W)<|gf W (fun w3=>(E8<|A5 w3))<|gf W (vb W W W)<|sd W (T5 W W<|fun hc=>A5<|M7 hc)<|sv W<|gp W (N5 W) (fun _=>W) (gf W (vl W G_hit W)<|gf W (fun w7=>(E8<|A5 w7))<|gf W (vb W W W)<|sd W (T5 W W<|fun hc=>A5<|M7 hc)<|A2<|cc W h (fun c1 h=> ?_)<|fun c1 h=> ?_)))))))))
 refine B1<|sv W<|A2<|B2 ?_
 cases h
 exact A7 (.inr W) (B6 (B3 W) C1) (.refl _)
 refine A9<|B1<|sd W (B7 W (gq W) W W)<|sd W (B7 W G_hit W W)<|C0 (dl A4 [50,(-90)]) W W (bs h fun v5 hv5 h=>B0 W W A3 (Zc _ _ _ _ hv5) (.inl W) (sv W<|sv W<|sv W<|sv W<|sm W<|V5 W G_hit (O7 v5.1) W (sv W<|sv W<|A2<|B1<|sv W<|sv W<|sv W<|gt W (fun _=>W)<|gt W (fun w10=>(E8<|A5 w10))<|gt W (vb W W W)<|sa W W W<|sv W<|gp W (O5 W) (fun _=>W) (gt W (vl W G_hit W)<|gt W (fun w14=>(E8<|A5 w14))<|gt W (vb W W W)<|sa W W W<|sv W<|gp W (O5 W) (fun _=>W) (gt W (vl W G_hit W)<|bs h fun _ hv6 h=>gt W (fun w18=>(E2 (A5 w18) W (D3 w18 hv6) W)) ?_)))))
 refine gt W (fun w19=>(by simp only [A5 w19];rfl)) ?_
 refine gt W (fun w20=>(H5 (A5 w20) (D3 w20 hv6) W))<|gt W (vb W W W)<|sa W W W<|sv W<|gp W (O5 W) (fun _=>W) (gt W (vl W G_hit W)<|bs h fun _ hv7 h=>gt W (fun w24=>(E2 (A5 w24) W (D3 w24 hv7) W)) ?_)
 refine gt W (fun w25=>(by simp only [A5 w25];rfl)) ?_
 refine gt W (fun w26=>(H5 (A5 w26) (D3 w26 hv7) W))<|gt W (vb W W W)<|sa W W W<|sv W<|bs h fun v8 hv8 h=>P3 _ (i64 v8) (O5 W) (fun w28=>⟨_,_,_,_,W,W,A3,Rv _ _ _<|D3 w28 hv8,(.inl W)⟩) (gt W (vb W W W)<|sa W W W<|sv W<|A2<|B2 ?_)
 cases h
 exact A7 (.inr W) (B6 (B3 W) C1) (.refl _)
def X7 (y1:(Agent×Agent))(v7:(State× (List Crash)×Int))(x1:Int):Option (Stp Int (Sum Unit Bool)):=
  cond (decide (x1< (v7.2.1.length:Int))) ((B8 v7.2.1 x1).bind fun v8=>((cond (decide (v8.Zone_<0)) (B8 v7.1.Agents 0) (some default))).bind fun v9=>((cond (decide (v8.Zone_<0)) (Nh y1.2) (some default))).bind fun v10=>cond ((decide (v8.Zone_<0))&& (decide (v9.S<v10))) (some (.out (.inr false))) (some (.go (D2 (x1+1))))) (some (.out (.inl ())))
def Kr [Lp](p1:Int)(p2:KitActor)(p3:KitActor)(p4:Int)(p5:Int):Option Bool:=
  (Xy p1).bind fun v1=>(Pi v1 (KitActor.mk p2.R p2.S p2.V p2.Len 0 p2.Disobeys) true).bind fun v2=>(Pi v1 (KitActor.mk p2.R p3.S p3.V p3.Len 0 p3.Disobeys) true).bind fun v3=>(cond (decide (v2.S>v3.S)) (some (v3,v2)) (some (v2,v3))).bind fun y1=>(Jl v1 [y1.1,y1.2]).bind fun v4=>((cond (!(v4.2 !=0)) (Nh y1.2) (some default))).bind fun v5=>cond ((v4.2 !=0)||(decide (v5≤y1.1.S))) (((cond (v4.2 !=1) (Gy) (some default))).bind fun v6=>some ((v4.2 !=1)&&v6)) ((Hh v1 v4.1 [p4,p5]).bind fun v7=>cond ((v7.2.2 !=0)||((v7.1.Agents.length:Int) !=2)) (some false) (thenS (loop (X7 y1 v7) 0) (fun _=>(Gy).bind fun v11=>some v11) (fun r=>some r)))
theorem AI(p1 p2 p3 p4 p5 r)(h:Kr p1 p2 p3 p4 p5=some r):PCall prog 9 [(i64 p1),(.agg (Sk p2)),(.agg (Sk p3)),(i64 p4),(i64 p5)] (bo r):=by
 refine C3 (fk func9 ntmps9 (fun r=>if r==6 then [1003]else if r==9 then [1004]else []) (by with_unfolding_all rfl)) (nl W) ?_
 unfold Kr at h
 refine B4 (s0:=⟨T [(0,(.d _)),(1,(.d _)),(2,(.d _)),(3,(.d _)),(4,(.d _))],G []⟩) (G9 W W) ?_
 refine B1<|sm W<|sn W W<|sv W<|A2<|lr<|fun u2 _=>sv W<|bs h fun v1 hv1 h=>B0 W W A3 (TE _ _ hv1) (.inl W) (sm W<|V5 W G_hit (N4 v1) W (A2<|B1<|sq W<|sl W (gq W) W (sq W<|V5 W (gq W) ((Sm p3).set 0 (di p2.R)) W (sq W<|V5 W (gq W) ((Sm p2).set 4 (di 0)) W (sq W<|V5 W (gq W) (((Sm p3).set 0 (di p2.R)).set 4 (di 0)) W (A2<|A6<|Mz W fun u4 _=>sd W (B7 W (gq W) W W)<|sd W (B7 W (gq W) W W)<|bs h fun v2 hv2 h=>B0 W W A3 (BZ _ _ _ _ hv2) (.inl W) (sd W (B7 W (gq W) W W)<|sd W (B7 W G_hit W W)<|bs h fun v3 hv3 h=>B0 W W A3 (BZ _ _ _ _ hv3) (.inl W) (sm W<|sn W W<|V5 W (gq W) (X5 v2) W (V5 W (gq W) (X5 v3) W (A2<|A6<|B1<|sq W<|sl W (gq W) W (sq W<|sl W G_hit W<|sv W<|A2<|bs h fun y1 hy1 h=>E7 (fun s=> ∃g1:Unit,Sb ⟨T [(3,(di p4)),(4,(di p5)),(11,(.ptr (11,u2) 0)),(12,(.ptr (12,u4) 0)),(13,(.ptr (13,u4) 0))],G [((11,u2),some<|.box 33 (N4 v1)),((12,u4),some<|.box 45 (X5 y1.1)),((13,u4),some<|.box 45 (X5 y1.2))]⟩ s) ?_ ?_)))))))))))
 refine cc W hy1 (fun c1 hy1=> ?_)<|fun c1 hy1=> ?_
 refine C6<|sd W (B7 W G_hit W W)<|sd W (B7 W (gq W) W W)<|V5 W (gq W) (X5 v3) W (V5 W (gq W) (X5 v2) W (A2 ?_))
 cases hy1
 exact X2 ⟨(),(G9 W W)⟩
 refine A9 ?_
 cases hy1
 exact X2 ⟨(),(G9 W W)⟩
 rintro _ ⟨g1,q1⟩
 refine B4 q1<|B1<|sd W (B7 W G_hit W W)<|sd W (B7 W (gq W) W W)<|sd W (B7 W (gq W) W W)<|C0 (dl E5 [y1.1,y1.2]) W (Xx E5 ([y1.1,y1.2]:List Agent) (fun _=>W) W W ⟨W,W,W,W,W,W,trivial⟩ (fun _=>W)) (bs h fun v4 hv4 h=>B0 W W A3 (CF _ _ _ hv4) (.inl W) (sv W<|sv W<|sv W<|sm W<|V5 W G_hit (O7 v4.1) W (sv W<|A2<|A6<|A6<|J0 W<|sv W<|sv W<|sv W<|gf W (fun _=>(B7 W (gq W) W W))<|bs h fun v5 hv5 h=> ?_)))
 refine P3 _ (i64 v5) (N5 W) (fun w2=>⟨_,[(.d (.agg (E5 y1.2)))],_,_,(by simp only [A5 w2];rfl),W,A3,Zb _ _<|D3 w2 hv5,(.inl W)⟩) ?_
 refine gp W (N5 W) (fun _=>W) (gf W (vl W (gq W) W)<|gf W (fun w5=>(S9 (A5 w5) (A5 w5) W))<|sd W (T5 W W<|fun hc=>A5<|M7 hc)<|A2<|cc W h (fun c2 h=> ?_)<|fun c2 h=> ?_)
 refine B1<|sv W<|sv W<|sv W<|bs h fun v6 hv6 h=>P3 _ (bo v6) (O5 W) (fun w6=>⟨_,_,_,_,W,W,A3,Ww _<|D3 w6 hv6,(.inl W)⟩) (sa W W W<|sv W<|A2<|B2 ?_)
 cases h
 exact A7 (.inr W) (B6 (B3 W) C1) (.refl _)
 refine A9<|lr<|fun u10 _=>sd W (B7 W (gq W) W W)<|sd W (B7 W G_hit W W)<|sv W<|sv W<|C0 (dl A4 [p4,p5]) W W (bs h fun v7 hv7 h=>B0 W W A3 (Zc _ _ _ _ hv7) (.inl W) (sv W<|sv W<|sv W<|sv W<|sm W<|V5 W G_hit (O7 v7.1) W (sv W<|sv W<|A2<|A6<|B1<|sv W<|sv W<|sv W<|gp W (N5 W) (fun _=>W) (gf W (vl W G_hit W)<|gf W (fun w9=>(E8<|A5 w9))<|gf W (vb W W W)<|sd W (T5 W W<|fun hc=>A5<|M7 hc)<|A2<|cc W h (fun c3 h=> ?_)<|fun c3 h=> ?_))))
 refine B1<|sv W<|A2<|B2 ?_
 cases h
 exact A7 (.inr W) (B6 (B3 W) C1) (.refl _)
 refine A9<|A6<|B1<|sv W<|A2<|js h fun z1 hz1 h=>E7 (fun s=> ∃(y2:Unit) (g2:Unit),z1= .inl y2∧Sb ⟨T [],G []⟩ s) ?_ ?_
 refine A8<|G6 (X7 y1 v7) (fun (x1:Int) (g3:Unit)=>⟨T [(13,(.ptr (13,u4) 0)),(16,(.ptr (16,u10) 0)),(17,(dl Dg v7.2.1)),(18,(di x1))],G [((13,u4),some<|.box 45 (X5 y1.2)),((16,u10),some<|.box 25 (O7 v7.1))]⟩) 0 () _ hz1 (G9 W W) ?_
 intro x1 g3 z2 hz2 ez2
 unfold X7 at hz2
 refine A6<|B1<|sv W<|sv W<|sd W (E8 W)<|sv W<|A2<|cc W hz2 (fun c4 hz2=> ?_)<|fun c4 hz2=> ?_
 refine A9<|A6<|A8<|A6<|J0 W<|sv W<|sv W<|bs hz2 fun _ hv8 hz2=>sd W (E2 W W hv8 W)<|sv W<|sd W (H5 W hv8 W)<|sv W<|sv W<|gp W (O5 W) (fun _=>W) (gt W (vl W (gq W) W)<|bs hz2 fun _ hv9 hz2=>gt W (fun w13=>(E2 (A5 w13) W (D3 w13 hv9) W)) ?_)
 refine gt W (fun w14=>(by simp only [A5 w14];rfl)) ?_
 refine gt W (fun w15=>(H5 (A5 w15) (D3 w15 hv9) W))<|gt W (fun _=>(B7 W G_hit W W))<|bs hz2 fun v10 hv10 hz2=> ?_
 refine P3 _ (i64 v10) (O5 W) (fun w17=>⟨_,[(.d (.agg (E5 y1.2)))],_,_,(by simp only [A5 w17];rfl),W,A3,Zb _ _<|D3 w17 hv10,(.inl W)⟩) ?_
 refine gt W (fun w18=>(S9 (A5 w18) (A5 w18) W))<|sa W W W<|A2<|cc W hz2 (fun c5 hz2=> ?_)<|fun c5 hz2=> ?_
 refine B1<|sv W<|A2<|B2 ?_
 cases hz2
 obtain rfl:=ez2 _ rfl
 refine ⟨nofun,H4 ?_⟩
 rw [wE]at h
 cases h
 exact A7 (.inr W) (B6 (B3 W) C1) (.refl _)
 refine A9<|F9<|C6<|sv W<|sv W<|sv W<|A2<|G5 ?_
 cases hz2
 exact ⟨W,(),(G9 W W)⟩
 refine D5 W ?_
 cases hz2
 obtain rfl:=ez2 _ rfl
 refine ⟨nofun,D4 W<|X2 ?_⟩
 exact ⟨_,(),W,(G9 W W)⟩
 rintro _ ⟨y2,g2,rfl,q2⟩
 rw [wD]at h
 refine B4 q2<|B1<|bs h fun _ hv11 h=>B0 W W A3 (Ww _ hv11) (.inl W) (sv W<|A2<|B2 ?_)
 cases h
 exact A7 (.inr W) (B6 (B3 W) C1) (.refl _)
end
end Go.Abs.World
