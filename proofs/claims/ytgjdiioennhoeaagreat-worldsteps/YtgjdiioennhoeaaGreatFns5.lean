/-
  The functions, part 5.
-/
import Derived.Test.YtgjdiioennhoeaaGreatFns4
set_option maxRecDepth 20000
set_option maxHeartbeats 4000000
set_option linter.unusedVariables false
namespace Go.Abs.World
noncomputable section
open Go Go.Abs Go.Proofs
attribute [local irreducible] M5 Kb Fu
def Ni (p1:State)(p2:State)(x3:Int):Option (Stp Int (Sum Unit Bool)):=
  cond (decide (x3< (p1.In.length:Int))) ((B7 p1.In x3).bind fun v5=>(B7 p2.In x3).bind fun v6=>cond (!(v5.Agent_==v6.Agent_&& (v5.Zone_==v6.Zone_&& (v5.Since==v6.Since&& (v5.Rank==v6.Rank&&true))))) (some (.out (.inr false))) (some (.go (C3 (x3+1))))) (some (.out (.inl ())))
def Jv (v1:Agent)(v2:Agent)(x2:Int):Option (Stp Int (Sum Unit Bool)):=
  cond (decide (x2< (v1.Route.length:Int))) ((B7 v1.Route x2).bind fun v3=>(B7 v2.Route x2).bind fun v4=>cond (v3 !=v4) (some (.out (.inr false))) (some (.go (C3 (x2+1))))) (some (.out (.inl ())))
def Nj (p1:State)(p2:State)(x1:Int):Option (Stp Int (Sum Unit Bool)):=
  cond (decide (x1< (p1.Agents.length:Int))) ((B7 p1.Agents x1).bind fun v1=>(B7 p2.Agents x1).bind fun v2=>cond ((((((((v1.Route.length:Int) !=(v2.Route.length:Int))||(v1.S !=v2.S))||(v1.V !=v2.V))||(v1.Len !=v2.Len))||(v1.Begin !=v2.Begin))||(!(v1.Obey==v2.Obey)))||(!(v1.Gone==v2.Gone))) (some (.out (.inr false))) (thenS (loop (Jv v1 v2) 0) (fun _=>some (.go (C3 (x1+1)))) (fun r=>some (.out (.inr r))))) (some (.out (.inl ())))
def Ua (p1:State)(p2:State):Option Bool:=
  cond (((p1.Tick !=p2.Tick)||((p1.Agents.length:Int) !=(p2.Agents.length:Int)))||((p1.In.length:Int) !=(p2.In.length:Int))) (some false) (thenS (loop (Nj p1 p2) 0) (fun _=>thenS (loop (Ni p1 p2) 0) (fun _=>some true) (fun r=>some r)) (fun r=>some r))
theorem IJ(p1 p2 r)(h:Ua p1 p2=some r):PCall Tryz.prog 26 [(.agg (U4 p1)),(.agg (U4 p2))] (bo r):=by
 refine C4 (fk Tryz.func26 Tryz.ntmps26 m0 (by with_unfolding_all rfl)) (nl W) ?_
 unfold Ua at h
 refine B5 (s0:=⟨T [(0,(.d _)),(1,(.d _))],G []⟩) (F0 W W) ?_
 refine lr<|fun u1 _=>sm W<|sm W<|sv W<|A1<|A5<|A9<|sq W<|sl W (gq W) W (sq W<|sl W G_hit W<|sv W<|sv W<|gp W (J9 W) (fun _=>W) (gf W (vl W (gq W) W)<|gf W (fun w3=>(D5<|A2 w3))<|gp W (J9 W) (fun _=>W) (gf W (vl W G_hit W)<|gf W (fun w6=>(D5<|A2 w6))<|gf W (fun w7=>(L9 (A2 w7) (A2 w7) W))<|sd W (N7 W W<|fun hc=>A2<|I7 hc)<|sv W<|gp W (J9 W) (fun _=>W) (gf W (vl W (gq W) W)<|gf W (fun w10=>(D5<|A2 w10))<|gp W (J9 W) (fun _=>W) (gf W (vl W G_hit W)<|gf W (fun w13=>(D5<|A2 w13))<|gf W (fun w14=>(L9 (A2 w14) (A2 w14) W))<|sd W (N7 W W<|fun hc=>A2<|I7 hc)<|A1<|cc W h (fun c1 h=> ?_)<|fun c1 h=> ?_)))))
 refine A9<|sv W<|A1<|B0 ?_
 cases h
 exact A6 (.inr W) (B6 (B2 W) C2) (.refl _)
 refine A8<|A5<|A9<|sv W<|A1<|js h fun z1 hz1 h=>D8 (fun s=> ∃(y1:Unit) (g1:Unit),z1= .inl y1∧Sb ⟨T [(2,(.ptr (2,u1) 0)),(3,(.ptr (3,u1) 0))],G [((2,u1),some<|.box 25 (H7 p1)),((3,u1),some<|.box 25 (H7 p2))]⟩ s) ?_ ?_
 refine A7<|E2 (Nj p1 p2) (fun (x1:Int) (g2:Unit)=>⟨T [(2,(.ptr (2,u1) 0)),(3,(.ptr (3,u1) 0)),(5,(di x1))],G [((2,u1),some<|.box 25 (H7 p1)),((3,u1),some<|.box 25 (H7 p2))]⟩) 0 () _ hz1 (F0 W W) ?_
 intro x1 g2 z2 hz2 ez2
 unfold Nj at hz2
 refine A5<|A9<|sv W<|sq W<|sl W G_hit W<|sd W (D5 W)<|sv W<|A1<|cc W hz2 (fun c2 hz2=> ?_)<|fun c2 hz2=> ?_
 refine A8<|A5<|A7<|A5<|Wz fun u6 _=>P5 (.ptr _ _) W W (P5 (.d _) W (Q6 W G_hit W) (P5 (.d _) W W (bs hz2 fun v1 hv1 hz2=>P5 (.d _) W (C5 W W hv1 W) (P5 (.d _) W (D3 W hv1 W W) (P5 (.ptr _ _) W W (P5 (.d _) W (Q6 W (gq W) W) (P5 (.d _) W W (bs hz2 fun v2 hv2 hz2=>P5 (.d _) W (C5 W W hv2 W) (P5 (.d _) W (D3 W hv2 W W) (LA (.ptr _ _) (.box _ _) W W (LA (.ptr _ _) (.box _ _) W W (Zs _ _ _ _ _ W W W (gq W) (nl W) (O8 v1) W (Zs _ _ _ _ _ W W W (gq W) (nl W) (O8 v2) W (KZ ⟨W,?_⟩))))))))))))))
 refine A5<|A9<|sq W<|sl W (gq W) W (sd W (D5 W)<|sq W<|sl W G_hit W<|sd W (D5 W)<|sv W<|sv W<|gp W (J9 W) (fun _=>W) (gf W (vl W (gq W) W)<|gp W (J9 W) (fun _=>W) (gf W (vl W G_hit W)<|gf W (fun w19=>(L9 (A2 w19) (A2 w19) W))<|sd W (N7 W W<|fun hc=>A2<|I7 hc)<|sv W<|gp W (J9 W) (fun _=>W) (gf W (vl W (gq W) W)<|gp W (J9 W) (fun _=>W) (gf W (vl W G_hit W)<|gf W (fun w24=>(L9 (A2 w24) (A2 w24) W))<|sd W (N7 W W<|fun hc=>A2<|I7 hc)<|sv W<|gp W (J9 W) (fun _=>W) (gf W (vl W (gq W) W)<|gp W (J9 W) (fun _=>W) (gf W (vl W G_hit W)<|gf W (fun w29=>(L9 (A2 w29) (A2 w29) W))<|sd W (N7 W W<|fun hc=>A2<|I7 hc)<|sv W<|gp W (J9 W) (fun _=>W) (gf W (vl W (gq W) W)<|gp W (J9 W) (fun _=>W) (gf W (vl W G_hit W)<|gf W (fun w34=>(L9 (A2 w34) (A2 w34) W))<|sd W (N7 W W<|fun hc=>A2<|I7 hc)<|sv W<|gp W (J9 W) (fun _=>W) (gf W (vl W (gq W) W)<|gp W (J9 W) (fun _=>W) (gf W (vl W G_hit W) ?_)))))))))))
 refine N1 _ (.d (bo (!(v1.Obey==v2.Obey)))) W (J9 W) (fun w39=>(by simp only [A2 w39];rfl)) ?_
 refine sd W (N7 W W<|fun hc=>A2<|I7 hc)<|sv W<|gp W (J9 W) (fun _=>W) (gf W (vl W (gq W) W)<|gp W (J9 W) (fun _=>W) (gf W (vl W G_hit W) ?_))
 refine N1 _ (.d (bo (!(v1.Gone==v2.Gone)))) W (J9 W) (fun w44=>(by simp only [A2 w44];rfl)) ?_
 refine sd W (N7 W W<|fun hc=>A2<|I7 hc)<|A1<|cc W hz2 (fun c3 hz2=> ?_)<|fun c3 hz2=> ?_
 refine A9<|sv W<|A1<|B0 ?_
 cases hz2
 obtain rfl:=ez2 _ rfl
 refine ⟨nofun,F2 ?_⟩
 rw [bY]at h
 cases h
 exact A6 (.inr W) (B6 (B2 W) C2) (.refl _)
 refine A8<|A9<|sv W<|A1<|js hz2 fun z3 hz3 hz2=>D8 (fun s=> ∃(y2:Unit) (g3:Unit),z3= .inl y2∧Sb ⟨T [(2,(.ptr (2,u1) 0)),(3,(.ptr (3,u1) 0)),(5,(di x1))],G [((2,u1),some<|.box 25 (H7 p1)),((3,u1),some<|.box 25 (H7 p2))]⟩ s) ?_ ?_
 refine A7<|E2 (Jv v1 v2) (fun (x2:Int) (g4:Unit)=>⟨T [(2,(.ptr (2,u1) 0)),(3,(.ptr (3,u1) 0)),(5,(di x1)),(6,(.ptr (6,u6) 0)),(7,(.ptr (7,u6) 0)),(8,(di x2))],G [((2,u1),some<|.box 25 (H7 p1)),((3,u1),some<|.box 25 (H7 p2)),((6,u6),some<|.box 45 (O8 v1)),((7,u6),some<|.box 45 (O8 v2))]⟩) 0 () _ hz3 (F0 W W) ?_
 intro x2 g4 z4 hz4 ez4
 unfold Jv at hz4
 refine A5<|A9<|sv W<|sq W<|sl W (gq W) W (sd W (D5 W)<|sv W<|A1<|cc W hz4 (fun c4 hz4=> ?_)<|fun c4 hz4=> ?_)
 refine A8<|A5<|A7<|A5<|F1 W<|sq W<|sl W (gq W) W (sv W<|bs hz4 fun _ hv3 hz4=>sd W (C5 W W hv3 W)<|sd W (C7 W hv3 W)<|sq W<|sl W (gq W) W (sv W<|bs hz4 fun _ hv4 hz4=>sd W (C5 W W hv4 W)<|sd W (C7 W hv4 W)<|sv W<|A1<|cc W hz4 (fun c5 hz4=> ?_)<|fun c5 hz4=> ?_))
 refine A9<|sv W<|A1<|B0 ?_
 cases hz4
 obtain rfl:=ez4 _ rfl
 refine ⟨nofun,F2 ?_⟩
 rw [bY]at hz2
 cases hz2
 obtain rfl:=ez2 _ rfl
 refine ⟨nofun,F2 ?_⟩
 rw [bY]at h
 cases h
 exact A6 (.inr W) (B6 (B2 W) C2) (.refl _)
 refine A8<|E4<|C1<|sv W<|sv W<|sv W<|A1<|E3 ?_
 cases hz4
 exact ⟨W,(),(F0 W W)⟩
 refine C9 W ?_
 cases hz4
 obtain rfl:=ez4 _ rfl
 refine ⟨nofun,C6 W<|Y7 ?_⟩
 exact ⟨_,(),W,(F0 W W)⟩
 rintro _ ⟨y2,g3,rfl,q1⟩
 rw [bX]at hz2
 refine E4<|B5 q1<|C1<|sv W<|sv W<|sv W<|A1<|E3 ?_
 cases hz2
 exact ⟨W,(),(F0 W W)⟩
 refine C9 W ?_
 cases hz2
 obtain rfl:=ez2 _ rfl
 refine ⟨nofun,C6 W<|Y7 ?_⟩
 exact ⟨_,(),W,(F0 W W)⟩
 rintro _ ⟨y1,g1,rfl,q2⟩
 rw [bX]at h
 refine B5 q2<|A5<|A9<|sv W<|A1<|js h fun z5 hz5 h=>D8 (fun s=> ∃(y3:Unit) (g5:Unit),z5= .inl y3∧Sb ⟨T [],G []⟩ s) ?_ ?_
 refine A7<|E2 (Ni p1 p2) (fun (x3:Int) (g6:Unit)=>⟨T [(2,(.ptr (2,u1) 0)),(3,(.ptr (3,u1) 0)),(9,(di x3))],G [((2,u1),some<|.box 25 (H7 p1)),((3,u1),some<|.box 25 (H7 p2))]⟩) 0 () _ hz5 (F0 W W) ?_
 intro x3 g6 z6 hz6 ez6
 unfold Ni at hz6
 refine A5<|A9<|sv W<|sq W<|sl W G_hit W<|sd W (D5 W)<|sv W<|A1<|cc W hz6 (fun c6 hz6=> ?_)<|fun c6 hz6=> ?_
 refine A8<|A5<|A7<|A5<|F1 W<|sq W<|sl W G_hit W<|sv W<|bs hz6 fun v5 hv5 hz6=>sd W (C5 W W hv5 W)<|sd W (D3 W hv5 W W)<|sq W<|sl W (gq W) W (sv W<|bs hz6 fun v6 hv6 hz6=>sd W (C5 W W hv6 W)<|sd W (D3 W hv6 W W)<|C0 (.d (bo (!(v5.Agent_==v6.Agent_&& (v5.Zone_==v6.Zone_&& (v5.Since==v6.Since&& (v5.Rank==v6.Rank&&true))))))) W W (A1<|cc W hz6 (fun c7 hz6=> ?_)<|fun c7 hz6=> ?_))
 refine A9<|sv W<|A1<|B0 ?_
 cases hz6
 obtain rfl:=ez6 _ rfl
 refine ⟨nofun,F2 ?_⟩
 rw [bY]at h
 cases h
 exact A6 (.inr W) (B6 (B2 W) C2) (.refl _)
 refine A8<|E4<|C1<|sv W<|sv W<|sv W<|A1<|E3 ?_
 cases hz6
 exact ⟨W,(),(F0 W W)⟩
 refine C9 W ?_
 cases hz6
 obtain rfl:=ez6 _ rfl
 refine ⟨nofun,C6 W<|Y7 ?_⟩
 exact ⟨_,(),W,(F0 W W)⟩
 rintro _ ⟨y3,g5,rfl,q3⟩
 rw [bX]at h
 refine B5 q3<|A9<|sv W<|A1<|B0 ?_
 cases h
 exact A6 (.inr W) (B6 (B2 W) C2) (.refl _)
def Mw (p1:(List Int))(p2:(List Int))(x1:Int):Option (Stp Int (Sum Unit Bool)):=
  cond ((decide (x1< (p1.length:Int)))&& (decide (x1< (p2.length:Int)))) ((B7 p1 x1).bind fun v1=>(B7 p2 x1).bind fun v2=>cond (v1 !=v2) (some (.out (.inr false))) (some (.go (C3 (x1+1))))) (some (.out (.inl ())))
def Ss (p1:(List Int))(p2:(List Int)):Option Bool:=
  thenS (loop (Mw p1 p2) 0) (fun _=>some ((p1.length:Int)==(p2.length:Int))) (fun r=>some r)
theorem PA(p1 p2 r)(h:Ss p1 p2=some r):PCall Tryz.prog 95 [(.list (List.map A4 p1)),(.list (List.map A4 p2))] (bo r):=by
 refine C4 (fk Tryz.func95 Tryz.ntmps95 m0 (by with_unfolding_all rfl)) (nl W) ?_
 unfold Ss at h
 refine B5 (s0:=⟨T [(0,(.d _)),(1,(.d _))],G []⟩) (F0 W W) ?_
 refine A9<|sv W<|A1<|A5<|A9<|sv W<|A1<|js h fun z1 hz1 h=>D8 (fun s=> ∃(y1:Unit) (g1:Unit),z1= .inl y1∧Sb ⟨T [(0,(dl A4 p1)),(1,(dl A4 p2))],G []⟩ s) ?_ ?_
 refine A7<|E2 (Mw p1 p2) (fun (x1:Int) (g2:Unit)=>⟨T [(0,(dl A4 p1)),(1,(dl A4 p2)),(5,(di x1))],G []⟩) 0 () _ hz1 (F0 W W) ?_
 intro x1 g2 z2 hz2 ez2
 unfold Mw at hz2
 refine A5<|A9<|sv W<|sv W<|sd W (D5 W)<|sv W<|sv W<|gt W (fun _=>W)<|gt W (fun _=>W)<|gt W (fun w3=>(D5<|A2 w3))<|gt W (fun w4=>(L9 (A2 w4) (A2 w4) W))<|sa W W W<|A1<|cc W hz2 (fun c1 hz2=> ?_)<|fun c1 hz2=> ?_
 refine A8<|A5<|A7<|A5<|F1 W<|sv W<|sv W<|bs hz2 fun _ hv1 hz2=>sd W (C5 W W hv1 W)<|sd W (C7 W hv1 W)<|sv W<|sv W<|bs hz2 fun _ hv2 hz2=>sd W (C5 W W hv2 W)<|sd W (C7 W hv2 W)<|sv W<|A1<|cc W hz2 (fun c2 hz2=> ?_)<|fun c2 hz2=> ?_
 refine A9<|sv W<|A1<|B0 ?_
 cases hz2
 obtain rfl:=ez2 _ rfl
 refine ⟨nofun,F2 ?_⟩
 rw [bY]at h
 cases h
 exact A6 (.inr W) (B6 (B2 W) C2) (.refl _)
 refine A8<|E4<|C1<|sv W<|sv W<|sv W<|A1<|E3 ?_
 cases hz2
 exact ⟨W,(),(F0 W W)⟩
 refine C9 W ?_
 cases hz2
 obtain rfl:=ez2 _ rfl
 refine ⟨nofun,C6 W<|Y7 ?_⟩
 exact ⟨_,(),W,(F0 W W)⟩
 rintro _ ⟨y1,g1,rfl,q1⟩
 rw [bX]at h
 refine B5 q1<|A9<|sv W<|sd W (D5 W)<|sv W<|sd W (D5 W)<|sv W<|sv W<|A1<|B0 ?_
 cases h
 exact A6 (.inr W) (B6 (B2 W) C2) (.refl _)
def Hh (p1:(List Crash))(p2:(List Crash))(x1:Int):Option (Stp Int (Sum Unit Bool)):=
  cond (decide (x1< (p1.length:Int))) ((B7 p1 x1).bind fun v1=>(B7 p2 x1).bind fun v2=>((cond (!(v1.Tick !=v2.Tick)) (B7 p1 x1) (some default))).bind fun v3=>((cond (!(v1.Tick !=v2.Tick)) (B7 p2 x1) (some default))).bind fun v4=>((cond (!((v1.Tick !=v2.Tick)||(v3.A !=v4.A))) (B7 p1 x1) (some default))).bind fun v5=>((cond (!((v1.Tick !=v2.Tick)||(v3.A !=v4.A))) (B7 p2 x1) (some default))).bind fun v6=>((cond (!(((v1.Tick !=v2.Tick)||(v3.A !=v4.A))||(v5.B !=v6.B))) (B7 p1 x1) (some default))).bind fun v7=>((cond (!(((v1.Tick !=v2.Tick)||(v3.A !=v4.A))||(v5.B !=v6.B))) (B7 p2 x1) (some default))).bind fun v8=>((cond (!((((v1.Tick !=v2.Tick)||(v3.A !=v4.A))||(v5.B !=v6.B))||(v7.Lane_ !=v8.Lane_))) (B7 p1 x1) (some default))).bind fun v9=>((cond (!((((v1.Tick !=v2.Tick)||(v3.A !=v4.A))||(v5.B !=v6.B))||(v7.Lane_ !=v8.Lane_))) (B7 p2 x1) (some default))).bind fun v10=>((cond (!(((((v1.Tick !=v2.Tick)||(v3.A !=v4.A))||(v5.B !=v6.B))||(v7.Lane_ !=v8.Lane_))||(v9.Zone_ !=v10.Zone_))) (B7 p1 x1) (some default))).bind fun v11=>((cond (!(((((v1.Tick !=v2.Tick)||(v3.A !=v4.A))||(v5.B !=v6.B))||(v7.Lane_ !=v8.Lane_))||(v9.Zone_ !=v10.Zone_))) (B7 p2 x1) (some default))).bind fun v12=>((cond (!(((((v1.Tick !=v2.Tick)||(v3.A !=v4.A))||(v5.B !=v6.B))||(v7.Lane_ !=v8.Lane_))||(v9.Zone_ !=v10.Zone_))) (Ss v11.Who v12.Who) (some default))).bind fun v13=>cond ((((((v1.Tick !=v2.Tick)||(v3.A !=v4.A))||(v5.B !=v6.B))||(v7.Lane_ !=v8.Lane_))||(v9.Zone_ !=v10.Zone_))||(!v13)) (some (.out (.inr false))) (some (.go (C3 (x1+1))))) (some (.out (.inl ())))
def Mx (p1:(List Crash))(p2:(List Crash)):Option Bool:=
  cond ((p1.length:Int) !=(p2.length:Int)) (some false) (thenS (loop (Hh p1 p2) 0) (fun _=>some true) (fun r=>some r))
theorem JN(p1 p2 r)(h:Mx p1 p2=some r):PCall Tryz.prog 33 [(.list (List.map X5 p1)),(.list (List.map X5 p2))] (bo r):=by
 refine C4 (fk Tryz.func33 Tryz.ntmps33 m0 (by with_unfolding_all rfl)) (nl W) ?_
 unfold Mx at h
 refine B5 (s0:=⟨T [(0,(.d _)),(1,(.d _))],G []⟩) (F0 W W) ?_
 refine A9<|sv W<|A1<|A5<|A9<|sv W<|sd W (D5 W)<|sv W<|sd W (D5 W)<|sv W<|A1<|cc W h (fun c1 h=> ?_)<|fun c1 h=> ?_
 refine A9<|sv W<|A1<|B0 ?_
 cases h
 exact A6 (.inr W) (B6 (B2 W) C2) (.refl _)
 refine A8<|A5<|A9<|sv W<|A1<|js h fun z1 hz1 h=>D8 (fun s=> ∃(y1:Unit) (g1:Unit),z1= .inl y1∧Sb ⟨T [],G []⟩ s) ?_ ?_
 refine A7<|E2 (Hh p1 p2) (fun (x1:Int) (g2:Unit)=>⟨T [(0,(dl X5 p1)),(1,(dl X5 p2)),(5,(di x1))],G []⟩) 0 () _ hz1 (F0 W W) ?_
 intro x1 g2 z2 hz2 ez2
 unfold Hh at hz2
 refine A5<|A9<|sv W<|sv W<|sd W (D5 W)<|sv W<|A1<|cc W hz2 (fun c2 hz2=> ?_)<|fun c2 hz2=> ?_
 refine A8<|A5<|A7<|A5<|F1 W<|sv W<|sv W<|bs hz2 fun _ hv1 hz2=>sd W (C5 W W hv1 W)<|sv W<|sd W (C7 W hv1 W)<|sv W<|sv W<|bs hz2 fun _ hv2 hz2=>sd W (C5 W W hv2 W)<|sv W<|sd W (C7 W hv2 W)<|sv W<|sv W<|gf W (fun _=>W)<|gf W (fun _=>W)<|bs hz2 fun _ hv3 hz2=>gf W (fun w3=>(C5 (A2 w3) (A2 w3) (B8 w3 hv3) W)) ?_
 refine gf W (fun w4=>(by simp only [A2 w4];rfl)) ?_
 refine gf W (fun w5=>(C7 (A2 w5) (B8 w5 hv3) W))<|gf W (fun _=>W)<|gf W (fun _=>W)<|bs hz2 fun _ hv4 hz2=>gf W (fun w8=>(C5 (A2 w8) (A2 w8) (B8 w8 hv4) W)) ?_
 refine gf W (fun w9=>(by simp only [A2 w9];rfl)) ?_
 refine gf W (fun w10=>(C7 (A2 w10) (B8 w10 hv4) W))<|gf W (fun w11=>(L9 (A2 w11) (A2 w11) W))<|sd W (N7 W W<|fun hc=>A2<|I7 hc)<|sv W<|gf W (fun _=>W)<|gf W (fun _=>W)<|bs hz2 fun _ hv5 hz2=>gf W (fun w14=>(C5 (A2 w14) (A2 w14) (B8 w14 hv5) W)) ?_
 refine gf W (fun w15=>(by simp only [A2 w15];rfl)) ?_
 refine gf W (fun w16=>(C7 (A2 w16) (B8 w16 hv5) W))<|gf W (fun _=>W)<|gf W (fun _=>W)<|bs hz2 fun _ hv6 hz2=>gf W (fun w19=>(C5 (A2 w19) (A2 w19) (B8 w19 hv6) W)) ?_
 refine gf W (fun w20=>(by simp only [A2 w20];rfl)) ?_
 refine gf W (fun w21=>(C7 (A2 w21) (B8 w21 hv6) W))<|gf W (fun w22=>(L9 (A2 w22) (A2 w22) W))<|sd W (N7 W W<|fun hc=>A2<|I7 hc)<|sv W<|gf W (fun _=>W)<|gf W (fun _=>W)<|bs hz2 fun _ hv7 hz2=>gf W (fun w25=>(C5 (A2 w25) (A2 w25) (B8 w25 hv7) W)) ?_
 refine gf W (fun w26=>(by simp only [A2 w26];rfl)) ?_
 refine gf W (fun w27=>(C7 (A2 w27) (B8 w27 hv7) W))<|gf W (fun _=>W)<|gf W (fun _=>W)<|bs hz2 fun _ hv8 hz2=>gf W (fun w30=>(C5 (A2 w30) (A2 w30) (B8 w30 hv8) W)) ?_
 refine gf W (fun w31=>(by simp only [A2 w31];rfl)) ?_
 refine gf W (fun w32=>(C7 (A2 w32) (B8 w32 hv8) W))<|gf W (fun w33=>(L9 (A2 w33) (A2 w33) W))<|sd W (N7 W W<|fun hc=>A2<|I7 hc)<|sv W<|gf W (fun _=>W)<|gf W (fun _=>W)<|bs hz2 fun _ hv9 hz2=>gf W (fun w36=>(C5 (A2 w36) (A2 w36) (B8 w36 hv9) W)) ?_
 refine gf W (fun w37=>(by simp only [A2 w37];rfl)) ?_
 refine gf W (fun w38=>(C7 (A2 w38) (B8 w38 hv9) W))<|gf W (fun _=>W)<|gf W (fun _=>W)<|bs hz2 fun _ hv10 hz2=>gf W (fun w41=>(C5 (A2 w41) (A2 w41) (B8 w41 hv10) W)) ?_
 refine gf W (fun w42=>(by simp only [A2 w42];rfl)) ?_
 refine gf W (fun w43=>(C7 (A2 w43) (B8 w43 hv10) W))<|gf W (fun w44=>(L9 (A2 w44) (A2 w44) W))<|sd W (N7 W W<|fun hc=>A2<|I7 hc)<|sv W<|gf W (fun _=>W)<|gf W (fun _=>W)<|bs hz2 fun v11 hv11 hz2=>gf W (fun w47=>(C5 (A2 w47) (A2 w47) (B8 w47 hv11) W)) ?_
 refine gf W (fun w48=>(by simp only [A2 w48];rfl)) ?_
 refine gf W (fun w49=>(C7 (A2 w49) (B8 w49 hv11) W))<|gf W (fun _=>W)<|gf W (fun _=>W)<|bs hz2 fun v12 hv12 hz2=>gf W (fun w52=>(C5 (A2 w52) (A2 w52) (B8 w52 hv12) W)) ?_
 refine gf W (fun w53=>(by simp only [A2 w53];rfl)) ?_
 refine gf W (fun w54=>(C7 (A2 w54) (B8 w54 hv12) W))<|bs hz2 fun v13 hv13 hz2=> ?_
 refine N2 _ (bo v13) (J9 W) (fun w55=>⟨_,[(dl A4 v11.Who),(dl A4 v12.Who)],_,_,(by simp only [A2 w55];rfl),W,A3,PA _ _ _<|B8 w55 hv13,(.inl W)⟩) ?_
 refine N1 _ (.d (bo (!v13))) W (J9 W) (fun w56=>(by simp only [A2 w56];rfl)) ?_
 refine sd W (N7 W W<|fun hc=>A2<|I7 hc)<|A1<|cc W hz2 (fun c3 hz2=> ?_)<|fun c3 hz2=> ?_
 refine A9<|sv W<|A1<|B0 ?_
 cases hz2
 obtain rfl:=ez2 _ rfl
 refine ⟨nofun,F2 ?_⟩
 rw [bY]at h
 cases h
 exact A6 (.inr W) (B6 (B2 W) C2) (.refl _)
 refine A8<|E4<|C1<|sv W<|sv W<|sv W<|A1<|E3 ?_
 cases hz2
 exact ⟨W,(),(F0 W W)⟩
 refine C9 W ?_
 cases hz2
 obtain rfl:=ez2 _ rfl
 refine ⟨nofun,C6 W<|Y7 ?_⟩
 exact ⟨_,(),W,(F0 W W)⟩
 rintro _ ⟨y1,g1,rfl,q1⟩
 rw [bX]at h
 refine B5 q1<|A9<|sv W<|A1<|B0 ?_
 cases h
 exact A6 (.inr W) (B6 (B2 W) C2) (.refl _)
def Pk (p1:Int)(p2:State)(p3:(List Int)):Option Bool:=
  (Va p2).bind fun v1=>cond ((!v1)||(decide ((p3.length:Int)>12))) ((Ln).bind fun v2=>some v2) ((GZ p1).bind fun v3=>(Yc p2).bind fun v4=>(Mc v3 v4 p3).bind fun v5=>(Yj v3 p2 p3).bind fun v6=>((cond (v5.2.2==v6.2.2) (Ua v5.1 v6.1) (some default))).bind fun v7=>((cond ((v5.2.2==v6.2.2)&&v7) (Mx v5.2.1 v6.2.1) (some default))).bind fun v8=>((cond (((v5.2.2==v6.2.2)&&v7)&&v8) (Ua v4 p2) (some default))).bind fun v9=>((cond ((((v5.2.2==v6.2.2)&&v7)&&v8)&&v9) (Ln) (some default))).bind fun v10=>some (((((v5.2.2==v6.2.2)&&v7)&&v8)&&v9)&&v10))
theorem HN(p1 p2 p3 r)(h:Pk p1 p2 p3=some r):PCall Tryz.prog 6 [(i64 p1),(.agg (U4 p2)),(.list (List.map A4 p3))] (bo r):=by
 refine C4 (fk Tryz.func6 Tryz.ntmps6 m0 (by with_unfolding_all rfl)) (nl W) ?_
 unfold Pk at h
 refine B5 (s0:=⟨T [(0,(.d _)),(1,(.d _)),(2,(.d _))],G []⟩) (F0 W W) ?_
 refine A9<|sm W<|sv W<|A1<|A5<|A9<|sd W (B1 W G_hit W W)<|bs h fun v1 hv1 h=>B3 W W A3 (RF _ _ hv1) (.inl W) (C0 (.d (bo (!v1))) W W (sv W<|gf W (fun _=>W)<|gf W (fun w2=>(D5<|A2 w2))<|gf W (vb W W W)<|sd W (N7 W W<|fun hc=>A2<|I7 hc)<|A1<|cc W h (fun c1 h=> ?_)<|fun c1 h=> ?_))
 refine A9<|bs h fun _ hv2 h=>B3 W W A3 (FQ _ hv2) (.inl W) (sv W<|A1<|B0 ?_)
 cases h
 exact A6 (.inr W) (B6 (B2 W) C2) (.refl _)
 refine A8<|A9<|sv W<|bs h fun v3 hv3 h=>B3 W W A3 (dV _ _ hv3) (.inl W) (sm W<|Z4 W G_hit (M7 v3) W (A1<|A9<|sd W (B1 W (gq W) W W)<|bs h fun v4 hv4 h=>B3 W W A3 (TN _ _ hv4) (.inl W) (sm W<|Z4 W G_hit (H7 v4) W (A1<|A9<|sd W (B1 W (gq W) W W)<|sd W (B1 W G_hit W W)<|sv W<|bs h fun v5 hv5 h=>B3 W W A3 (IC _ _ _ _ hv5) (.inl W) (sv W<|sv W<|sv W<|sv W<|sm W<|Z4 W G_hit (H7 v5.1) W (sv W<|sv W<|A1<|A9<|sd W (B1 W (gq W) W W)<|sd W (B1 W (gq W) W W)<|sv W<|bs h fun v6 hv6 h=>B3 W W A3 (TR _ _ _ _ hv6) (.inl W) (sv W<|sv W<|sv W<|sv W<|sm W<|Z4 W G_hit (H7 v6.1) W (sv W<|sv W<|A1<|A9<|sv W<|sv W<|sv W<|sv W<|gt W (fun _=>(B1 W (gq W) W W))<|gt W (fun _=>(B1 W G_hit W W))<|bs h fun v7 hv7 h=> ?_))))))))
 refine N2 _ (bo v7) (M9 W) (fun w6=>⟨_,[(.d (.agg (U4 v5.1))),(.d (.agg (U4 v6.1)))],_,_,(by simp only [A2 w6];rfl),W,A3,IJ _ _ _<|B8 w6 hv7,(.inl W)⟩) ?_
 refine sa W W W<|sv W<|gt W (fun _=>W)<|gt W (fun _=>W)<|bs h fun v8 hv8 h=> ?_
 refine N2 _ (bo v8) (M9 W) (fun w9=>⟨_,[(dl X5 v5.2.1),(dl X5 v6.2.1)],_,_,(by simp only [A2 w9];rfl),W,A3,JN _ _ _<|B8 w9 hv8,(.inl W)⟩) ?_
 refine sa W W W<|sv W<|gt W (fun _=>(B1 W (gq W) W W))<|gt W (fun _=>(B1 W (gq W) W W))<|bs h fun v9 hv9 h=> ?_
 refine N2 _ (bo v9) (M9 W) (fun w12=>⟨_,[(.d (.agg (U4 v4))),(.d (.agg (U4 p2)))],_,_,(by simp only [A2 w12];rfl),W,A3,IJ _ _ _<|B8 w12 hv9,(.inl W)⟩) ?_
 refine sa W W W<|sv W<|bs h fun v10 hv10 h=>N2 _ (bo v10) (M9 W) (fun w13=>⟨_,_,_,_,W,W,A3,FQ _<|B8 w13 hv10,(.inl W)⟩) (sa W W W<|sv W<|A1<|B0 ?_)
 cases h
 exact A6 (.inr W) (B6 (B2 W) C2) (.refl _)
end
end Go.Abs.World
