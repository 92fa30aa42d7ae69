/-
  The functions, part 4.
-/
import Derived.Test.YtgjdiioennhoeaaGreatFns3
set_option maxRecDepth 20000
set_option maxHeartbeats 4000000
set_option linter.unusedVariables false
namespace Go.Abs.World
noncomputable section
open Go Go.Abs Go.Proofs Tryz
attribute [local irreducible] K1 Ly Bt
def Bb (p1:Spot)(p2:Spot):Option Spot:=
  some (Spot.mk (C9 (p1.X - p2.X)) (C9 (p1.Y - p2.Y)))
theorem Db(p1 p2 r)(h:Bb p1 p2=some r):PCall prog 136 [(.agg [(i64 p1.X),(i64 p1.Y)]),(.agg [(i64 p2.X),(i64 p2.Y)])] (.agg [(i64 r.X),(i64 r.Y)]):=by
 refine C0 (fk func136 ntmps136 m0 (by with_unfolding_all rfl)) (nl W) ?_
 unfold Bb at h
 refine B5 (s0:=⟨T [(0,(.d _)),(1,(.d _))],G []⟩) (E3 W W) ?_
 refine B1<|sm W<|sn W W<|sm W<|A1<|B1<|sq W<|sl W (gq W) W (sq W<|sl W (gq W) W (sv W<|sq W<|sl W (gq W) W (sq W<|sl W (gq W) W (sv W<|sv W<|Q4 W G_hit [(di<|C9 (p1.X - p2.X)),(di<|C9 (p1.Y - p2.Y))] W (A1<|B2 ?_)))))
 cases h
 exact A7 (.inr W) (B4 (G5 W G_hit (nl W) W) B8) (.refl _)
def Kd (p1:Spot)(p2:Spot):Option Int:=
  some (C9 ((C9 (p1.X*p2.X))+ (C9 (p1.Y*p2.Y))))
theorem Nk(p1 p2 r)(h:Kd p1 p2=some r):PCall prog 203 [(.agg [(i64 p1.X),(i64 p1.Y)]),(.agg [(i64 p2.X),(i64 p2.Y)])] (i64 r):=by
 refine C0 (fk func203 ntmps203 m0 (by with_unfolding_all rfl)) (nl W) ?_
 unfold Kd at h
 refine B5 (s0:=⟨T [(0,(.d _)),(1,(.d _))],G []⟩) (E3 W W) ?_
 refine B1<|sm W<|sn W W<|sv W<|A1<|B1<|sq W<|sl W (gq W) W (sq W<|sl W G_hit W<|sv W<|sq W<|sl W (gq W) W (sq W<|sl W G_hit W<|sv W<|sv W<|sv W<|A1<|B2 ?_))
 cases h
 exact A7 (.inr W) (B4 (B3 W) B8) (.refl _)
def Li (p1:Int)(x1:(Int×Int)):Option (Stp (Int×Int) Int):=
  cond (decide (x1.2>0)) (cond (decide ((C9 ((C9 (x1.1+x1.2))* (C9 (x1.1+x1.2))))≤p1)) (some (.go ((C9 (x1.1+x1.2)),(C9 (x1.2.tdiv 2))))) (some (.go (x1.1,(C9 (x1.2.tdiv 2)))))) (some (.out x1.1))
def Ji [Lp](p1:Int):Option Int:=
  (loop (Li p1) (0,67108864)).bind fun y1=>some y1
theorem AG(p1 r)(h:Ji p1=some r):PCall prog 202 [(i64 p1)] (i64 r):=by
 refine C0 (fk func202 ntmps202 m0 (by with_unfolding_all rfl)) (nl W) ?_
 unfold Ji at h
 refine B5 (s0:=⟨T [(0,(.d _))],G []⟩) (E3 W W) ?_
 refine B1<|sv W<|A1<|B1<|sv W<|A1<|A4<|B1<|sv W<|A1<|bs h fun y1 hy1 h=>D3 (fun s=> ∃g1:Unit,Sb ⟨T [(3,(di y1))],G []⟩ s) ?_ ?_
 refine A9<|D7 (Li p1) (fun (x1:(Int×Int)) (g2:Unit)=>⟨T [(0,(di p1)),(3,(di x1.1)),(4,(di x1.2))],G []⟩) (0,67108864) () _ hy1 (E3 W W) ?_
 intro x1 g2 z1 hz1 ez1
 unfold Li at hz1
 refine A4<|B1<|sv W<|sv W<|A1<|cc W hz1 (fun c1 hz1=> ?_)<|fun c1 hz1=> ?_
 refine A8<|A4<|A9<|B1<|sv W<|sv W<|sv W<|sv W<|sv W<|sv W<|sv W<|sv W<|sv W<|A1<|cc W hz1 (fun c2 hz1=> ?_)<|fun c2 hz1=> ?_
 refine C1<|sv W<|sv W<|sv W<|sv W<|A1<|D4<|C1<|sv W<|sv W<|sv W<|A1<|D6 ?_
 cases hz1
 exact ⟨W,(),(E3 W W)⟩
 refine A8<|D4<|C1<|sv W<|sv W<|sv W<|A1<|D6 ?_
 cases hz1
 exact ⟨W,(),(E3 W W)⟩
 refine C6 W ?_
 cases hz1
 obtain rfl:=ez1 _ rfl
 refine ⟨nofun,C3 W<|T4 ?_⟩
 exact ⟨(),(E3 W W)⟩
 rintro _ ⟨g1,q1⟩
 refine B5 q1<|B1<|sv W<|sv W<|A1<|B2 ?_
 cases h
 exact A7 (.inr W) (B4 (B3 W) B8) (.refl _)
def Dc [Lp](p1:Curve)(x2:Int):Option (Stp Int (Sum Unit Int)):=
  cond (decide ((C9 (x2+1))< (p1.Pts.length:Int))) ((C8 p1.Pts (C9 (x2+1))).bind fun v3=>(C8 p1.Pts x2).bind fun v4=>(Bb v3 v4).bind fun v5=>(Kd v5 v5).bind fun v6=>(Ji v6).bind fun v7=>(Kd v5 v5).bind fun v8=>cond ((C9 (v7*v7)) !=v8) (some (.out (.inr 3))) (cond ((decide (v7<1000))||(decide (v7>1048576))) (some (.out (.inr 2))) (((cond (decide (x2>0)) (C8 p1.Pts x2) (some default))).bind fun v9=>((cond (decide (x2>0)) (C8 p1.Pts (C9 (x2 - 1))) (some default))).bind fun v10=>((cond (decide (x2>0)) (Bb v9 v10) (some default))).bind fun v11=>((cond (decide (x2>0)) (Kd v5 v11) (some default))).bind fun v12=>cond ((decide (x2>0))&& (decide (v12≤0))) (some (.out (.inr 12))) (some (.go (C9 (x2+1))))))) (some (.out (.inl ())))
def Dd (p1:Curve)(x1:Int):Option (Stp Int (Sum Unit Int)):=
  cond (decide (x1< (p1.Pts.length:Int))) ((C8 p1.Pts x1).bind fun v1=>(W0 v1).bind fun v2=>cond (!v2) (some (.out (.inr 2))) (some (.go (C9 (x1+1))))) (some (.out (.inl ())))
def Mo [Lp](p1:Curve):Option Int:=
  cond (decide ((p1.Pts.length:Int)<2)) (some 6) (cond (decide ((p1.Pts.length:Int)>16)) (some 5) (thenS (loop (Dd p1) 0) (fun _=>thenS (loop (Dc p1) 0) (fun _=>some 0) (fun r=>some r)) (fun r=>some r)))
theorem Yo(p1 r)(h:Mo p1=some r):PCall prog 201 [(.agg [(.list (List.map Q3 p1.Pts))])] (i64 r):=by
 refine C0 (fk func201 ntmps201 m0 (by with_unfolding_all rfl)) (nl W) ?_
 unfold Mo at h
 refine B5 (s0:=⟨T [(0,(.d _))],G []⟩) (E3 W W) ?_
 refine lr<|fun u1 _=>sm W<|sv W<|A1<|A4<|B1<|sq W<|sl W G_hit W<|sd W (D0 W)<|sv W<|A1<|cc W h (fun c1 h=> ?_)<|fun c1 h=> ?_
 refine B1<|sv W<|A1<|B2 ?_
 cases h
 exact A7 (.inr W) (B4 (B3 W) B8) (.refl _)
 refine A8<|A4<|B1<|sq W<|sl W G_hit W<|sd W (D0 W)<|sv W<|A1<|cc W h (fun c2 h=> ?_)<|fun c2 h=> ?_
 refine B1<|sv W<|A1<|B2 ?_
 cases h
 exact A7 (.inr W) (B4 (B3 W) B8) (.refl _)
 refine A8<|A4<|B1<|sv W<|A1<|js h fun z1 hz1 h=>D3 (fun s=> ∃(y1:Unit) (g1:Unit),z1= .inl y1∧Sb ⟨T [(1,(.ptr (1,u1) 0))],G [((1,u1),some<|.box 61 [(dl Q3 p1.Pts)])]⟩ s) ?_ ?_
 refine A9<|D7 (Dd p1) (fun (x1:Int) (g2:Unit)=>⟨T [(1,(.ptr (1,u1) 0)),(3,(di x1))],G [((1,u1),some<|.box 61 [(dl Q3 p1.Pts)])]⟩) 0 () _ hz1 (E3 W W) ?_
 intro x1 g2 z2 hz2 ez2
 unfold Dd at hz2
 refine A4<|B1<|sv W<|sq W<|sl W G_hit W<|sd W (D0 W)<|sv W<|A1<|cc W hz2 (fun c3 hz2=> ?_)<|fun c3 hz2=> ?_
 refine A8<|A4<|A9<|B1<|sq W<|sl W G_hit W<|sv W<|bs hz2 fun _ hv1 hz2=>sd W (C5 W W hv1 W)<|sd W (C7 W hv1 W W)<|bs hz2 fun v2 hv2 hz2=>B0 W W A2 (X2 _ _ hv2) (.inl W) (B9 (.d (bo (!v2))) W W (A1<|cc W hz2 (fun c4 hz2=> ?_)<|fun c4 hz2=> ?_))
 refine B1<|sv W<|A1<|B2 ?_
 cases hz2
 obtain rfl:=ez2 _ rfl
 refine ⟨nofun,E5 ?_⟩
 rw [bT]at h
 cases h
 exact A7 (.inr W) (B4 (B3 W) B8) (.refl _)
 refine A8<|D4<|C1<|sv W<|sv W<|sv W<|A1<|D6 ?_
 cases hz2
 exact ⟨W,(),(E3 W W)⟩
 refine C6 W ?_
 cases hz2
 obtain rfl:=ez2 _ rfl
 refine ⟨nofun,C3 W<|T4 ?_⟩
 exact ⟨_,(),W,(E3 W W)⟩
 rintro _ ⟨y1,g1,rfl,q1⟩
 rw [bS]at h
 refine B5 q1<|A4<|B1<|sv W<|A1<|js h fun z3 hz3 h=>D3 (fun s=> ∃(y2:Unit) (g3:Unit),z3= .inl y2∧Sb ⟨T [],G []⟩ s) ?_ ?_
 refine A9<|D7 (Dc p1) (fun (x2:Int) (g4:Unit)=>⟨T [(1,(.ptr (1,u1) 0)),(4,(di x2))],G [((1,u1),some<|.box 61 [(dl Q3 p1.Pts)])]⟩) 0 () _ hz3 (E3 W W) ?_
 intro x2 g4 z4 hz4 ez4
 unfold Dc at hz4
 refine A4<|B1<|sv W<|sv W<|sq W<|sl W G_hit W<|sd W (D0 W)<|sv W<|A1<|cc W hz4 (fun c5 hz4=> ?_)<|fun c5 hz4=> ?_
 refine A8<|A4<|A9<|A4<|D5 W<|sq W<|sl W G_hit W<|sv W<|sv W<|bs hz4 fun _ hv3 hz4=>sd W (C5 W W hv3 W)<|sd W (C7 W hv3 W W)<|sq W<|sl W G_hit W<|sv W<|bs hz4 fun _ hv4 hz4=>sd W (C5 W W hv4 W)<|sd W (C7 W hv4 W W)<|bs hz4 fun v5 hv5 hz4=>B0 W W A2 (Db _ _ _ hv5) (.inl W) (sm W<|Q4 W G_hit [(di v5.X),(di v5.Y)] W (A1<|B1<|sd W (A6 W G_hit W W)<|sd W (A6 W G_hit W W)<|bs hz4 fun _ hv6 hz4=>B0 W W A2 (Nk _ _ _ hv6) (.inl W) (bs hz4 fun _ hv7 hz4=>B0 W W A2 (AG _ _ hv7) (.inl W) (sv W<|A1<|A4<|B1<|sv W<|sv W<|sv W<|sd W (A6 W G_hit W W)<|sd W (A6 W G_hit W W)<|bs hz4 fun _ hv8 hz4=>B0 W W A2 (Nk _ _ _ hv8) (.inl W) (sv W<|A1<|cc W hz4 (fun c6 hz4=> ?_)<|fun c6 hz4=> ?_)))))
 refine B1<|sv W<|A1<|B2 ?_
 cases hz4
 obtain rfl:=ez4 _ rfl
 refine ⟨nofun,E5 ?_⟩
 rw [bT]at h
 cases h
 exact A7 (.inr W) (B4 (B3 W) B8) (.refl _)
 refine A8<|A4<|B1<|sv W<|sv W<|sv W<|gf W (fun _=>W)<|gf W (vb W W W)<|sd W (L8 W W<|fun hc=>A3<|G0 hc)<|A1<|cc W hz4 (fun c7 hz4=> ?_)<|fun c7 hz4=> ?_
 refine B1<|sv W<|A1<|B2 ?_
 cases hz4
 obtain rfl:=ez4 _ rfl
 refine ⟨nofun,E5 ?_⟩
 rw [bT]at h
 cases h
 exact A7 (.inr W) (B4 (B3 W) B8) (.refl _)
 refine A8<|A4<|D5 W<|sv W<|sv W<|sv W<|gt W (fun _=>(A6 W G_hit W W))<|gp W (I8 W) (fun _=>W) (gt W (vl W (gq W) W)<|gt W (fun _=>W)<|bs hz4 fun v9 hv9 hz4=>gt W (fun w7=>(C5 (A3 w7) (A3 w7) (C2 w7 hv9) W))<|gt W (fun w8=>(C7 (A3 w8) (C2 w8 hv9) W W))<|gp W (I8 W) (fun _=>W) (gt W (vl W (gq W) W)<|gt W (fun _=>W)<|gt W (vb W W W)<|bs hz4 fun v10 hv10 hz4=>gt W (fun w13=>(C5 (A3 w13) (A3 w13) (C2 w13 hv10) W))<|gt W (fun w14=>(C7 (A3 w14) (C2 w14 hv10) W W))<|bs hz4 fun v11 hv11 hz4=> ?_))
 refine I9 _ (.agg [(i64 v11.X),(i64 v11.Y)]) (I8 W) (fun w15=>⟨_,[(.d (.agg [(i64 v9.X),(i64 v9.Y)])),(.d (.agg [(i64 v10.X),(i64 v10.Y)]))],_,_,(by simp only [A3 w15];rfl),W,A2,Db _ _ _<|C2 w15 hv11,(.inl W)⟩) ?_
 refine bs hz4 fun v12 hv12 hz4=> ?_
 refine I9 _ (i64 v12) (I8 W) (fun w16=>⟨_,[(.d (.agg [(i64 v5.X),(i64 v5.Y)])),(.d (.agg [(i64 v11.X),(i64 v11.Y)]))],_,_,(by simp only [A3 w16];rfl),W,A2,Nk _ _ _<|C2 w16 hv12,(.inl W)⟩) ?_
 refine gt W (vb W W W)<|sa W W W<|A1<|cc W hz4 (fun c8 hz4=> ?_)<|fun c8 hz4=> ?_
 refine B1<|sv W<|A1<|B2 ?_
 cases hz4
 obtain rfl:=ez4 _ rfl
 refine ⟨nofun,E5 ?_⟩
 rw [bT]at h
 cases h
 exact A7 (.inr W) (B4 (B3 W) B8) (.refl _)
 refine A8<|D4<|C1<|sv W<|sv W<|sv W<|A1<|D6 ?_
 cases hz4
 exact ⟨W,(),(E3 W W)⟩
 refine C6 W ?_
 cases hz4
 obtain rfl:=ez4 _ rfl
 refine ⟨nofun,C3 W<|T4 ?_⟩
 exact ⟨_,(),W,(E3 W W)⟩
 rintro _ ⟨y2,g3,rfl,q2⟩
 rw [bS]at h
 refine B5 q2<|B1<|sv W<|A1<|B2 ?_
 cases h
 exact A7 (.inr W) (B4 (B3 W) B8) (.refl _)
def Gy (p1:Int):Option (Int×Int×Int):=
  cond (p1==1) (some (2000,30,90)) (cond (p1==2) (some (1000,20,60)) (cond (p1==3) (some (300,100,300)) (some (0,0,0))))
theorem Qf(p1 r)(h:Gy p1=some r):PCall prog 35 [(i64 p1)] (.tup [(i64 r.1),(i64 r.2.1),(i64 r.2.2)]):=by
 refine C0 (fk func35 ntmps35 m0 (by with_unfolding_all rfl)) (nl W) ?_
 unfold Gy at h
 refine B5 (s0:=⟨T [(0,(.d _))],G []⟩) (E3 W W) ?_
 refine B1<|sv W<|sv W<|sv W<|A1<|A4<|B1<|sv W<|A1<|A9<|B1<|sv W<|sv W<|A1<|cc W h (fun c1 h=> ?_)<|fun c1 h=> ?_
 refine B1<|sv W<|sv W<|sv W<|A1<|B2 ?_
 cases h
 exact A7 (.inr W) (Ta (B3 W) (B3 W) (B3 W) B8 B8 B8) (.refl _)
 refine B1<|sv W<|sv W<|A1<|cc W h (fun c2 h=> ?_)<|fun c2 h=> ?_
 refine B1<|sv W<|sv W<|sv W<|A1<|B2 ?_
 cases h
 exact A7 (.inr W) (Ta (B3 W) (B3 W) (B3 W) B8 B8 B8) (.refl _)
 refine B1<|sv W<|sv W<|A1<|cc W h (fun c3 h=> ?_)<|fun c3 h=> ?_
 refine B1<|sv W<|sv W<|sv W<|A1<|B2 ?_
 cases h
 exact A7 (.inr W) (Ta (B3 W) (B3 W) (B3 W) B8 B8 B8) (.refl _)
 refine A8<|D4<|B1<|sv W<|sv W<|sv W<|A1<|B2 ?_
 cases h
 exact A7 (.inr W) (Ta (B3 W) (B3 W) (B3 W) B8 B8 B8) (.refl _)
def Ak (p1:(List Int))(p2:Int)(p3:Int)(x1:Int):Option (Stp Int (Sum Unit Bool)):=
  cond (decide (x1< (p1.length:Int))) ((C8 p1 x1).bind fun v1=>((cond (!(decide (v1<p2))) (C8 p1 x1) (some default))).bind fun v2=>((cond ((!((decide (v1<p2))||(decide (v2≥p3))))&& (decide (x1>0))) (C8 p1 x1) (some default))).bind fun v3=>((cond ((!((decide (v1<p2))||(decide (v2≥p3))))&& (decide (x1>0))) (C8 p1 (C9 (x1 - 1))) (some default))).bind fun v4=>cond (((decide (v1<p2))||(decide (v2≥p3)))||((decide (x1>0))&& (decide (v3≤v4)))) (some (.out (.inr false))) (some (.go (C9 (x1+1))))) (some (.out (.inl ())))
def Ev [Lp](p1:(List Int))(p2:Int)(p3:Int):Option Bool:=
  thenS (loop (Ak p1 p2 p3) 0) (fun _=>some true) (fun r=>some r)
theorem Ol(p1 p2 p3 r)(h:Ev p1 p2 p3=some r):PCall prog 217 [(.list (List.map A5 p1)),(i64 p2),(i64 p3)] (bo r):=by
 refine C0 (fk func217 ntmps217 m0 (by with_unfolding_all rfl)) (nl W) ?_
 unfold Ev at h
 refine B5 (s0:=⟨T [(0,(.d _)),(1,(.d _)),(2,(.d _))],G []⟩) (E3 W W) ?_
 refine B1<|sv W<|A1<|A4<|B1<|sv W<|A1<|js h fun z1 hz1 h=>D3 (fun s=> ∃(y1:Unit) (g1:Unit),z1= .inl y1∧Sb ⟨T [],G []⟩ s) ?_ ?_
 refine A9<|D7 (Ak p1 p2 p3) (fun (x1:Int) (g2:Unit)=>⟨T [(0,(dl A5 p1)),(1,(di p2)),(2,(di p3)),(7,(di x1))],G []⟩) 0 () _ hz1 (E3 W W) ?_
 intro x1 g2 z2 hz2 ez2
 unfold Ak at hz2
 refine A4<|B1<|sv W<|sv W<|sd W (D0 W)<|sv W<|A1<|cc W hz2 (fun c1 hz2=> ?_)<|fun c1 hz2=> ?_
 refine A8<|A4<|A9<|A4<|D5 W<|sv W<|sv W<|bs hz2 fun _ hv1 hz2=>sd W (C5 W W hv1 W)<|sd W (D1 W hv1 W)<|sv W<|sv W<|sv W<|gf W (fun _=>W)<|gf W (fun _=>W)<|bs hz2 fun _ hv2 hz2=>gf W (fun w3=>(C5 (A3 w3) (A3 w3) (C2 w3 hv2) W))<|gf W (fun w4=>(D1 (A3 w4) (C2 w4 hv2) W))<|gf W (fun _=>W)<|gf W (fun w6=>(L4 (A3 w6) (A3 w6) W))<|sd W (L8 W W<|fun hc=>A3<|G0 hc)<|sv W<|gf W (fun _=>W)<|gf W (vb W W W)<|gf W (fun w9=>(ED<|A3 w9))<|gv W (O2 W) (fun _=>W) (gv W (O2 W) (fun _=>W) (bs hz2 fun _ hv3 hz2=>gv W (O2 W) (fun w12=>(C5 (A3 w12) (A3 w12) (C2 w12 hv3) W)) (gv W (O2 W) (fun w13=>(D1 (A3 w13) (C2 w13 hv3) W)) (gv W (O2 W) (fun _=>W) (gv W (O2 W) (fun _=>W) (gv W (O2 W) (vb W W W) (bs hz2 fun _ hv4 hz2=>gv W (O2 W) (fun w17=>(C5 (A3 w17) (A3 w17) (C2 w17 hv4) W)) (gv W (O2 W) (fun w18=>(D1 (A3 w18) (C2 w18 hv4) W)) (gv W (O2 W) (fun w19=>(L4 (A3 w19) (A3 w19) W)) (gf W (fun w20=>(Uh (A3 w20) (fun hc=>A3<|Ui w20 hc) W))<|sd W (L8 W W<|fun hc=>A3<|G0 hc)<|A1<|cc W hz2 (fun c2 hz2=> ?_)<|fun c2 hz2=> ?_))))))))))
 refine B1<|sv W<|A1<|B2 ?_
 cases hz2
 obtain rfl:=ez2 _ rfl
 refine ⟨nofun,E5 ?_⟩
 rw [bT]at h
 cases h
 exact A7 (.inr W) (B4 (B3 W) B8) (.refl _)
 refine A8<|D4<|C1<|sv W<|sv W<|sv W<|A1<|D6 ?_
 cases hz2
 exact ⟨W,(),(E3 W W)⟩
 refine C6 W ?_
 cases hz2
 obtain rfl:=ez2 _ rfl
 refine ⟨nofun,C3 W<|T4 ?_⟩
 exact ⟨_,(),W,(E3 W W)⟩
 rintro _ ⟨y1,g1,rfl,q1⟩
 rw [bS]at h
 refine B5 q1<|B1<|sv W<|A1<|B2 ?_
 cases h
 exact A7 (.inr W) (B4 (B3 W) B8) (.refl _)
def Ho [Lp](p1:Map)(p2:Int):Option Int:=
  (C8 p1.Lanes p2).bind fun v1=>cond ((decide (v1.Kind<1))||(decide (v1.Kind>3))) (some 4) ((Mo v1.Curve_).bind fun v2=>cond (v2 !=0) (some v2) ((Gy v1.Kind).bind fun v3=>(By v1.Half 200 4000).bind fun v4=>((cond (!(!v4)) (By v1.Limit 1 v3.1) (some default))).bind fun v5=>cond ((!v4)||(!v5)) (some 2) (cond (decide ((v1.Next.length:Int)>3)) (some 8) ((Ev v1.Next (C9 (p2+1)) (p1.Lanes.length:Int)).bind fun v6=>cond (!v6) (some 11) (some 0)))))
theorem BF(p1 p2 r)(h:Ho p1 p2=some r):PCall prog 163 [(.agg (O8 p1)),(i64 p2)] (i64 r):=by
 refine C0 (fk func163 ntmps163 m0 (by with_unfolding_all rfl)) (nl W) ?_
 unfold Ho at h
 refine B5 (s0:=⟨T [(0,(.d _)),(1,(.d _))],G []⟩) (E3 W W) ?_
 refine B1<|sm W<|sv W<|A1<|B1<|sq W<|sl W G_hit W<|sv W<|bs h fun v1 hv1 h=>sd W (C5 W W hv1 W)<|sd W (C7 W hv1 W W)<|sm W<|Q4 W G_hit (CY v1) W (A1<|A4<|B1<|sq W<|sl W G_hit W<|sv W<|sv W<|gp W (H8 W) (fun _=>W) (gf W (vl W G_hit W)<|gf W (vb W W W)<|sd W (L8 W W<|fun hc=>A3<|G0 hc)<|A1<|cc W h (fun c1 h=> ?_)<|fun c1 h=> ?_))
 refine B1<|sv W<|A1<|B2 ?_
 cases h
 exact A7 (.inr W) (B4 (B3 W) B8) (.refl _)
 refine A8<|B1<|sq W<|sd W (A6 W G_hit W W)<|bs h fun _ hv2 h=>B0 W W A2 (Yo _ _ hv2) (.inl W) (sv W<|A1<|A4<|B1<|sv W<|sv W<|A1<|cc W h (fun c2 h=> ?_)<|fun c2 h=> ?_)
 refine B1<|sv W<|sv W<|A1<|B2 ?_
 cases h
 exact A7 (.inr W) (B4 (B3 W) B8) (.refl _)
 refine A8<|B1<|sq W<|sl W G_hit W<|bs h fun v3 hv3 h=>B0 W W A2 (Qf _ _ hv3) (.inl W) (sv W<|sv W<|sv W<|sv W<|sv W<|sv W<|sv W<|A1<|A4<|B1<|sq W<|sl W G_hit W<|bs h fun v4 hv4 h=>B0 W W A2 (Dw _ _ _ _ hv4) (.inl W) (B9 (.d (bo (!v4))) W W (sv W<|gp W (H8 W) (fun _=>W) (gf W (vl W G_hit W)<|gf W (fun _=>W)<|bs h fun v5 hv5 h=> ?_))))
 refine I9 _ (bo v5) (H8 W) (fun w7=>⟨_,[(di v1.Limit),(di 1),(di v3.1)],_,_,(by simp only [A3 w7];rfl),W,A2,Dw _ _ _ _<|C2 w7 hv5,(.inl W)⟩) ?_
 refine M5 _ (.d (bo (!v5))) W (H8 W) (fun w8=>(by simp only [A3 w8];rfl)) ?_
 refine sd W (L8 W W<|fun hc=>A3<|G0 hc)<|A1<|cc W h (fun c3 h=> ?_)<|fun c3 h=> ?_
 refine B1<|sv W<|A1<|B2 ?_
 cases h
 exact A7 (.inr W) (B4 (B3 W) B8) (.refl _)
 refine A8<|A4<|B1<|sq W<|sl W G_hit W<|sd W (D0 W)<|sv W<|A1<|cc W h (fun c4 h=> ?_)<|fun c4 h=> ?_
 refine B1<|sv W<|A1<|B2 ?_
 cases h
 exact A7 (.inr W) (B4 (B3 W) B8) (.refl _)
 refine A8<|A4<|B1<|sq W<|sl W G_hit W<|sv W<|sv W<|sq W<|sl W (gq W) W (sd W (D0 W)<|bs h fun v6 hv6 h=>B0 W W A2 (Ol _ _ _ _ hv6) (.inl W) (B9 (.d (bo (!v6))) W W (A1<|cc W h (fun c5 h=> ?_)<|fun c5 h=> ?_)))
 refine B1<|sv W<|A1<|B2 ?_
 cases h
 exact A7 (.inr W) (B4 (B3 W) B8) (.refl _)
 refine A8<|B1<|sv W<|A1<|B2 ?_
 cases h
 exact A7 (.inr W) (B4 (B3 W) B8) (.refl _)
def Al (p1:Map)(v1:Lane)(x2:Int):Option (Stp Int (Sum Unit Int)):=
  cond (decide (x2< (v1.Next.length:Int))) ((C8 v1.Next x2).bind fun v2=>(C8 p1.Lanes v2).bind fun v3=>cond (v3.Kind !=v1.Kind) (some (.out (.inr 4))) ((C8 v3.Curve_.Pts 0).bind fun v4=>(C8 v1.Curve_.Pts (C9 ((v1.Curve_.Pts.length:Int) - 1))).bind fun v5=>cond (!(v4.X==v5.X&& (v4.Y==v5.Y&&true))) (some (.out (.inr 3))) (some (.go (C9 (x2+1)))))) (some (.out (.inl ())))
def Am [Lp](p1:Map)(x1:Int):Option (Stp Int (Sum Unit Int)):=
  cond (decide (x1< (p1.Lanes.length:Int))) ((C8 p1.Lanes x1).bind fun v1=>thenS (loop (Al p1 v1) 0) (fun _=>some (.go (C9 (x1+1)))) (fun r=>some (.out (.inr r)))) (some (.out (.inl ())))
def Hp [Lp](p1:Map):Option Int:=
  thenS (loop (Am p1) 0) (fun _=>some 0) (fun r=>some r)
theorem BG(p1 r)(h:Hp p1=some r):PCall prog 164 [(.agg (O8 p1))] (i64 r):=by
 refine C0 (fk func164 ntmps164 m0 (by with_unfolding_all rfl)) (nl W) ?_
 unfold Hp at h
 refine B5 (s0:=⟨T [(0,(.d _))],G []⟩) (E3 W W) ?_
 refine lr<|fun u1 _=>sm W<|sv W<|A1<|A4<|B1<|sv W<|A1<|js h fun z1 hz1 h=>D3 (fun s=> ∃(y1:Unit) (g1:Unit),z1= .inl y1∧Sb ⟨T [],G []⟩ s) ?_ ?_
 refine A9<|D7 (Am p1) (fun (x1:Int) (g2:Unit)=>⟨T [(1,(.ptr (1,u1) 0)),(3,(di x1))],G [((1,u1),some<|.box 33 (K7 p1))]⟩) 0 () _ hz1 (E3 W W) ?_
 intro x1 g2 z2 hz2 ez2
 unfold Am at hz2
 refine A4<|B1<|sv W<|sq W<|sl W G_hit W<|sd W (D0 W)<|sv W<|A1<|cc W hz2 (fun c1 hz2=> ?_)<|fun c1 hz2=> ?_
 refine A8<|A4<|A9<|lr<|fun u4 _=>sq W<|sl W G_hit W<|sv W<|bs hz2 fun v1 hv1 hz2=>sd W (C5 W W hv1 W)<|sd W (C7 W hv1 W W)<|sm W<|Q4 W G_hit (CY v1) W (A1<|B1<|sv W<|A1<|js hz2 fun z3 hz3 hz2=>D3 (fun s=> ∃(y2:Unit) (g3:Unit),z3= .inl y2∧Sb ⟨T [(1,(.ptr (1,u1) 0)),(3,(di x1))],G [((1,u1),some<|.box 33 (K7 p1))]⟩ s) ?_ ?_)
 refine A9<|D7 (Al p1 v1) (fun (x2:Int) (g4:Unit)=>⟨T [(1,(.ptr (1,u1) 0)),(3,(di x1)),(4,(.ptr (4,u4) 0)),(5,(di x2))],G [((1,u1),some<|.box 33 (K7 p1)),((4,u4),some<|.box 63 (CY v1))]⟩) 0 () _ hz3 (E3 W W) ?_
 intro x2 g4 z4 hz4 ez4
 unfold Al at hz4
 refine A4<|B1<|sv W<|sq W<|sl W (gq W) W (sd W (D0 W)<|sv W<|A1<|cc W hz4 (fun c2 hz4=> ?_)<|fun c2 hz4=> ?_)
 refine A8<|A4<|A9<|A4<|D5 W<|sq W<|sl W G_hit W<|sq W<|sl W (gq W) W (sv W<|bs hz4 fun _ hv2 hz4=>sd W (C5 W W hv2 W)<|sd W (D1 W hv2 W)<|bs hz4 fun v3 hv3 hz4=>sd W (C5 W W hv3 W)<|sd W (C7 W hv3 W W)<|sm W<|Q4 W G_hit (CY v3) W (A1<|A4<|B1<|sq W<|sl W G_hit W<|sq W<|sl W (gq W) W (sv W<|A1<|cc W hz4 (fun c3 hz4=> ?_)<|fun c3 hz4=> ?_)))
 refine B1<|sv W<|A1<|B2 ?_
 cases hz4
 obtain rfl:=ez4 _ rfl
 refine ⟨nofun,E5 ?_⟩
 rw [bT]at hz2
 cases hz2
 obtain rfl:=ez2 _ rfl
 refine ⟨nofun,E5 ?_⟩
 rw [bT]at h
 cases h
 exact A7 (.inr W) (B4 (B3 W) B8) (.refl _)
 refine A8<|A4<|D5 W<|sq W<|sq W<|sl W G_hit W<|bs hz4 fun v4 hv4 hz4=>sd W (C5 W W hv4 W)<|sd W (C7 W hv4 W W)<|sq W<|sp W W<|sl W (gq W) W (sq W<|sp W W<|sl W (gq W) W (sd W (D0 W)<|sv W<|bs hz4 fun v5 hv5 hz4=>sd W (C5 W W hv5 W)<|sd W (C7 W hv5 W W)<|B9 (.d (bo (!(v4.X==v5.X&& (v4.Y==v5.Y&&true))))) W W (A1<|cc W hz4 (fun c4 hz4=> ?_)<|fun c4 hz4=> ?_)))
 refine B1<|sv W<|A1<|B2 ?_
 cases hz4
 obtain rfl:=ez4 _ rfl
 refine ⟨nofun,E5 ?_⟩
 rw [bT]at hz2
 cases hz2
 obtain rfl:=ez2 _ rfl
 refine ⟨nofun,E5 ?_⟩
 rw [bT]at h
 cases h
 exact A7 (.inr W) (B4 (B3 W) B8) (.refl _)
 refine A8<|D4<|C1<|sv W<|sv W<|sv W<|A1<|D6 ?_
 cases hz4
 exact ⟨W,(),(E3 W W)⟩
 refine C6 W ?_
 cases hz4
 obtain rfl:=ez4 _ rfl
 refine ⟨nofun,C3 W<|T4 ?_⟩
 exact ⟨_,(),W,(E3 W W)⟩
 rintro _ ⟨y2,g3,rfl,q1⟩
 rw [bS]at hz2
 refine D4<|B5 q1<|C1<|sv W<|sv W<|sv W<|A1<|D6 ?_
 cases hz2
 exact ⟨W,(),(E3 W W)⟩
 refine C6 W ?_
 cases hz2
 obtain rfl:=ez2 _ rfl
 refine ⟨nofun,C3 W<|T4 ?_⟩
 exact ⟨_,(),W,(E3 W W)⟩
 rintro _ ⟨y1,g1,rfl,q2⟩
 rw [bS]at h
 refine B5 q2<|B1<|sv W<|A1<|B2 ?_
 cases h
 exact A7 (.inr W) (B4 (B3 W) B8) (.refl _)
def U9 [Lp](p1:Map)(p2:Signal)(x2:Int):Option (Stp Int (Sum Unit Int)):=
  cond (decide (x2< (p2.Phases.length:Int))) ((C8 p2.Phases x2).bind fun v4=>(Ev v4.Green 0 (p1.Lanes.length:Int)).bind fun v5=>cond (!v5) (some (.out (.inr 11))) (some (.go (C9 (x2+1))))) (some (.out (.inl ())))
def V0 (p2:Signal)(x1:(Bool×Int)):Option (Stp (Bool×Int) Bool):=
  cond (decide (x1.2< (p2.Phases.length:Int))) (((cond x1.1 (C8 p2.Phases x1.2) (some default))).bind fun v2=>((cond x1.1 (By v2.Ticks 1 10000) (some default))).bind fun v3=>some (.go ((x1.1&&v3),(C9 (x1.2+1))))) (some (.out x1.1))
def Ek [Lp](p1:Map)(p2:Signal):Option Int:=
  cond ((p2.Phases.length:Int)==0) (some 6) (cond (decide ((p2.Phases.length:Int)>6)) (some 8) ((By p2.Offset 0 1099511627776).bind fun v1=>(loop (V0 p2) (v1,0)).bind fun y1=>cond (!y1) (some 2) (thenS (loop (U9 p1 p2) 0) (fun _=>some 0) (fun r=>some r))))
theorem Yp(p1 p2 r)(h:Ek p1 p2=some r):PCall prog 165 [(.agg (O8 p1)),(.agg [(i64 p2.Offset),(.list (List.map Dq p2.Phases))])] (i64 r):=by
 refine C0 (fk func165 ntmps165 m0 (by with_unfolding_all rfl)) (nl W) ?_
 unfold Ek at h
 refine B5 (s0:=⟨T [(0,(.d _)),(1,(.d _))],G []⟩) (E3 W W) ?_
 refine lr<|fun u1 _=>sm W<|sm W<|sv W<|A1<|A4<|B1<|sq W<|sl W G_hit W<|sd W (D0 W)<|sv W<|A1<|cc W h (fun c1 h=> ?_)<|fun c1 h=> ?_
 refine B1<|sv W<|A1<|B2 ?_
 cases h
 exact A7 (.inr W) (B4 (B3 W) B8) (.refl _)
 refine A8<|A4<|B1<|sq W<|sl W G_hit W<|sd W (D0 W)<|sv W<|A1<|cc W h (fun c2 h=> ?_)<|fun c2 h=> ?_
 refine B1<|sv W<|A1<|B2 ?_
 cases h
 exact A7 (.inr W) (B4 (B3 W) B8) (.refl _)
 refine A8<|B1<|sq W<|sl W G_hit W<|bs h fun v1 hv1 h=>B0 W W A2 (Dw _ _ _ _ hv1) (.inl W) (sv W<|A1<|A4<|B1<|sv W<|A1<|bs h fun y1 hy1 h=>D3 (fun s=> ∃g1:Unit,Sb ⟨T [(2,(.ptr (2,u1) 0)),(3,(.ptr (3,u1) 0)),(5,(.d (bo y1)))],G [((2,u1),some<|.box 33 (K7 p1)),((3,u1),some<|.box 120 [(di p2.Offset),(dl Dq p2.Phases)])]⟩ s) ?_ ?_)
 refine A9<|D7 (V0 p2) (fun (x1:(Bool×Int)) (g2:Unit)=>⟨T [(2,(.ptr (2,u1) 0)),(3,(.ptr (3,u1) 0)),(5,(.d (bo x1.1))),(6,(di x1.2))],G [((2,u1),some<|.box 33 (K7 p1)),((3,u1),some<|.box 120 [(di p2.Offset),(dl Dq p2.Phases)])]⟩) (v1,0) () _ hy1 (E3 W W) ?_
 intro x1 g2 z1 hz1 ez1
 unfold V0 at hz1
 refine A4<|B1<|sv W<|sq W<|sl W (gq W) W (sd W (D0 W)<|sv W<|A1<|cc W hz1 (fun c3 hz1=> ?_)<|fun c3 hz1=> ?_)
 refine A8<|A4<|A9<|C1<|sv W<|sv W<|gp W (I8 W) (fun _=>W) (gt W (vl W (gq W) W)<|gt W (fun _=>W)<|bs hz1 fun v2 hv2 hz1=>gt W (fun w4=>(C5 (A3 w4) (A3 w4) (C2 w4 hv2) W)) ?_)
 refine gt W (fun w5=>(by simp only [A3 w5];rfl)) ?_
 refine gt W (fun w6=>(D1 (A3 w6) (C2 w6 hv2) W))<|bs hz1 fun v3 hv3 hz1=> ?_
 refine I9 x1.1 (bo v3) (I8 W) (fun w7=>⟨_,[(di v2.Ticks),(di 1),(di 10000)],_,_,(by simp only [A3 w7];rfl),W,A2,Dw _ _ _ _<|C2 w7 hv3,(.inl W)⟩) ?_
 refine sa W W W<|sv W<|A1<|D4<|C1<|sv W<|sv W<|sv W<|A1<|D6 ?_
 cases hz1
 exact ⟨W,(),(E3 W W)⟩
 refine C6 W ?_
 cases hz1
 obtain rfl:=ez1 _ rfl
 refine ⟨nofun,C3 W<|T4 ?_⟩
 exact ⟨(),(E3 W W)⟩
 rintro _ ⟨g1,q1⟩
 refine B5 q1<|A4<|B1<|sv W<|B9 (.d (bo (!y1))) W W (A1<|cc W h (fun c4 h=> ?_)<|fun c4 h=> ?_)
 refine B1<|sv W<|A1<|B2 ?_
 cases h
 exact A7 (.inr W) (B4 (B3 W) B8) (.refl _)
 refine A8<|A4<|B1<|sv W<|A1<|js h fun z2 hz2 h=>D3 (fun s=> ∃(y2:Unit) (g3:Unit),z2= .inl y2∧Sb ⟨T [],G []⟩ s) ?_ ?_
 refine A9<|D7 (U9 p1 p2) (fun (x2:Int) (g4:Unit)=>⟨T [(2,(.ptr (2,u1) 0)),(3,(.ptr (3,u1) 0)),(7,(di x2))],G [((2,u1),some<|.box 33 (K7 p1)),((3,u1),some<|.box 120 [(di p2.Offset),(dl Dq p2.Phases)])]⟩) 0 () _ hz2 (E3 W W) ?_
 intro x2 g4 z3 hz3 ez3
 unfold U9 at hz3
 refine A4<|B1<|sv W<|sq W<|sl W (gq W) W (sd W (D0 W)<|sv W<|A1<|cc W hz3 (fun c5 hz3=> ?_)<|fun c5 hz3=> ?_)
 refine A8<|A4<|A9<|A4<|D5 W<|sq W<|sl W (gq W) W (sv W<|bs hz3 fun _ hv4 hz3=>sd W (C5 W W hv4 W)<|sv W<|sd W (D1 W hv4 W)<|sq W<|sl W G_hit W<|sd W (D0 W)<|bs hz3 fun v5 hv5 hz3=>B0 W W A2 (Ol _ _ _ _ hv5) (.inl W) (B9 (.d (bo (!v5))) W W (A1<|cc W hz3 (fun c6 hz3=> ?_)<|fun c6 hz3=> ?_)))
 refine B1<|sv W<|A1<|B2 ?_
 cases hz3
 obtain rfl:=ez3 _ rfl
 refine ⟨nofun,E5 ?_⟩
 rw [bT]at h
 cases h
 exact A7 (.inr W) (B4 (B3 W) B8) (.refl _)
 refine A8<|D4<|C1<|sv W<|sv W<|sv W<|A1<|D6 ?_
 cases hz3
 exact ⟨W,(),(E3 W W)⟩
 refine C6 W ?_
 cases hz3
 obtain rfl:=ez3 _ rfl
 refine ⟨nofun,C3 W<|T4 ?_⟩
 exact ⟨_,(),W,(E3 W W)⟩
 rintro _ ⟨y2,g3,rfl,q2⟩
 rw [bS]at h
 refine B5 q2<|B1<|sv W<|A1<|B2 ?_
 cases h
 exact A7 (.inr W) (B4 (B3 W) B8) (.refl _)
def Bp [Lp](p1:Curve)(x1:((List Int)×Int)):Option (Stp ((List Int)×Int) (List Int)):=
  cond (decide ((C9 (x1.2+1))< (p1.Pts.length:Int))) ((C8 p1.Pts (C9 (x1.2+1))).bind fun v2=>(C8 p1.Pts x1.2).bind fun v3=>(Bb v2 v3).bind fun v4=>(Kd v4 v4).bind fun v5=>(Ji v5).bind fun v6=>(Fk x1.1 [v6]).bind fun v7=>some (.go (v7,(C9 (x1.2+1))))) (some (.out x1.1))
def Bz [Lp](p1:Curve):Option (List Int):=
  (Mo p1).bind fun v1=>cond (v1 !=0) (some []) ((loop (Bp p1) ([],0)).bind fun y1=>some y1)
theorem Qg(p1 r)(h:Bz p1=some r):PCall prog 134 [(.agg [(.list (List.map Q3 p1.Pts))])] (.list (List.map A5 r)):=by
 refine C0 (fk func134 ntmps134 (fun r=>if r==8 then [1005]else []) (by with_unfolding_all rfl)) (nl W) ?_
 unfold Bz at h
 refine B5 (s0:=⟨T [(0,(.d _))],G []⟩) (E3 W W) ?_
 refine lr<|fun u1 _=>sm W<|sv W<|A1<|A4<|B1<|sd W (A6 W G_hit W W)<|bs h fun _ hv1 h=>B0 W W A2 (Yo _ _ hv1) (.inl W) (sv W<|A1<|cc W h (fun c1 h=> ?_)<|fun c1 h=> ?_)
 refine B1<|sv W<|A1<|B2 ?_
 cases h
 exact A7 (.inr W) (B4 (B3 W) B8) DLe.nil
 refine A8<|B1<|sv W<|A1<|A4<|B1<|sv W<|A1<|bs h fun y1 hy1 h=>D3 (fun s=> ∃g1:Nat,Sb ⟨T [(3,(oS y1 (35,g1)))],G [((35,g1),oB 2 1 A5 y1)]⟩ s) ?_ ?_
 refine A9<|D7 (Bp p1) (fun (x1:((List Int)×Int)) (g2:Nat)=>⟨T [(1,(.ptr (1,u1) 0)),(3,(oS x1.1 (35,g2))),(4,(di x1.2))],G [((1,u1),some<|.box 61 [(dl Q3 p1.Pts)]),((35,g2),oB 2 1 A5 x1.1)]⟩) ([],0) 0 _ hy1 (D2 (X5 W)<|B6 G_hit (.of W)<|O9 trivial) ?_
 intro x1 g2 z1 hz1 ez1
 unfold Bp at hz1
 refine A4<|B1<|sv W<|sv W<|sq W<|sl W G_hit W<|sd W (D0 W)<|sv W<|A1<|cc W hz1 (fun c2 hz1=> ?_)<|fun c2 hz1=> ?_
 refine A8<|A4<|A9<|A4<|D5 W<|sq W<|sl W G_hit W<|sv W<|sv W<|bs hz1 fun _ hv2 hz1=>sd W (C5 W W hv2 W)<|sd W (C7 W hv2 W W)<|sq W<|sl W G_hit W<|sv W<|bs hz1 fun _ hv3 hz1=>sd W (C5 W W hv3 W)<|sd W (C7 W hv3 W W)<|bs hz1 fun v4 hv4 hz1=>B0 W W A2 (Db _ _ _ hv4) (.inl W) (sm W<|Q4 W G_hit [(di v4.X),(di v4.Y)] W (A1<|Be fun u8 _=>B9 (oS x1.1 (35,g2)) W W (sd W (A6 W G_hit W W)<|sd W (A6 W G_hit W W)<|bs hz1 fun _ hv5 hz1=>B0 W W A2 (Nk _ _ _ hv5) (.inl W) (bs hz1 fun v6 hv6 hz1=>B0 W W A2 (AG _ _ hv6) (.inl W) (B9 (dl A5 [v6]) W W (bs hz1 fun _ hv7 hz1=>O1 A5 (35,g2) x1.1 v6 [] _ (M0<|fun _=>W) W (gq W) hv7 (ss W<|A1<|D4<|C1<|sv W<|sv W<|sv W<|A1<|D6 ?_)))))))
 cases hz1
 exact ⟨W,u8,(D2 ⟨.of W,(.of (S5<|T0 hv7).symm), .of W,trivial⟩<|sg W<|L9 G_hit trivial)⟩
 refine C6 W ?_
 cases hz1
 obtain rfl:=ez1 _ rfl
 refine ⟨nofun,C3 W<|T4 ?_⟩
 exact ⟨g2,(D2 ⟨.of W,trivial⟩<|B7 (gq W) trivial)⟩
 rintro _ ⟨g1,q1⟩
 refine B5 q1<|B1<|B9 (oS y1 (35,g1)) W W (B9 (oS y1 (35,g1)) W W (A1<|B2 ?_))
 cases h
 exact A7 (.inr W) (B4 (B3 W)<|U4 G_hit) U3
def Aa (v1:(List Int))(x1:(Int×Int)):Option (Stp (Int×Int) Int):=
  cond (decide (x1.2< (v1.length:Int))) ((C8 v1 x1.2).bind fun v2=>some (.go ((C9 (x1.1+v2)),(C9 (x1.2+1))))) (some (.out x1.1))
def Ca [Lp](p1:Curve):Option Int:=
  (Bz p1).bind fun v1=>(loop (Aa v1) (0,0)).bind fun y1=>some y1
theorem Lu(p1 r)(h:Ca p1=some r):PCall prog 204 [(.agg [(.list (List.map Q3 p1.Pts))])] (i64 r):=by
 refine C0 (fk func204 ntmps204 m0 (by with_unfolding_all rfl)) (nl W) ?_
 unfold Ca at h
 refine B5 (s0:=⟨T [(0,(.d _))],G []⟩) (E3 W W) ?_
 refine B1<|sm W<|sv W<|A1<|B1<|sv W<|A1<|B1<|sd W (A6 W G_hit W W)<|bs h fun v1 hv1 h=>B0 W W A2 (Qg _ _ hv1) (.inl W) (sv W<|A1<|A4<|B1<|sv W<|A1<|bs h fun y1 hy1 h=>D3 (fun s=> ∃g1:Unit,Sb ⟨T [(3,(di y1))],G []⟩ s) ?_ ?_)
 refine A9<|D7 (Aa v1) (fun (x1:(Int×Int)) (g2:Unit)=>⟨T [(3,(di x1.1)),(4,(dl A5 v1)),(5,(di x1.2))],G []⟩) (0,0) () _ hy1 (E3 W W) ?_
 intro x1 g2 z1 hz1 ez1
 unfold Aa at hz1
 refine A4<|B1<|sv W<|sv W<|sd W (D0 W)<|sv W<|A1<|cc W hz1 (fun c1 hz1=> ?_)<|fun c1 hz1=> ?_
 refine A8<|A4<|A9<|C1<|sv W<|sv W<|sv W<|bs hz1 fun _ hv2 hz1=>sd W (C5 W W hv2 W)<|sd W (D1 W hv2 W)<|sv W<|sv W<|A1<|D4<|C1<|sv W<|sv W<|sv W<|A1<|D6 ?_
 cases hz1
 exact ⟨W,(),(E3 W W)⟩
 refine C6 W ?_
 cases hz1
 obtain rfl:=ez1 _ rfl
 refine ⟨nofun,C3 W<|T4 ?_⟩
 exact ⟨(),(E3 W W)⟩
 rintro _ ⟨g1,q1⟩
 refine B5 q1<|B1<|sv W<|sv W<|A1<|B2 ?_
 cases h
 exact A7 (.inr W) (B4 (B3 W) B8) (.refl _)
def An [Lp](p1:Map)(p2:Zone)(x2:Int):Option (Stp Int (Sum Unit Int)):=
  cond (decide (x2< (p2.Parts.length:Int))) ((C8 p2.Parts x2).bind fun v4=>((cond (!((decide (v4.From<0))||(decide (v4.From≥v4.To)))) (C8 p1.Lanes v4.Lane_) (some default))).bind fun v5=>((cond (!((decide (v4.From<0))||(decide (v4.From≥v4.To)))) (Ca v5.Curve_) (some default))).bind fun v6=>cond (((((decide (v4.From<0))||(decide (v4.From≥v4.To)))||(decide (v4.To>v6)))||(decide (v4.Rank<0)))||(decide (v4.Rank>100))) (some (.out (.inr 2))) (some (.go (C9 (x2+1))))) (some (.out (.inl ())))
def Gz (p2:Zone)(x1:((List Int)×Int)):Option (Stp ((List Int)×Int) (List Int)):=
  cond (decide (x1.2< (p2.Parts.length:Int))) ((C8 p2.Parts x1.2).bind fun v1=>(Fk x1.1 [v1.Lane_]).bind fun v2=>some (.go (v2,(C9 (x1.2+1))))) (some (.out x1.1))
def Hq [Lp](p1:Map)(p2:Zone):Option Int:=
  cond (decide ((p2.Parts.length:Int)<2)) (some 6) (cond (decide ((p2.Parts.length:Int)>6)) (some 8) (cond ((decide (p2.Signal_<0))||(decide (p2.Signal_>(p1.Signals.length:Int)))) (some 2) ((loop (Gz p2) ([],0)).bind fun y1=>(Ev y1 0 (p1.Lanes.length:Int)).bind fun v3=>cond (!v3) (some 11) (thenS (loop (An p1 p2) 0) (fun _=>some 0) (fun r=>some r)))))
theorem BH(p1 p2 r)(h:Hq p1 p2=some r):PCall prog 166 [(.agg (O8 p1)),(.agg [(.list (List.map Cs p2.Parts)),(i64 p2.Signal_)])] (i64 r):=by
 refine C0 (fk func166 ntmps166 (fun r=>if r==11 then [1007]else []) (by with_unfolding_all rfl)) (nl W) ?_
 unfold Hq at h
 refine B5 (s0:=⟨T [(0,(.d _)),(1,(.d _))],G []⟩) (E3 W W) ?_
 refine lr<|fun u1 _=>sm W<|sm W<|sv W<|A1<|A4<|B1<|sq W<|sl W G_hit W<|sd W (D0 W)<|sv W<|A1<|cc W h (fun c1 h=> ?_)<|fun c1 h=> ?_
 refine B1<|sv W<|A1<|B2 ?_
 cases h
 exact A7 (.inr W) (B4 (B3 W) B8) (.refl _)
 refine A8<|A4<|B1<|sq W<|sl W G_hit W<|sd W (D0 W)<|sv W<|A1<|cc W h (fun c2 h=> ?_)<|fun c2 h=> ?_
 refine B1<|sv W<|A1<|B2 ?_
 cases h
 exact A7 (.inr W) (B4 (B3 W) B8) (.refl _)
 refine A8<|A4<|B1<|sq W<|sl W G_hit W<|sv W<|sv W<|gp W (H8 W) (fun _=>W) (gf W (vl W G_hit W)<|gp W (H8 W) (fun _=>W) (gf W (vl W (gq W) W)<|gf W (fun w5=>(D0<|A3 w5))<|gf W (fun w6=>(L4 (A3 w6) (A3 w6) W))<|sd W (L8 W W<|fun hc=>A3<|G0 hc)<|A1<|cc W h (fun c3 h=> ?_)<|fun c3 h=> ?_))
 refine B1<|sv W<|A1<|B2 ?_
 cases h
 exact A7 (.inr W) (B4 (B3 W) B8) (.refl _)
 refine A8<|B1<|sv W<|A1<|A4<|B1<|sv W<|A1<|bs h fun y1 hy1 h=>D3 (fun s=> ∃g1:Nat,Sb ⟨T [(2,(.ptr (2,u1) 0)),(3,(.ptr (3,u1) 0)),(5,(oS y1 (43,g1)))],G [((2,u1),some<|.box 33 (K7 p1)),((3,u1),some<|.box 117 [(dl Cs p2.Parts),(di p2.Signal_)]),((43,g1),oB 3 1 A5 y1)]⟩ s) ?_ ?_
 refine A9<|D7 (Gz p2) (fun (x1:((List Int)×Int)) (g2:Nat)=>⟨T [(2,(.ptr (2,u1) 0)),(3,(.ptr (3,u1) 0)),(5,(oS x1.1 (43,g2))),(6,(di x1.2))],G [((2,u1),some<|.box 33 (K7 p1)),((3,u1),some<|.box 117 [(dl Cs p2.Parts),(di p2.Signal_)]),((43,g2),oB 3 1 A5 x1.1)]⟩) ([],0) 0 _ hy1 (D2 (X5 W)<|sg W<|B6 G_hit (.of W)<|O9 trivial) ?_
 intro x1 g2 z1 hz1 ez1
 unfold Gz at hz1
 refine A4<|B1<|sv W<|sq W<|sl W (gq W) W (sd W (D0 W)<|sv W<|A1<|cc W hz1 (fun c4 hz1=> ?_)<|fun c4 hz1=> ?_)
 refine A8<|A4<|A9<|Be fun u11 _=>B9 (oS x1.1 (43,g2)) W W (sq W<|sl W (gq W) W (sv W<|bs hz1 fun v1 hv1 hz1=>sd W (C5 W W hv1 W)<|sv W<|sd W (D1 W hv1 W)<|B9 (dl A5 [v1.Lane_]) W W (bs hz1 fun _ hv2 hz1=>O1 A5 (43,g2) x1.1 v1.Lane_ [] _ (M0<|fun _=>W) W (gq W) hv2 (ss W<|A1<|D4<|C1<|sv W<|sv W<|sv W<|A1<|D6 ?_))))
 cases hz1
 exact ⟨W,u11,(D2 ⟨.of W, .of W,(.of (S5<|T0 hv2).symm), .of W,trivial⟩<|sg W<|sg W<|L9 G_hit trivial)⟩
 refine C6 W ?_
 cases hz1
 obtain rfl:=ez1 _ rfl
 refine ⟨nofun,C3 W<|T4 ?_⟩
 exact ⟨g2,(D2 (X5 W)<|B6 G_hit (.of W)<|sg W<|B7 (gq W) trivial)⟩
 rintro _ ⟨g1,q1⟩
 refine B5 q1<|A4<|B1<|B9 (oS y1 (43,g1)) W W (sq W<|sl W G_hit W<|sd W (D0 W)<|bs h fun v3 hv3 h=>B0 W (E0 (U4<|gq W)<|rD<|rD F0) (.cons U3 (.cons (.refl _) A2)) (Ol _ _ _ _ hv3) (.inr W) (B9 (.d (bo (!v3))) W W (A1<|cc W h (fun c5 h=> ?_)<|fun c5 h=> ?_)))
 refine B1<|sv W<|A1<|B2 ?_
 cases h
 exact A7 (.inr W) (B4 (B3 W) B8) (.refl _)
 refine A8<|A4<|B1<|sv W<|A1<|js h fun z2 hz2 h=>D3 (fun s=> ∃(y2:Unit) (g3:Unit),z2= .inl y2∧Sb ⟨T [],G []⟩ s) ?_ ?_
 refine A9<|D7 (An p1 p2) (fun (x2:Int) (g4:Unit)=>⟨T [(2,(.ptr (2,u1) 0)),(3,(.ptr (3,u1) 0)),(7,(di x2))],G [((2,u1),some<|.box 33 (K7 p1)),((3,u1),some<|.box 117 [(dl Cs p2.Parts),(di p2.Signal_)])]⟩) 0 () _ hz2 (E3 W W) ?_
 intro x2 g4 z3 hz3 ez3
 unfold An at hz3
 refine A4<|B1<|sv W<|sq W<|sl W (gq W) W (sd W (D0 W)<|sv W<|A1<|cc W hz3 (fun c6 hz3=> ?_)<|fun c6 hz3=> ?_)
 refine A8<|A4<|A9<|B1<|sq W<|sl W (gq W) W (sv W<|bs hz3 fun v4 hv4 hz3=>sd W (C5 W W hv4 W)<|sd W (C7 W hv4 W W)<|sm W<|Q4 W G_hit (IK v4) W (A1<|A4<|D5 W<|sq W<|sl W G_hit W<|sv W<|sv W<|gp W (H8 W) (fun _=>W) (gf W (vl W G_hit W)<|gp W (H8 W) (fun _=>W) (gf W (vl W G_hit W)<|gf W (fun w11=>(L4 (A3 w11) (A3 w11) W))<|sd W (L8 W W<|fun hc=>A3<|G0 hc)<|sv W<|gp W (H8 W) (fun _=>W) (gf W (vl W G_hit W)<|gp W (H8 W) (fun _=>W) (gf W (vl W (gq W) W)<|gp W (H8 W) (fun _=>W) (gf W (vl W G_hit W)<|bs hz3 fun v5 hv5 hz3=>gf W (fun w18=>(C5 (A3 w18) (A3 w18) (C2 w18 hv5) W)) ?_)))))))
 refine gf W (fun w19=>(by simp only [A3 w19];rfl)) ?_
 refine gf W (fun w20=>(C7 (A3 w20) (C2 w20 hv5) W W))<|bs hz3 fun v6 hv6 hz3=> ?_
 refine I9 _ (i64 v6) (H8 W) (fun w21=>⟨_,[(.d (.agg [(.list (List.map Q3 v5.Curve_.Pts))]))],_,_,(by simp only [A3 w21];rfl),W,A2,Lu _ _<|C2 w21 hv6,(.inl W)⟩) ?_
 refine gf W (fun w22=>(L4 (A3 w22) (A3 w22) W))<|sd W (L8 W W<|fun hc=>A3<|G0 hc)<|sv W<|gp W (H8 W) (fun _=>W) (gf W (vl W G_hit W)<|gf W (vb W W W)<|sd W (L8 W W<|fun hc=>A3<|G0 hc)<|sv W<|gp W (H8 W) (fun _=>W) (gf W (vl W G_hit W)<|gf W (vb W W W)<|sd W (L8 W W<|fun hc=>A3<|G0 hc)<|A1<|cc W hz3 (fun c7 hz3=> ?_)<|fun c7 hz3=> ?_))
 refine B1<|sv W<|A1<|B2 ?_
 cases hz3
 obtain rfl:=ez3 _ rfl
 refine ⟨nofun,E5 ?_⟩
 rw [bT]at h
 cases h
 exact A7 (.inr W) (B4 (B3 W) B8) (.refl _)
 refine A8<|D4<|C1<|sv W<|sv W<|sv W<|A1<|D6 ?_
 cases hz3
 exact ⟨W,(),(E3 W W)⟩
 refine C6 W ?_
 cases hz3
 obtain rfl:=ez3 _ rfl
 refine ⟨nofun,C3 W<|T4 ?_⟩
 exact ⟨_,(),W,(E3 W W)⟩
 rintro _ ⟨y2,g3,rfl,q2⟩
 rw [bS]at h
 refine B5 q2<|B1<|sv W<|A1<|B2 ?_
 cases h
 exact A7 (.inr W) (B4 (B3 W) B8) (.refl _)
def Hr [Lp](p1:Map)(p2:Work):Option Int:=
  cond ((decide (p2.Lane_<0))||(decide (p2.Lane_≥(p1.Lanes.length:Int)))) (some 7) ((C8 p1.Lanes p2.Lane_).bind fun v1=>(Gy v1.Kind).bind fun v2=>((cond (!((decide (p2.From<0))||(decide (p2.From>p2.To)))) (Ca v1.Curve_) (some default))).bind fun v3=>((cond (!((((((decide (p2.From<0))||(decide (p2.From>p2.To)))||(decide (p2.To>v3)))||(decide (p2.Begin<0)))||(decide (p2.Begin≥p2.End)))||(decide (p2.End>1099511627776)))) (By p2.Limit 0 v2.1) (some default))).bind fun v4=>cond (((((((decide (p2.From<0))||(decide (p2.From>p2.To)))||(decide (p2.To>v3)))||(decide (p2.Begin<0)))||(decide (p2.Begin≥p2.End)))||(decide (p2.End>1099511627776)))||(!v4)) (some 2) (some 0))
theorem BI(p1 p2 r)(h:Hr p1 p2=some r):PCall prog 167 [(.agg (O8 p1)),(.agg (Rt p2))] (i64 r):=by
 refine C0 (fk func167 ntmps167 m0 (by with_unfolding_all rfl)) (nl W) ?_
 unfold Hr at h
 refine B5 (s0:=⟨T [(0,(.d _)),(1,(.d _))],G []⟩) (E3 W W) ?_
 refine B1<|sm W<|sn W W<|sv W<|A1<|A4<|B1<|sq W<|sl W G_hit W<|sv W<|sv W<|gp W (H8 W) (fun _=>W) (gf W (vl W G_hit W)<|gp W (H8 W) (fun _=>W) (gf W (vl W (gq W) W)<|gf W (fun w5=>(D0<|A3 w5))<|gf W (fun w6=>(L4 (A3 w6) (A3 w6) W))<|sd W (L8 W W<|fun hc=>A3<|G0 hc)<|A1<|cc W h (fun c1 h=> ?_)<|fun c1 h=> ?_))
 refine B1<|sv W<|A1<|B2 ?_
 cases h
 exact A7 (.inr W) (B4 (B3 W) B8) (.refl _)
 refine A8<|B1<|sq W<|sl W (gq W) W (sq W<|sl W G_hit W<|bs h fun v1 hv1 h=>sd W (C5 W W hv1 W)<|sd W (C7 W hv1 W W)<|sm W<|Q4 W G_hit (CY v1) W (A1<|B1<|sq W<|sl W G_hit W<|bs h fun v2 hv2 h=>B0 W W A2 (Qf _ _ hv2) (.inl W) (sv W<|sv W<|sv W<|sv W<|sv W<|sv W<|sv W<|A1<|A4<|A4<|D5 W<|sq W<|sl W (gq W) W (sv W<|sv W<|gp W (H8 W) (fun _=>W) (gf W (vl W (gq W) W)<|gp W (H8 W) (fun _=>W) (gf W (vl W (gq W) W)<|gf W (fun w11=>(L4 (A3 w11) (A3 w11) W))<|sd W (L8 W W<|fun hc=>A3<|G0 hc)<|sv W<|gp W (H8 W) (fun _=>W) (gf W (vl W (gq W) W)<|gp W (H8 W) (fun _=>W) (gf W (fun w15=>(A6 (A3 w15) G_hit W W))<|bs h fun v3 hv3 h=> ?_))))))))
 refine I9 _ (i64 v3) (H8 W) (fun w16=>⟨_,[(.d (.agg [(.list (List.map Q3 v1.Curve_.Pts))]))],_,_,(by simp only [A3 w16];rfl),W,A2,Lu _ _<|C2 w16 hv3,(.inl W)⟩) ?_
 refine gf W (fun w17=>(L4 (A3 w17) (A3 w17) W))<|sd W (L8 W W<|fun hc=>A3<|G0 hc)<|sv W<|gp W (H8 W) (fun _=>W) (gf W (vl W (gq W) W)<|gf W (vb W W W)<|sd W (L8 W W<|fun hc=>A3<|G0 hc)<|sv W<|gp W (H8 W) (fun _=>W) (gf W (vl W (gq W) W)<|gp W (H8 W) (fun _=>W) (gf W (vl W (gq W) W)<|gf W (fun w25=>(L4 (A3 w25) (A3 w25) W))<|sd W (L8 W W<|fun hc=>A3<|G0 hc)<|sv W<|gp W (H8 W) (fun _=>W) (gf W (vl W (gq W) W)<|gf W (vb W W W)<|sd W (L8 W W<|fun hc=>A3<|G0 hc)<|sv W<|gp W (H8 W) (fun _=>W) (gf W (vl W (gq W) W)<|gf W (fun _=>W)<|bs h fun v4 hv4 h=> ?_)))))
 refine I9 _ (bo v4) (H8 W) (fun w32=>⟨_,[(di p2.Limit),(di 0),(di v2.1)],_,_,(by simp only [A3 w32];rfl),W,A2,Dw _ _ _ _<|C2 w32 hv4,(.inl W)⟩) ?_
 refine M5 _ (.d (bo (!v4))) W (H8 W) (fun w33=>(by simp only [A3 w33];rfl)) ?_
 refine sd W (L8 W W<|fun hc=>A3<|G0 hc)<|A1<|cc W h (fun c2 h=> ?_)<|fun c2 h=> ?_
 refine B1<|sv W<|A1<|B2 ?_
 cases h
 exact A7 (.inr W) (B4 (B3 W) B8) (.refl _)
 refine A8<|B1<|sv W<|A1<|B2 ?_
 cases h
 exact A7 (.inr W) (B4 (B3 W) B8) (.refl _)
def Fu [Lp](p1:Map)(x4:(Int×Int)):Option (Stp (Int×Int) Int):=
  cond ((decide (x4.2< (p1.Works.length:Int)))&& (x4.1==0)) ((C8 p1.Works x4.2).bind fun v8=>(Hr p1 v8).bind fun v9=>some (.go (v9,(C9 (x4.2+1))))) (some (.out x4.1))
def Fv [Lp](p1:Map)(x3:(Int×Int)):Option (Stp (Int×Int) Int):=
  cond ((decide (x3.2< (p1.Zones.length:Int)))&& (x3.1==0)) ((C8 p1.Zones x3.2).bind fun v6=>(Hq p1 v6).bind fun v7=>some (.go (v7,(C9 (x3.2+1))))) (some (.out x3.1))
def Fw [Lp](p1:Map)(x2:(Int×Int)):Option (Stp (Int×Int) Int):=
  cond ((decide (x2.2< (p1.Signals.length:Int)))&& (x2.1==0)) ((C8 p1.Signals x2.2).bind fun v4=>(Ek p1 v4).bind fun v5=>some (.go (v5,(C9 (x2.2+1))))) (some (.out x2.1))
def De [Lp](p1:Map)(x1:Int):Option (Stp Int (Sum Unit Int)):=
  cond (decide (x1< (p1.Lanes.length:Int))) ((Ho p1 x1).bind fun v2=>cond (v2 !=0) (some (.out (.inr v2))) (some (.go (C9 (x1+1))))) (some (.out (.inl ())))
def Jj [Lp](p1:Map):Option Int:=
  (By p1.Version 0 1099511627776).bind fun v1=>cond (!v1) (some 2) (cond ((p1.Lanes.length:Int)==0) (some 6) (cond ((((decide ((p1.Lanes.length:Int)>12))||(decide ((p1.Zones.length:Int)>12)))||(decide ((p1.Signals.length:Int)>4)))||(decide ((p1.Works.length:Int)>8))) (some 8) (thenS (loop (De p1) 0) (fun _=>(Hp p1).bind fun v3=>(loop (Fw p1) (v3,0)).bind fun y2=>(loop (Fv p1) (y2,0)).bind fun y3=>(loop (Fu p1) (y3,0)).bind fun y4=>some y4) (fun r=>some r))))
theorem Sh(p1 r)(h:Jj p1=some r):PCall prog 76 [(.agg (O8 p1))] (i64 r):=by
 refine C0 (fk func76 ntmps76 m0 (by with_unfolding_all rfl)) (nl W) ?_
 unfold Jj at h
 refine B5 (s0:=⟨T [(0,(.d _))],G []⟩) (E3 W W) ?_
 refine lr<|fun u1 _=>sm W<|sv W<|A1<|A4<|B1<|sq W<|sl W G_hit W<|bs h fun v1 hv1 h=>B0 W W A2 (Dw _ _ _ _ hv1) (.inl W) (B9 (.d (bo (!v1))) W W (A1<|cc W h (fun c1 h=> ?_)<|fun c1 h=> ?_))
 refine B1<|sv W<|A1<|B2 ?_
 cases h
 exact A7 (.inr W) (B4 (B3 W) B8) (.refl _)
 refine A8<|A4<|B1<|sq W<|sl W G_hit W<|sd W (D0 W)<|sv W<|A1<|cc W h (fun c2 h=> ?_)<|fun c2 h=> ?_
 refine B1<|sv W<|A1<|B2 ?_
 cases h
 exact A7 (.inr W) (B4 (B3 W) B8) (.refl _)
 refine A8<|A4<|B1<|sq W<|sl W G_hit W<|sd W (D0 W)<|sv W<|sv W<|gp W (H8 W) (fun _=>W) (gf W (vl W G_hit W)<|gf W (fun w3=>(D0<|A3 w3))<|gf W (vb W W W)<|sd W (L8 W W<|fun hc=>A3<|G0 hc)<|sv W<|gp W (H8 W) (fun _=>W) (gf W (vl W G_hit W)<|gf W (fun w7=>(D0<|A3 w7))<|gf W (vb W W W)<|sd W (L8 W W<|fun hc=>A3<|G0 hc)<|sv W<|gp W (H8 W) (fun _=>W) (gf W (vl W G_hit W)<|gf W (fun w11=>(D0<|A3 w11))<|gf W (vb W W W)<|sd W (L8 W W<|fun hc=>A3<|G0 hc)<|A1<|cc W h (fun c3 h=> ?_)<|fun c3 h=> ?_)))
 refine B1<|sv W<|A1<|B2 ?_
 cases h
 exact A7 (.inr W) (B4 (B3 W) B8) (.refl _)
 refine A8<|A4<|B1<|sv W<|A1<|js h fun z1 hz1 h=>D3 (fun s=> ∃(y1:Unit) (g1:Unit),z1= .inl y1∧Sb ⟨T [(1,(.ptr (1,u1) 0))],G [((1,u1),some<|.box 33 (K7 p1))]⟩ s) ?_ ?_
 refine A9<|D7 (De p1) (fun (x1:Int) (g2:Unit)=>⟨T [(1,(.ptr (1,u1) 0)),(3,(di x1))],G [((1,u1),some<|.box 33 (K7 p1))]⟩) 0 () _ hz1 (E3 W W) ?_
 intro x1 g2 z2 hz2 ez2
 unfold De at hz2
 refine A4<|B1<|sv W<|sq W<|sl W G_hit W<|sd W (D0 W)<|sv W<|A1<|cc W hz2 (fun c4 hz2=> ?_)<|fun c4 hz2=> ?_
 refine A8<|A4<|A9<|B1<|sd W (A6 W G_hit W W)<|sv W<|bs hz2 fun _ hv2 hz2=>B0 W W A2 (BF _ _ _ hv2) (.inl W) (sv W<|A1<|B1<|sv W<|sv W<|A1<|cc W hz2 (fun c5 hz2=> ?_)<|fun c5 hz2=> ?_)
 refine B1<|sv W<|sv W<|A1<|B2 ?_
 cases hz2
 obtain rfl:=ez2 _ rfl
 refine ⟨nofun,E5 ?_⟩
 rw [bT]at h
 cases h
 exact A7 (.inr W) (B4 (B3 W) B8) (.refl _)
 refine A8<|D4<|C1<|sv W<|sv W<|sv W<|A1<|D6 ?_
 cases hz2
 exact ⟨W,(),(E3 W W)⟩
 refine C6 W ?_
 cases hz2
 obtain rfl:=ez2 _ rfl
 refine ⟨nofun,C3 W<|T4 ?_⟩
 exact ⟨_,(),W,(E3 W W)⟩
 rintro _ ⟨y1,g1,rfl,q1⟩
 rw [bS]at h
 refine B5 q1<|B1<|sd W (A6 W G_hit W W)<|bs h fun v3 hv3 h=>B0 W W A2 (BG _ _ hv3) (.inl W) (sv W<|A1<|A4<|B1<|sv W<|A1<|bs h fun y2 hy2 h=>D3 (fun s=> ∃g3:Unit,Sb ⟨T [(1,(.ptr (1,u1) 0)),(5,(di y2))],G [((1,u1),some<|.box 33 (K7 p1))]⟩ s) ?_ ?_)
 refine A9<|D7 (Fw p1) (fun (x2:(Int×Int)) (g4:Unit)=>⟨T [(1,(.ptr (1,u1) 0)),(5,(di x2.1)),(6,(di x2.2))],G [((1,u1),some<|.box 33 (K7 p1))]⟩) (v3,0) () _ hy2 (E3 W W) ?_
 intro x2 g4 z3 hz3 ez3
 unfold Fw at hz3
 refine A4<|B1<|sv W<|sq W<|sl W G_hit W<|sd W (D0 W)<|sv W<|sv W<|gt W (fun _=>W)<|gt W (vb W W W)<|sa W W W<|A1<|cc W hz3 (fun c6 hz3=> ?_)<|fun c6 hz3=> ?_
 refine A8<|A4<|A9<|D5 W<|sd W (A6 W G_hit W W)<|sq W<|sl W G_hit W<|sv W<|bs hz3 fun _ hv4 hz3=>sd W (C5 W W hv4 W)<|sd W (C7 W hv4 W W)<|bs hz3 fun _ hv5 hz3=>B0 W W A2 (Yp _ _ _ hv5) (.inl W) (sv W<|A1<|D4<|C1<|sv W<|sv W<|sv W<|A1<|D6 ?_)
 cases hz3
 exact ⟨W,(),(E3 W W)⟩
 refine C6 W ?_
 cases hz3
 obtain rfl:=ez3 _ rfl
 refine ⟨nofun,C3 W<|T4 ?_⟩
 exact ⟨(),(E3 W W)⟩
 rintro _ ⟨g3,q2⟩
 refine B5 q2<|A4<|B1<|sv W<|A1<|bs h fun y3 hy3 h=>D3 (fun s=> ∃g5:Unit,Sb ⟨T [(1,(.ptr (1,u1) 0)),(5,(di y3))],G [((1,u1),some<|.box 33 (K7 p1))]⟩ s) ?_ ?_
 refine A9<|D7 (Fv p1) (fun (x3:(Int×Int)) (g6:Unit)=>⟨T [(1,(.ptr (1,u1) 0)),(5,(di x3.1)),(7,(di x3.2))],G [((1,u1),some<|.box 33 (K7 p1))]⟩) (y2,0) () _ hy3 (E3 W W) ?_
 intro x3 g6 z4 hz4 ez4
 unfold Fv at hz4
 refine A4<|B1<|sv W<|sq W<|sl W G_hit W<|sd W (D0 W)<|sv W<|sv W<|gt W (fun _=>W)<|gt W (vb W W W)<|sa W W W<|A1<|cc W hz4 (fun c7 hz4=> ?_)<|fun c7 hz4=> ?_
 refine A8<|A4<|A9<|D5 W<|sd W (A6 W G_hit W W)<|sq W<|sl W G_hit W<|sv W<|bs hz4 fun _ hv6 hz4=>sd W (C5 W W hv6 W)<|sd W (C7 W hv6 W W)<|bs hz4 fun _ hv7 hz4=>B0 W W A2 (BH _ _ _ hv7) (.inl W) (sv W<|A1<|D4<|C1<|sv W<|sv W<|sv W<|A1<|D6 ?_)
 cases hz4
 exact ⟨W,(),(E3 W W)⟩
 refine C6 W ?_
 cases hz4
 obtain rfl:=ez4 _ rfl
 refine ⟨nofun,C3 W<|T4 ?_⟩
 exact ⟨(),(E3 W W)⟩
 rintro _ ⟨g5,q3⟩
 refine B5 q3<|A4<|B1<|sv W<|A1<|bs h fun y4 hy4 h=>D3 (fun s=> ∃g7:Unit,Sb ⟨T [(5,(di y4))],G []⟩ s) ?_ ?_
 refine A9<|D7 (Fu p1) (fun (x4:(Int×Int)) (g8:Unit)=>⟨T [(1,(.ptr (1,u1) 0)),(5,(di x4.1)),(8,(di x4.2))],G [((1,u1),some<|.box 33 (K7 p1))]⟩) (y3,0) () _ hy4 (E3 W W) ?_
 intro x4 g8 z5 hz5 ez5
 unfold Fu at hz5
 refine A4<|B1<|sv W<|sq W<|sl W G_hit W<|sd W (D0 W)<|sv W<|sv W<|gt W (fun _=>W)<|gt W (vb W W W)<|sa W W W<|A1<|cc W hz5 (fun c8 hz5=> ?_)<|fun c8 hz5=> ?_
 refine A8<|A4<|A9<|D5 W<|sd W (A6 W G_hit W W)<|sq W<|sl W G_hit W<|sv W<|bs hz5 fun _ hv8 hz5=>sd W (C5 W W hv8 W)<|sd W (C7 W hv8 W W)<|bs hz5 fun _ hv9 hz5=>B0 W W A2 (BI _ _ _ hv9) (.inl W) (sv W<|A1<|D4<|C1<|sv W<|sv W<|sv W<|A1<|D6 ?_)
 cases hz5
 exact ⟨W,(),(E3 W W)⟩
 refine C6 W ?_
 cases hz5
 obtain rfl:=ez5 _ rfl
 refine ⟨nofun,C3 W<|T4 ?_⟩
 exact ⟨(),(E3 W W)⟩
 rintro _ ⟨g7,q4⟩
 refine B5 q4<|B1<|sv W<|sv W<|A1<|B2 ?_
 cases h
 exact A7 (.inr W) (B4 (B3 W) B8) (.refl _)
def Nl (p1:(List Int))(p2:Int)(x1:Int):Option (Stp Int (Sum Unit Bool)):=
  cond (decide (x1< (p1.length:Int))) ((C8 p1 x1).bind fun v1=>cond (v1==p2) (some (.out (.inr true))) (some (.go (C9 (x1+1))))) (some (.out (.inl ())))
def Rh [Lp](p1:(List Int))(p2:Int):Option Bool:=
  thenS (loop (Nl p1 p2) 0) (fun _=>some false) (fun r=>some r)
theorem DH(p1 p2 r)(h:Rh p1 p2=some r):PCall prog 190 [(.list (List.map A5 p1)),(i64 p2)] (bo r):=by
 refine C0 (fk func190 ntmps190 m0 (by with_unfolding_all rfl)) (nl W) ?_
 unfold Rh at h
 refine B5 (s0:=⟨T [(0,(.d _)),(1,(.d _))],G []⟩) (E3 W W) ?_
 refine B1<|sv W<|A1<|A4<|B1<|sv W<|A1<|js h fun z1 hz1 h=>D3 (fun s=> ∃(y1:Unit) (g1:Unit),z1= .inl y1∧Sb ⟨T [],G []⟩ s) ?_ ?_
 refine A9<|D7 (Nl p1 p2) (fun (x1:Int) (g2:Unit)=>⟨T [(0,(dl A5 p1)),(1,(di p2)),(5,(di x1))],G []⟩) 0 () _ hz1 (E3 W W) ?_
 intro x1 g2 z2 hz2 ez2
 unfold Nl at hz2
 refine A4<|B1<|sv W<|sv W<|sd W (D0 W)<|sv W<|A1<|cc W hz2 (fun c1 hz2=> ?_)<|fun c1 hz2=> ?_
 refine A8<|A4<|A9<|B1<|sv W<|sv W<|bs hz2 fun _ hv1 hz2=>sd W (C5 W W hv1 W)<|sd W (D1 W hv1 W)<|sv W<|sv W<|A1<|cc W hz2 (fun c2 hz2=> ?_)<|fun c2 hz2=> ?_
 refine B1<|sv W<|A1<|B2 ?_
 cases hz2
 obtain rfl:=ez2 _ rfl
 refine ⟨nofun,E5 ?_⟩
 rw [bT]at h
 cases h
 exact A7 (.inr W) (B4 (B3 W) B8) (.refl _)
 refine A8<|D4<|C1<|sv W<|sv W<|sv W<|A1<|D6 ?_
 cases hz2
 exact ⟨W,(),(E3 W W)⟩
 refine C6 W ?_
 cases hz2
 obtain rfl:=ez2 _ rfl
 refine ⟨nofun,C3 W<|T4 ?_⟩
 exact ⟨_,(),W,(E3 W W)⟩
 rintro _ ⟨y1,g1,rfl,q1⟩
 rw [bS]at h
 refine B5 q1<|B1<|sv W<|A1<|B2 ?_
 cases h
 exact A7 (.inr W) (B4 (B3 W) B8) (.refl _)
def Ht [Lp](p1:Map)(p2:Int)(x1:((List Int)×Int)):Option (Stp ((List Int)×Int) (List Int)):=
  cond (decide (x1.2< (p1.Lanes.length:Int))) ((C8 p1.Lanes x1.2).bind fun v1=>(Rh v1.Next p2).bind fun v2=>cond v2 ((Fk x1.1 [x1.2]).bind fun v3=>some (.go (v3,(C9 (x1.2+1))))) (some (.go (x1.1,(C9 (x1.2+1)))))) (some (.out x1.1))
def Nm [Lp](p1:Map)(p2:Int):Option (List Int):=
  (loop (Ht p1 p2) ([],0)).bind fun y1=>some y1
theorem GL(p1 p2 r)(h:Nm p1 p2=some r):PCall prog 189 [(.agg (O8 p1)),(i64 p2)] (.list (List.map A5 r)):=by
 refine C0 (fk func189 ntmps189 (fun r=>if r==6 then [1002]else []) (by with_unfolding_all rfl)) (nl W) ?_
 unfold Nm at h
 refine B5 (s0:=⟨T [(0,(.d _)),(1,(.d _))],G []⟩) (E3 W W) ?_
 refine lr<|fun u1 _=>sm W<|sv W<|A1<|B1<|sv W<|A1<|A4<|B1<|sv W<|A1<|bs h fun y1 hy1 h=>D3 (fun s=> ∃g1:Nat,Sb ⟨T [(5,(oS y1 (25,g1)))],G [((25,g1),oB 3 1 A5 y1)]⟩ s) ?_ ?_
 refine A9<|D7 (Ht p1 p2) (fun (x1:((List Int)×Int)) (g2:Nat)=>⟨T [(1,(di p2)),(2,(.ptr (2,u1) 0)),(5,(oS x1.1 (25,g2))),(6,(di x1.2))],G [((2,u1),some<|.box 33 (K7 p1)),((25,g2),oB 3 1 A5 x1.1)]⟩) ([],0) 0 _ hy1 (D2 (X5 W)<|B6 G_hit (.of W)<|O9 trivial) ?_
 intro x1 g2 z1 hz1 ez1
 unfold Ht at hz1
 refine A4<|B1<|sv W<|sq W<|sl W G_hit W<|sd W (D0 W)<|sv W<|A1<|cc W hz1 (fun c1 hz1=> ?_)<|fun c1 hz1=> ?_
 refine A8<|A4<|A9<|B1<|sq W<|sl W G_hit W<|sv W<|bs hz1 fun _ hv1 hz1=>sd W (C5 W W hv1 W)<|sv W<|sd W (D1 W hv1 W)<|sv W<|bs hz1 fun _ hv2 hz1=>B0 W W A2 (DH _ _ _ hv2) (.inl W) (A1<|cc W hz1 (fun c2 hz1=> ?_)<|fun c2 hz1=> ?_)
 refine Be fun u6 _=>B9 (oS x1.1 (25,g2)) W W (sv W<|B9 (dl A5 [x1.2]) W W (bs hz1 fun _ hv3 hz1=>O1 A5 (25,g2) x1.1 x1.2 [] _ (M0<|fun _=>W) W (gq W) hv3 (ss W<|A1<|D4<|C1<|sv W<|sv W<|sv W<|A1<|D6 ?_)))
 cases hz1
 exact ⟨W,u6,(D2 ⟨.of W, .of W,(.of (S5<|T0 hv3).symm), .of W,trivial⟩<|sg W<|L9 G_hit trivial)⟩
 refine A8<|D4<|C1<|sv W<|sv W<|sv W<|A1<|D6 ?_
 cases hz1
 exact ⟨W,g2,(D2 (X5 W)<|B6 G_hit (.of W)<|B7 (gq W) trivial)⟩
 refine C6 W ?_
 cases hz1
 obtain rfl:=ez1 _ rfl
 refine ⟨nofun,C3 W<|T4 ?_⟩
 exact ⟨g2,(D2 ⟨.of W,trivial⟩<|B7 (gq W) trivial)⟩
 rintro _ ⟨g1,q1⟩
 refine B5 q1<|B1<|B9 (oS y1 (25,g1)) W W (B9 (oS y1 (25,g1)) W W (A1<|B2 ?_))
 cases h
 exact A7 (.inr W) (B4 (B3 W)<|U4 G_hit) U3
def V9 [Lp](p1:Map)(p2:(List Int))(x1:Int):Option (Stp Int (Sum Unit Int)):=
  cond (decide (x1< (p2.length:Int))) ((C8 p2 (C9 (x1 - 1))).bind fun v6=>(C8 p1.Lanes v6).bind fun v7=>(C8 p2 x1).bind fun v8=>(Rh v7.Next v8).bind fun v9=>cond (!v9) (some (.out (.inr 13))) (some (.go (C9 (x1+1))))) (some (.out (.inl ())))
def Ao [Lp](p1:Map)(p2:(List Int)):Option Int:=
  (Jj p1).bind fun v1=>cond (v1 !=0) (some v1) (((cond (!(((p2.length:Int)==0)||(decide ((p2.length:Int)>8)))) (C8 p2 0) (some default))).bind fun v2=>((cond (!((((p2.length:Int)==0)||(decide ((p2.length:Int)>8)))||(decide (v2<0)))) (C8 p2 0) (some default))).bind fun v3=>((cond (!(((((p2.length:Int)==0)||(decide ((p2.length:Int)>8)))||(decide (v2<0)))||(decide (v3≥(p1.Lanes.length:Int))))) (C8 p2 0) (some default))).bind fun v4=>((cond (!(((((p2.length:Int)==0)||(decide ((p2.length:Int)>8)))||(decide (v2<0)))||(decide (v3≥(p1.Lanes.length:Int))))) (Nm p1 v4) (some default))).bind fun v5=>cond ((((((p2.length:Int)==0)||(decide ((p2.length:Int)>8)))||(decide (v2<0)))||(decide (v3≥(p1.Lanes.length:Int))))||(decide ((v5.length:Int)>0))) (some 13) (thenS (loop (V9 p1 p2) 1) (fun _=>some 0) (fun r=>some r)))
theorem Ks(p1 p2 r)(h:Ao p1 p2=some r):PCall prog 102 [(.agg (O8 p1)),(.list (List.map A5 p2))] (i64 r):=by
 refine C0 (fk func102 ntmps102 m0 (by with_unfolding_all rfl)) (nl W) ?_
 unfold Ao at h
 refine B5 (s0:=⟨T [(0,(.d _)),(1,(.d _))],G []⟩) (E3 W W) ?_
 refine lr<|fun u1 _=>sm W<|sv W<|A1<|B1<|sd W (A6 W G_hit W W)<|bs h fun _ hv1 h=>B0 W W A2 (Sh _ _ hv1) (.inl W) (sv W<|A1<|A4<|B1<|sv W<|sv W<|A1<|cc W h (fun c1 h=> ?_)<|fun c1 h=> ?_)
 refine B1<|sv W<|sv W<|A1<|B2 ?_
 cases h
 exact A7 (.inr W) (B4 (B3 W) B8) (.refl _)
 refine A8<|A4<|A4<|D5 W<|sv W<|sd W (D0 W)<|sv W<|sv W<|gf W (fun _=>W)<|gf W (fun w2=>(D0<|A3 w2))<|gf W (vb W W W)<|sd W (L8 W W<|fun hc=>A3<|G0 hc)<|sv W<|gf W (fun _=>W)<|bs h fun _ hv2 h=>gf W (fun w5=>(C5 (A3 w5) W (C2 w5 hv2) W))<|gf W (fun w6=>(D1 (A3 w6) (C2 w6 hv2) W))<|gf W (vb W W W)<|sd W (L8 W W<|fun hc=>A3<|G0 hc)<|sv W<|gf W (fun _=>W)<|bs h fun _ hv3 h=>gf W (fun w9=>(C5 (A3 w9) W (C2 w9 hv3) W))<|gf W (fun w10=>(D1 (A3 w10) (C2 w10 hv3) W))<|gp W (H8 W) (fun _=>W) (gf W (vl W G_hit W)<|gf W (fun w13=>(D0<|A3 w13))<|gf W (fun w14=>(L4 (A3 w14) (A3 w14) W))<|sd W (L8 W W<|fun hc=>A3<|G0 hc)<|sv W<|gf W (fun _=>(A6 W G_hit W W))<|gf W (fun _=>W)<|bs h fun v4 hv4 h=>gf W (fun w17=>(C5 (A3 w17) W (C2 w17 hv4) W))<|gf W (fun w18=>(D1 (A3 w18) (C2 w18 hv4) W))<|bs h fun v5 hv5 h=> ?_)
 refine I9 _ (.list (List.map A5 v5)) (H8 W) (fun w19=>⟨_,[(.d (.agg (O8 p1))),(di v4)],_,_,(by simp only [A3 w19];rfl),W,A2,GL _ _ _<|C2 w19 hv5,(.inl W)⟩) ?_
 refine gf W (fun w20=>(D0<|A3 w20))<|gf W (vb W W W)<|sd W (L8 W W<|fun hc=>A3<|G0 hc)<|A1<|cc W h (fun c2 h=> ?_)<|fun c2 h=> ?_
 refine B1<|sv W<|A1<|B2 ?_
 cases h
 exact A7 (.inr W) (B4 (B3 W) B8) (.refl _)
 refine A8<|A4<|B1<|sv W<|A1<|js h fun z1 hz1 h=>D3 (fun s=> ∃(y1:Unit) (g1:Unit),z1= .inl y1∧Sb ⟨T [],G []⟩ s) ?_ ?_
 refine A9<|D7 (V9 p1 p2) (fun (x1:Int) (g2:Unit)=>⟨T [(1,(dl A5 p2)),(2,(.ptr (2,u1) 0)),(6,(di x1))],G [((2,u1),some<|.box 33 (K7 p1))]⟩) 1 () _ hz1 (E3 W W) ?_
 intro x1 g2 z2 hz2 ez2
 unfold V9 at hz2
 refine A4<|B1<|sv W<|sv W<|sd W (D0 W)<|sv W<|A1<|cc W hz2 (fun c3 hz2=> ?_)<|fun c3 hz2=> ?_
 refine A8<|A4<|A9<|A4<|D5 W<|sq W<|sl W G_hit W<|sv W<|sv W<|sv W<|bs hz2 fun _ hv6 hz2=>sd W (C5 W W hv6 W)<|sd W (D1 W hv6 W)<|bs hz2 fun _ hv7 hz2=>sd W (C5 W W hv7 W)<|sv W<|sd W (D1 W hv7 W)<|sv W<|sv W<|bs hz2 fun _ hv8 hz2=>sd W (C5 W W hv8 W)<|sd W (D1 W hv8 W)<|bs hz2 fun v9 hv9 hz2=>B0 W W A2 (DH _ _ _ hv9) (.inl W) (B9 (.d (bo (!v9))) W W (A1<|cc W hz2 (fun c4 hz2=> ?_)<|fun c4 hz2=> ?_))
 refine B1<|sv W<|A1<|B2 ?_
 cases hz2
 obtain rfl:=ez2 _ rfl
 refine ⟨nofun,E5 ?_⟩
 rw [bT]at h
 cases h
 exact A7 (.inr W) (B4 (B3 W) B8) (.refl _)
 refine A8<|D4<|C1<|sv W<|sv W<|sv W<|A1<|D6 ?_
 cases hz2
 exact ⟨W,(),(E3 W W)⟩
 refine C6 W ?_
 cases hz2
 obtain rfl:=ez2 _ rfl
 refine ⟨nofun,C3 W<|T4 ?_⟩
 exact ⟨_,(),W,(E3 W W)⟩
 rintro _ ⟨y1,g1,rfl,q1⟩
 rw [bS]at h
 refine B5 q1<|B1<|sv W<|A1<|B2 ?_
 cases h
 exact A7 (.inr W) (B4 (B3 W) B8) (.refl _)
def Ke [Lp](p1:Map)(p2:Int):Option Int:=
  (C8 p1.Lanes p2).bind fun v1=>(Ca v1.Curve_).bind fun v2=>some v2
theorem Wa(p1 p2 r)(h:Ke p1 p2=some r):PCall prog 195 [(.agg (O8 p1)),(i64 p2)] (i64 r):=by
 refine C0 (fk func195 ntmps195 m0 (by with_unfolding_all rfl)) (nl W) ?_
 unfold Ke at h
 refine B5 (s0:=⟨T [(0,(.d _)),(1,(.d _))],G []⟩) (E3 W W) ?_
 refine B1<|sm W<|sv W<|A1<|B1<|sq W<|sl W G_hit W<|sv W<|bs h fun _ hv1 h=>sd W (C5 W W hv1 W)<|sv W<|sd W (C7 W hv1 W W)<|bs h fun _ hv2 h=>B0 W W A2 (Lu _ _ hv2) (.inl W) (sv W<|A1<|B2 ?_)
 cases h
 exact A7 (.inr W) (B4 (B3 W) B8) (.refl _)
def Bq [Lp](p1:Map)(p2:(List Int))(x1:((List Int)×Int×Int)):Option (Stp ((List Int)×Int×Int) ((List Int)×Int)):=
  cond (decide (x1.2.2< (p2.length:Int))) ((Fk x1.1 [x1.2.1]).bind fun v1=>(C8 p2 x1.2.2).bind fun v2=>(Ke p1 v2).bind fun v3=>some (.go (v1,(C9 (x1.2.1+v3)),(C9 (x1.2.2+1))))) (some (.out (x1.1,x1.2.1)))
def Kf [Lp](p1:Map)(p2:(List Int)):Option ((List Int)×Int):=
  (loop (Bq p1 p2) ([],0,0)).bind fun y1=>some (y1.1,y1.2)
theorem Wb(p1 p2 r)(h:Kf p1 p2=some r):PCall prog 186 [(.agg (O8 p1)),(.list (List.map A5 p2))] (.tup [(.list (List.map A5 r.1)),(i64 r.2)]):=by
 refine C0 (fk func186 ntmps186 (fun r=>if r==6 then [1002]else []) (by with_unfolding_all rfl)) (nl W) ?_
 unfold Kf at h
 refine B5 (s0:=⟨T [(0,(.d _)),(1,(.d _))],G []⟩) (E3 W W) ?_
 refine lr<|fun u1 _=>sm W<|sv W<|sv W<|A1<|B1<|sv W<|A1<|B1<|sv W<|A1<|A4<|B1<|sv W<|A1<|bs h fun y1 hy1 h=>D3 (fun s=> ∃g1:Nat,Sb ⟨T [(6,(oS y1.1 (18,g1))),(7,(di y1.2))],G [((18,g1),oB 2 1 A5 y1.1)]⟩ s) ?_ ?_
 refine A9<|D7 (Bq p1 p2) (fun (x1:((List Int)×Int×Int)) (g2:Nat)=>⟨T [(1,(dl A5 p2)),(2,(.ptr (2,u1) 0)),(6,(oS x1.1 (18,g2))),(7,(di x1.2.1)),(8,(di x1.2.2))],G [((2,u1),some<|.box 33 (K7 p1)),((18,g2),oB 2 1 A5 x1.1)]⟩) ([],0,0) 0 _ hy1 (D2 (X5 W)<|B6 G_hit (.of W)<|O9 trivial) ?_
 intro x1 g2 z1 hz1 ez1
 unfold Bq at hz1
 refine A4<|B1<|sv W<|sv W<|sd W (D0 W)<|sv W<|A1<|cc W hz1 (fun c1 hz1=> ?_)<|fun c1 hz1=> ?_
 refine A8<|A4<|A9<|lr<|fun u6 _=>B9 (oS x1.1 (18,g2)) W W (sv W<|B9 (dl A5 [x1.2.1]) W W (bs hz1 fun _ hv1 hz1=>O1 A5 (18,g2) x1.1 x1.2.1 [] _ (M0<|fun _=>W) W (gq W) hv1 (ss W<|A1<|D5 W<|sv W<|sd W (A6 W (gq W) W W)<|sv W<|sv W<|bs hz1 fun _ hv2 hz1=>sd W (C5 W W hv2 W)<|sd W (D1 W hv2 W)<|bs hz1 fun _ hv3 hz1=>B0 W W A2 (Wa _ _ _ hv3) (.inl W) (sv W<|sv W<|A1<|D4<|C1<|sv W<|sv W<|sv W<|A1<|D6 ?_))))
 cases hz1
 exact ⟨W,u6,(D2 ⟨.of W, .of W,(.of (S5<|T0 hv1).symm), .of W, .of W,trivial⟩<|sg W<|L9 G_hit trivial)⟩
 refine C6 W ?_
 cases hz1
 obtain rfl:=ez1 _ rfl
 refine ⟨nofun,C3 W<|T4 ?_⟩
 exact ⟨g2,(D2 (X5 W)<|B7 (gq W) trivial)⟩
 rintro _ ⟨g1,q1⟩
 refine B5 q1<|B1<|B9 (oS y1.1 (18,g1)) W W (sv W<|B9 (oS y1.1 (18,g1)) W W (sv W<|A1<|B2 ?_))
 cases h
 exact A7 (.inr W) (Iz (B3 W) (B3 W) (U4 G_hit) B8) (.tup (.cons U3 A2))
def W1 [Lp](p1:Map)(p2:(List Int)):Option Int:=
  (Ao p1 p2).bind fun v1=>cond (v1 !=0) (some 0) ((Kf p1 p2).bind fun v2=>some v2.2)
theorem El(p1 p2 r)(h:W1 p1 p2=some r):PCall prog 97 [(.agg (O8 p1)),(.list (List.map A5 p2))] (i64 r):=by
 refine C0 (fk func97 ntmps97 m0 (by with_unfolding_all rfl)) (nl W) ?_
 unfold W1 at h
 refine B5 (s0:=⟨T [(0,(.d _)),(1,(.d _))],G []⟩) (E3 W W) ?_
 refine B1<|sm W<|sv W<|A1<|A4<|B1<|sd W (A6 W G_hit W W)<|sv W<|bs h fun _ hv1 h=>B0 W W A2 (Ks _ _ _ hv1) (.inl W) (sv W<|A1<|cc W h (fun c1 h=> ?_)<|fun c1 h=> ?_)
 refine B1<|sv W<|A1<|B2 ?_
 cases h
 exact A7 (.inr W) (B4 (B3 W) B8) (.refl _)
 refine A8<|B1<|sd W (A6 W G_hit W W)<|sv W<|bs h fun _ hv2 h=>B0 W W A2 (Wb _ _ _ hv2) (.inl W) (sv W<|sv W<|sv W<|sv W<|sv W<|A1<|B1<|sv W<|sv W<|A1<|B2 ?_)
 cases h
 exact A7 (.inr W) (B4 (B3 W) B8) (.refl _)
def Ha [Lp](p1:Map)(p2:(List Int)):Option (List Int):=
  (Ao p1 p2).bind fun v1=>cond (v1 !=0) (some []) ((Kf p1 p2).bind fun v2=>some v2.1)
theorem Qh(p1 p2 r)(h:Ha p1 p2=some r):PCall prog 96 [(.agg (O8 p1)),(.list (List.map A5 p2))] (.list (List.map A5 r)):=by
 refine C0 (fk func96 ntmps96 m0 (by with_unfolding_all rfl)) (nl W) ?_
 unfold Ha at h
 refine B5 (s0:=⟨T [(0,(.d _)),(1,(.d _))],G []⟩) (E3 W W) ?_
 refine B1<|sm W<|sv W<|A1<|A4<|B1<|sd W (A6 W G_hit W W)<|sv W<|bs h fun _ hv1 h=>B0 W W A2 (Ks _ _ _ hv1) (.inl W) (sv W<|A1<|cc W h (fun c1 h=> ?_)<|fun c1 h=> ?_)
 refine B1<|sv W<|A1<|B2 ?_
 cases h
 exact A7 (.inr W) (B4 (B3 W) B8) DLe.nil
 refine A8<|B1<|sd W (A6 W G_hit W W)<|sv W<|bs h fun _ hv2 h=>B0 W W A2 (Wb _ _ _ hv2) (.inl W) (sv W<|sv W<|sv W<|sv W<|sv W<|A1<|B1<|sv W<|sv W<|A1<|B2 ?_)
 cases h
 exact A7 (.inr W) (B4 (B3 W) B8) (.refl _)
def Ew (p2:Agent)(v1:(List Int))(x1:(Int×Int)):Option (Stp (Int×Int) Int):=
  cond (decide (x1.2< (v1.length:Int))) ((C8 v1 x1.2).bind fun v2=>cond (decide (v2≤p2.S)) (some (.go (x1.2,(C9 (x1.2+1))))) (some (.go (x1.1,(C9 (x1.2+1)))))) (some (.out x1.1))
def Si [Lp](p1:Map)(p2:Agent):Option (Int×Int):=
  (Ha p1 p2.Route).bind fun v1=>(loop (Ew p2 v1) (0,0)).bind fun y1=>(C8 p2.Route y1).bind fun v3=>(C8 v1 y1).bind fun v4=>some (v3,(C9 (p2.S - v4)))
theorem KU(p1 p2 r)(h:Si p1 p2=some r):PCall prog 168 [(.agg (O8 p1)),(.agg (E4 p2))] (.tup [(i64 r.1),(i64 r.2)]):=by
 refine C0 (fk func168 ntmps168 m0 (by with_unfolding_all rfl)) (nl W) ?_
 unfold Si at h
 refine B5 (s0:=⟨T [(0,(.d _)),(1,(.d _))],G []⟩) (E3 W W) ?_
 refine lr<|fun u1 _=>sm W<|sm W<|sv W<|sv W<|A1<|B1<|sd W (A6 W (gq W) W W)<|sq W<|sl W G_hit W<|bs h fun v1 hv1 h=>B0 W W A2 (Qh _ _ _ hv1) (.inl W) (sv W<|A1<|B1<|sv W<|A1<|A4<|B1<|sv W<|A1<|bs h fun y1 hy1 h=>D3 (fun s=> ∃g1:Unit,Sb ⟨T [(3,(.ptr (3,u1) 0)),(6,(dl A5 v1)),(7,(di y1))],G [((3,u1),some<|.box 45 (W9 p2))]⟩ s) ?_ ?_)
 refine A9<|D7 (Ew p2 v1) (fun (x1:(Int×Int)) (g2:Unit)=>⟨T [(3,(.ptr (3,u1) 0)),(6,(dl A5 v1)),(7,(di x1.1)),(8,(di x1.2))],G [((3,u1),some<|.box 45 (W9 p2))]⟩) (0,0) () _ hy1 (E3 W W) ?_
 intro x1 g2 z1 hz1 ez1
 unfold Ew at hz1
 refine A4<|B1<|sv W<|sv W<|sd W (D0 W)<|sv W<|A1<|cc W hz1 (fun c1 hz1=> ?_)<|fun c1 hz1=> ?_
 refine A8<|A4<|A9<|A4<|D5 W<|sv W<|sv W<|bs hz1 fun _ hv2 hz1=>sd W (C5 W W hv2 W)<|sd W (D1 W hv2 W)<|sq W<|sl W G_hit W<|sv W<|A1<|cc W hz1 (fun c2 hz1=> ?_)<|fun c2 hz1=> ?_
 refine C1<|sv W<|sv W<|A1<|D4<|C1<|sv W<|sv W<|sv W<|A1<|D6 ?_
 cases hz1
 exact ⟨W,(),(E3 W W)⟩
 refine A8<|D4<|C1<|sv W<|sv W<|sv W<|A1<|D6 ?_
 cases hz1
 exact ⟨W,(),(E3 W W)⟩
 refine C6 W ?_
 cases hz1
 obtain rfl:=ez1 _ rfl
 refine ⟨nofun,C3 W<|T4 ?_⟩
 exact ⟨(),(E3 W W)⟩
 rintro _ ⟨g1,q1⟩
 refine B5 q1<|A4<|D5 W<|sq W<|sl W G_hit W<|sv W<|bs h fun _ hv3 h=>sd W (C5 W W hv3 W)<|sd W (D1 W hv3 W)<|sq W<|sl W G_hit W<|sv W<|sv W<|bs h fun _ hv4 h=>sd W (C5 W W hv4 W)<|sd W (D1 W hv4 W)<|sv W<|sv W<|sv W<|A1<|B2 ?_
 cases h
 exact A7 (.inr W) (Iz (B3 W) (B3 W) B8 B8) (.refl _)
def Sj [Lp](p1:Map)(p2:Agent):Option Bool:=
  (W1 p1 p2.Route).bind fun v1=>some (decide ((C9 (p2.S - p2.Len))>v1))
theorem KV(p1 p2 r)(h:Sj p1 p2=some r):PCall prog 169 [(.agg (O8 p1)),(.agg (E4 p2))] (bo r):=by
 refine C0 (fk func169 ntmps169 m0 (by with_unfolding_all rfl)) (nl W) ?_
 unfold Sj at h
 refine B5 (s0:=⟨T [(0,(.d _)),(1,(.d _))],G []⟩) (E3 W W) ?_
 refine B1<|sm W<|sn W W<|sv W<|A1<|A4<|D5 W<|sq W<|sl W G_hit W<|sq W<|sl W G_hit W<|sv W<|sd W (A6 W (gq W) W W)<|sq W<|sl W G_hit W<|bs h fun _ hv1 h=>B0 W W A2 (El _ _ _ hv1) (.inl W) (sv W<|sv W<|A1<|B2 ?_)
 cases h
 exact A7 (.inr W) (B4 (B3 W) B8) (.refl _)
def Fx [Lp](p1:Map)(p2:State)(p3:Int):Option Int:=
  (C8 p2.Agents p3).bind fun v1=>(Ao p1 v1.Route).bind fun v2=>cond (v2 !=0) (some 13) (((cond (!(((((decide (v1.Len<300))||(decide (v1.Len>20000)))||(decide (v1.Begin<0)))||(decide (v1.Begin>1099511627776)))||(decide (v1.S<0)))) (W1 p1 v1.Route) (some default))).bind fun v3=>cond ((((((decide (v1.Len<300))||(decide (v1.Len>20000)))||(decide (v1.Begin<0)))||(decide (v1.Begin>1099511627776)))||(decide (v1.S<0)))||(decide (v1.S>(C9 ((C9 (v3+v1.Len))+2000))))) (some 2) ((Si p1 v1).bind fun v4=>(C8 p1.Lanes v4.1).bind fun v5=>(Gy v5.Kind).bind fun v6=>cond ((decide (v1.V<0))||(decide (v1.V>v6.1))) (some 2) ((Sj p1 v1).bind fun v7=>cond (((!(v1.Gone==v7))||((decide (v1.Begin>p2.Tick))&& (v1.S !=0)))||((p3==0)&& (v1.Begin !=0))) (some 10) (some 0))))
theorem Zq(p1 p2 p3 r)(h:Fx p1 p2 p3=some r):PCall prog 77 [(.agg (O8 p1)),(.agg (U5 p2)),(i64 p3)] (i64 r):=by
 refine C0 (fk func77 ntmps77 m0 (by with_unfolding_all rfl)) (nl W) ?_
 unfold Fx at h
 refine B5 (s0:=⟨T [(0,(.d _)),(1,(.d _)),(2,(.d _))],G []⟩) (E3 W W) ?_
 refine B1<|sm W<|sn W W<|sv W<|A1<|B1<|sq W<|sl W G_hit W<|sv W<|bs h fun v1 hv1 h=>sd W (C5 W W hv1 W)<|sd W (C7 W hv1 W W)<|sm W<|Q4 W G_hit (W9 v1) W (A1<|A4<|B1<|sd W (A6 W (gq W) W W)<|sq W<|sl W G_hit W<|bs h fun _ hv2 h=>B0 W W A2 (Ks _ _ _ hv2) (.inl W) (sv W<|A1<|cc W h (fun c1 h=> ?_)<|fun c1 h=> ?_))
 refine B1<|sv W<|A1<|B2 ?_
 cases h
 exact A7 (.inr W) (B4 (B3 W) B8) (.refl _)
 refine A8<|A4<|A4<|D5 W<|sq W<|sl W G_hit W<|sv W<|sv W<|gp W (H8 W) (fun _=>W) (gf W (vl W G_hit W)<|gf W (vb W W W)<|sd W (L8 W W<|fun hc=>A3<|G0 hc)<|sv W<|gp W (H8 W) (fun _=>W) (gf W (vl W G_hit W)<|gf W (vb W W W)<|sd W (L8 W W<|fun hc=>A3<|G0 hc)<|sv W<|gp W (H8 W) (fun _=>W) (gf W (vl W G_hit W)<|gf W (vb W W W)<|sd W (L8 W W<|fun hc=>A3<|G0 hc)<|sv W<|gp W (H8 W) (fun _=>W) (gf W (vl W G_hit W)<|gf W (vb W W W)<|sd W (L8 W W<|fun hc=>A3<|G0 hc)<|sv W<|gp W (H8 W) (fun _=>W) (gf W (vl W G_hit W)<|gf W (fun _=>(A6 W (gq W) W W))<|gp W (H8 W) (fun _=>W) (gf W (vl W G_hit W)<|bs h fun v3 hv3 h=> ?_))))))
 refine I9 _ (i64 v3) (H8 W) (fun w18=>⟨_,[(.d (.agg (O8 p1))),(dl A5 v1.Route)],_,_,(by simp only [A3 w18];rfl),W,A2,El _ _ _<|C2 w18 hv3,(.inl W)⟩) ?_
 refine gp W (H8 W) (fun _=>W) (gf W (vl W G_hit W)<|gf W (fun w21=>(L4 (A3 w21) (A3 w21) W))<|gf W (vb W W W)<|gf W (fun w23=>(L4 (A3 w23) (A3 w23) W))<|sd W (L8 W W<|fun hc=>A3<|G0 hc)<|A1<|cc W h (fun c2 h=> ?_)<|fun c2 h=> ?_)
 refine B1<|sv W<|A1<|B2 ?_
 cases h
 exact A7 (.inr W) (B4 (B3 W) B8) (.refl _)
 refine A8<|B1<|sd W (A6 W (gq W) W W)<|sd W (A6 W G_hit W W)<|bs h fun _ hv4 h=>B0 W W A2 (KU _ _ _ hv4) (.inl W) (sv W<|sv W<|sv W<|sv W<|sv W<|A1<|B1<|sq W<|sl W (gq W) W (sv W<|bs h fun _ hv5 h=>sd W (C5 W W hv5 W)<|sv W<|sd W (D1 W hv5 W)<|bs h fun _ hv6 h=>B0 W W A2 (Qf _ _ hv6) (.inl W) (sv W<|sv W<|sv W<|sv W<|sv W<|sv W<|sv W<|A1<|A4<|B1<|sq W<|sl W G_hit W<|sv W<|sv W<|gp W (H8 W) (fun _=>W) (gf W (vl W G_hit W)<|gf W (fun _=>W)<|gf W (fun w27=>(L4 (A3 w27) (A3 w27) W))<|sd W (L8 W W<|fun hc=>A3<|G0 hc)<|A1<|cc W h (fun c3 h=> ?_)<|fun c3 h=> ?_))))
 refine B1<|sv W<|A1<|B2 ?_
 cases h
 exact A7 (.inr W) (B4 (B3 W) B8) (.refl _)
 refine A8<|A4<|A4<|D5 W<|sq W<|sl W G_hit W<|sd W (A6 W (gq W) W W)<|sd W (A6 W G_hit W W)<|bs h fun v7 hv7 h=>B0 W W A2 (KV _ _ _ hv7) (.inl W) (B9 (.d (bo (!(v1.Gone==v7)))) W W (sv W<|gp W (H8 W) (fun _=>W) (gf W (vl W G_hit W)<|gp W (H8 W) (fun _=>W) (gf W (vl W (gq W) W)<|gf W (fun w32=>(L4 (A3 w32) (A3 w32) W))<|gf W (fun w33=>(ED<|A3 w33))<|M5 _ (.ptr _ _) W (O2 W) (fun _=>W) (gv W (O2 W) (vl W G_hit W) (gv W (O2 W) (vb W W W) (gf W (fun w37=>(Uh (A3 w37) (fun hc=>A3<|Ui w37 hc) W))<|sd W (L8 W W<|fun hc=>A3<|G0 hc)<|sv W<|gf W (fun _=>W)<|gf W (vb W W W)<|gf W (fun w40=>(ED<|A3 w40))<|M5 _ (.ptr _ _) W (O2 W) (fun _=>W) (gv W (O2 W) (vl W G_hit W) (gv W (O2 W) (vb W W W) (gf W (fun w44=>(Uh (A3 w44) (fun hc=>A3<|Ui w44 hc) W))<|sd W (L8 W W<|fun hc=>A3<|G0 hc)<|A1<|cc W h (fun c4 h=> ?_)<|fun c4 h=> ?_))))))))))
 refine B1<|sv W<|A1<|B2 ?_
 cases h
 exact A7 (.inr W) (B4 (B3 W) B8) (.refl _)
 refine A8<|B1<|sv W<|A1<|B2 ?_
 cases h
 exact A7 (.inr W) (B4 (B3 W) B8) (.refl _)
def Fy (p2:State)(x3:Int):Option (Stp Int (Sum Unit Int)):=
  cond (decide (x3< (p2.In.length:Int))) ((C8 p2.In x3).bind fun v7=>cond ((((decide (v7.Since<0))||(decide (v7.Since>p2.Tick)))||(decide (v7.Rank<0)))||(decide (v7.Rank>100))) (some (.out (.inr 2))) (some (.go (C9 (x3+1))))) (some (.out (.inl ())))
def Fz (p1:Map)(p2:State)(x2:Int):Option (Stp Int (Sum Unit Int)):=
  cond (decide (x2< (p2.In.length:Int))) ((C8 p2.In x2).bind fun v3=>cond ((((decide (v3.Agent_<0))||(decide (v3.Agent_≥(p2.Agents.length:Int))))||(decide (v3.Zone_<0)))||(decide (v3.Zone_≥(p1.Zones.length:Int)))) (some (.out (.inr 11))) (((cond (decide (x2>0)) (C8 p2.In (C9 (x2 - 1))) (some default))).bind fun v4=>((cond ((decide (x2>0))&& (!(decide (v3.Agent_<v4.Agent_)))) (C8 p2.In (C9 (x2 - 1))) (some default))).bind fun v5=>((cond (((decide (x2>0))&& (!(decide (v3.Agent_<v4.Agent_))))&& (v3.Agent_==v5.Agent_)) (C8 p2.In (C9 (x2 - 1))) (some default))).bind fun v6=>cond ((decide (x2>0))&& ((decide (v3.Agent_<v4.Agent_))||((v3.Agent_==v5.Agent_)&& (decide (v3.Zone_≤v6.Zone_))))) (some (.out (.inr 11))) (some (.go (C9 (x2+1)))))) (some (.out (.inl ())))
def Ga [Lp](p1:Map)(p2:State)(x1:Int):Option (Stp Int (Sum Unit Int)):=
  cond (decide (x1< (p2.Agents.length:Int))) ((Fx p1 p2 x1).bind fun v2=>cond (v2 !=0) (some (.out (.inr v2))) (some (.go (C9 (x1+1))))) (some (.out (.inl ())))
def Mp [Lp](p1:Map)(p2:State):Option Int:=
  (Jj p1).bind fun v1=>cond (v1 !=0) (some v1) (cond ((decide (p2.Tick<0))||(decide (p2.Tick>1099511627776))) (some 2) (cond ((p2.Agents.length:Int)==0) (some 6) (cond (decide ((p2.Agents.length:Int)>8)) (some 8) (thenS (loop (Ga p1 p2) 0) (fun _=>thenS (loop (Fz p1 p2) 0) (fun _=>thenS (loop (Fy p2) 0) (fun _=>some 0) (fun r=>some r)) (fun r=>some r)) (fun r=>some r)))))
theorem Yq(p1 p2 r)(h:Mp p1 p2=some r):PCall prog 25 [(.agg (O8 p1)),(.agg (U5 p2))] (i64 r):=by
 refine C0 (fk func25 ntmps25 m0 (by with_unfolding_all rfl)) (nl W) ?_
 unfold Mp at h
 refine B5 (s0:=⟨T [(0,(.d _)),(1,(.d _))],G []⟩) (E3 W W) ?_
 refine lr<|fun u1 _=>sm W<|sm W<|sv W<|A1<|B1<|sd W (A6 W (gq W) W W)<|bs h fun _ hv1 h=>B0 W W A2 (Sh _ _ hv1) (.inl W) (sv W<|A1<|A4<|B1<|sv W<|sv W<|A1<|cc W h (fun c1 h=> ?_)<|fun c1 h=> ?_)
 refine B1<|sv W<|sv W<|A1<|B2 ?_
 cases h
 exact A7 (.inr W) (B4 (B3 W) B8) (.refl _)
 refine A8<|A4<|B1<|sq W<|sl W G_hit W<|sv W<|sv W<|gp W (H8 W) (fun _=>W) (gf W (vl W G_hit W)<|gf W (vb W W W)<|sd W (L8 W W<|fun hc=>A3<|G0 hc)<|A1<|cc W h (fun c2 h=> ?_)<|fun c2 h=> ?_)
 refine B1<|sv W<|A1<|B2 ?_
 cases h
 exact A7 (.inr W) (B4 (B3 W) B8) (.refl _)
 refine A8<|A4<|B1<|sq W<|sl W G_hit W<|sd W (D0 W)<|sv W<|A1<|cc W h (fun c3 h=> ?_)<|fun c3 h=> ?_
 refine B1<|sv W<|A1<|B2 ?_
 cases h
 exact A7 (.inr W) (B4 (B3 W) B8) (.refl _)
 refine A8<|A4<|B1<|sq W<|sl W G_hit W<|sd W (D0 W)<|sv W<|A1<|cc W h (fun c4 h=> ?_)<|fun c4 h=> ?_
 refine B1<|sv W<|A1<|B2 ?_
 cases h
 exact A7 (.inr W) (B4 (B3 W) B8) (.refl _)
 refine A8<|A4<|B1<|sv W<|A1<|js h fun z1 hz1 h=>D3 (fun s=> ∃(y1:Unit) (g1:Unit),z1= .inl y1∧Sb ⟨T [(2,(.ptr (2,u1) 0)),(3,(.ptr (3,u1) 0))],G [((2,u1),some<|.box 33 (K7 p1)),((3,u1),some<|.box 25 (J8 p2))]⟩ s) ?_ ?_
 refine A9<|D7 (Ga p1 p2) (fun (x1:Int) (g2:Unit)=>⟨T [(2,(.ptr (2,u1) 0)),(3,(.ptr (3,u1) 0)),(6,(di x1))],G [((2,u1),some<|.box 33 (K7 p1)),((3,u1),some<|.box 25 (J8 p2))]⟩) 0 () _ hz1 (E3 W W) ?_
 intro x1 g2 z2 hz2 ez2
 unfold Ga at hz2
 refine A4<|B1<|sv W<|sq W<|sl W (gq W) W (sd W (D0 W)<|sv W<|A1<|cc W hz2 (fun c5 hz2=> ?_)<|fun c5 hz2=> ?_)
 refine A8<|A4<|A9<|B1<|sd W (A6 W G_hit W W)<|sd W (A6 W (gq W) W W)<|sv W<|bs hz2 fun _ hv2 hz2=>B0 W W A2 (Zq _ _ _ _ hv2) (.inl W) (sv W<|A1<|B1<|sv W<|sv W<|A1<|cc W hz2 (fun c6 hz2=> ?_)<|fun c6 hz2=> ?_)
 refine B1<|sv W<|sv W<|A1<|B2 ?_
 cases hz2
 obtain rfl:=ez2 _ rfl
 refine ⟨nofun,E5 ?_⟩
 rw [bT]at h
 cases h
 exact A7 (.inr W) (B4 (B3 W) B8) (.refl _)
 refine A8<|D4<|C1<|sv W<|sv W<|sv W<|A1<|D6 ?_
 cases hz2
 exact ⟨W,(),(E3 W W)⟩
 refine C6 W ?_
 cases hz2
 obtain rfl:=ez2 _ rfl
 refine ⟨nofun,C3 W<|T4 ?_⟩
 exact ⟨_,(),W,(E3 W W)⟩
 rintro _ ⟨y1,g1,rfl,q1⟩
 rw [bS]at h
 refine B5 q1<|A4<|B1<|sv W<|A1<|js h fun z3 hz3 h=>D3 (fun s=> ∃(y2:Unit) (g3:Unit),z3= .inl y2∧Sb ⟨T [(3,(.ptr (3,u1) 0))],G [((3,u1),some<|.box 25 (J8 p2))]⟩ s) ?_ ?_
 refine A9<|D7 (Fz p1 p2) (fun (x2:Int) (g4:Unit)=>⟨T [(2,(.ptr (2,u1) 0)),(3,(.ptr (3,u1) 0)),(7,(di x2))],G [((2,u1),some<|.box 33 (K7 p1)),((3,u1),some<|.box 25 (J8 p2))]⟩) 0 () _ hz3 (E3 W W) ?_
 intro x2 g4 z4 hz4 ez4
 unfold Fz at hz4
 refine A4<|B1<|sv W<|sq W<|sl W (gq W) W (sd W (D0 W)<|sv W<|A1<|cc W hz4 (fun c7 hz4=> ?_)<|fun c7 hz4=> ?_)
 refine A8<|A4<|A9<|B1<|sq W<|sl W (gq W) W (sv W<|bs hz4 fun v3 hv3 hz4=>sd W (C5 W W hv3 W)<|sd W (C7 W hv3 W W)<|sm W<|Q4 W G_hit (Vx v3) W (A1<|A4<|B1<|sq W<|sl W G_hit W<|sv W<|sv W<|gp W (H8 W) (fun _=>W) (gf W (vl W G_hit W)<|gp W (H8 W) (fun _=>W) (gf W (vl W (gq W) W)<|gf W (fun w8=>(D0<|A3 w8))<|gf W (fun w9=>(L4 (A3 w9) (A3 w9) W))<|sd W (L8 W W<|fun hc=>A3<|G0 hc)<|sv W<|gp W (H8 W) (fun _=>W) (gf W (vl W G_hit W)<|gf W (vb W W W)<|sd W (L8 W W<|fun hc=>A3<|G0 hc)<|sv W<|gp W (H8 W) (fun _=>W) (gf W (vl W G_hit W)<|gp W (H8 W) (fun _=>W) (gf W (vl W (gq W) W)<|gf W (fun w17=>(D0<|A3 w17))<|gf W (fun w18=>(L4 (A3 w18) (A3 w18) W))<|sd W (L8 W W<|fun hc=>A3<|G0 hc)<|A1<|cc W hz4 (fun c8 hz4=> ?_)<|fun c8 hz4=> ?_)))))))
 refine B1<|sv W<|A1<|B2 ?_
 cases hz4
 obtain rfl:=ez4 _ rfl
 refine ⟨nofun,E5 ?_⟩
 rw [bT]at h
 cases h
 exact A7 (.inr W) (B4 (B3 W) B8) (.refl _)
 refine A8<|A4<|D5 W<|sv W<|sv W<|sv W<|gp W (I8 W) (fun _=>W) (gt W (vl W G_hit W)<|gp W (I8 W) (fun _=>W) (gt W (vl W (gq W) W)<|gt W (fun _=>W)<|gt W (vb W W W)<|bs hz4 fun _ hv4 hz4=>gt W (fun w25=>(C5 (A3 w25) (A3 w25) (C2 w25 hv4) W)) ?_))
 refine gt W (fun w26=>(by simp only [A3 w26];rfl)) ?_
 refine gt W (fun w27=>(D1 (A3 w27) (C2 w27 hv4) W))<|gt W (fun w28=>(L4 (A3 w28) (A3 w28) W))<|gt W (fun w29=>(ED<|A3 w29))<|M5 _ (.ptr _ _) W (Vu W) (fun _=>W) (gv W (Vu W) (vl W G_hit W) (M5 _ (.ptr _ _) W (Vu W) (fun _=>W) (gv W (Vu W) (vl W (gq W) W) (gv W (Vu W) (fun _=>W) (gv W (Vu W) (vb W W W) (bs hz4 fun _ hv5 hz4=>gv W (Vu W) (fun w36=>(C5 (A3 w36) (A3 w36) (C2 w36 hv5) W)) ?_))))))
 refine gv W (Vu W) (fun w37=>(by simp only [A3 w37];rfl)) ?_
 refine gv W (Vu W) (fun w38=>(D1 (A3 w38) (C2 w38 hv5) W)) (gv W (Vu W) (fun w39=>(L4 (A3 w39) (A3 w39) W)) (gv W (Vu W) (fun w40=>(ED<|A3 w40)) (M5 _ (.ptr _ _) W (O2 W) (fun _=>W) (gv W (O2 W) (vl W G_hit W) (M5 _ (.ptr _ _) W (O2 W) (fun _=>W) (gv W (O2 W) (vl W (gq W) W) (gv W (O2 W) (fun _=>W) (gv W (O2 W) (vb W W W) (bs hz4 fun _ hv6 hz4=>gv W (O2 W) (fun w47=>(C5 (A3 w47) (A3 w47) (C2 w47 hv6) W)) ?_)))))))))
 refine gv W (O2 W) (fun w48=>(by simp only [A3 w48];rfl)) ?_
 refine gv W (O2 W) (fun w49=>(D1 (A3 w49) (C2 w49 hv6) W)) (gv W (O2 W) (fun w50=>(L4 (A3 w50) (A3 w50) W)) (gv W (Vu W) (fun w51=>(Uh (A3 w51) (fun hc=>A3<|Ui w51 hc) W)) (gt W (fun w52=>(L8 (A3 w52) W (fun hc=>A3<|Ui w52<|G0 hc)))<|sa W W W<|A1<|cc W hz4 (fun c9 hz4=> ?_)<|fun c9 hz4=> ?_)))
 refine B1<|sv W<|A1<|B2 ?_
 cases hz4
 obtain rfl:=ez4 _ rfl
 refine ⟨nofun,E5 ?_⟩
 rw [bT]at h
 cases h
 exact A7 (.inr W) (B4 (B3 W) B8) (.refl _)
 refine A8<|D4<|C1<|sv W<|sv W<|sv W<|A1<|D6 ?_
 cases hz4
 exact ⟨W,(),(E3 W W)⟩
 refine C6 W ?_
 cases hz4
 obtain rfl:=ez4 _ rfl
 refine ⟨nofun,C3 W<|T4 ?_⟩
 exact ⟨_,(),W,(E3 W W)⟩
 rintro _ ⟨y2,g3,rfl,q2⟩
 rw [bS]at h
 refine B5 q2<|A4<|B1<|sv W<|A1<|js h fun z5 hz5 h=>D3 (fun s=> ∃(y3:Unit) (g5:Unit),z5= .inl y3∧Sb ⟨T [],G []⟩ s) ?_ ?_
 refine A9<|D7 (Fy p2) (fun (x3:Int) (g6:Unit)=>⟨T [(3,(.ptr (3,u1) 0)),(9,(di x3))],G [((3,u1),some<|.box 25 (J8 p2))]⟩) 0 () _ hz5 (E3 W W) ?_
 intro x3 g6 z6 hz6 ez6
 unfold Fy at hz6
 refine A4<|B1<|sv W<|sq W<|sl W G_hit W<|sd W (D0 W)<|sv W<|A1<|cc W hz6 (fun c10 hz6=> ?_)<|fun c10 hz6=> ?_
 refine A8<|A4<|A9<|B1<|sq W<|sl W G_hit W<|sv W<|bs hz6 fun v7 hv7 hz6=>sd W (C5 W W hv7 W)<|sd W (C7 W hv7 W W)<|sm W<|Q4 W G_hit (Vx v7) W (A1<|B1<|sq W<|sl W G_hit W<|sv W<|sv W<|gp W (H8 W) (fun _=>W) (gf W (vl W G_hit W)<|gp W (H8 W) (fun _=>W) (gf W (vl W (gq W) W)<|gf W (fun w57=>(L4 (A3 w57) (A3 w57) W))<|sd W (L8 W W<|fun hc=>A3<|G0 hc)<|sv W<|gp W (H8 W) (fun _=>W) (gf W (vl W G_hit W)<|gf W (vb W W W)<|sd W (L8 W W<|fun hc=>A3<|G0 hc)<|sv W<|gp W (H8 W) (fun _=>W) (gf W (vl W G_hit W)<|gf W (vb W W W)<|sd W (L8 W W<|fun hc=>A3<|G0 hc)<|A1<|cc W hz6 (fun c11 hz6=> ?_)<|fun c11 hz6=> ?_)))))
 refine B1<|sv W<|A1<|B2 ?_
 cases hz6
 obtain rfl:=ez6 _ rfl
 refine ⟨nofun,E5 ?_⟩
 rw [bT]at h
 cases h
 exact A7 (.inr W) (B4 (B3 W) B8) (.refl _)
 refine A8<|D4<|C1<|sv W<|sv W<|sv W<|A1<|D6 ?_
 cases hz6
 exact ⟨W,(),(E3 W W)⟩
 refine C6 W ?_
 cases hz6
 obtain rfl:=ez6 _ rfl
 refine ⟨nofun,C3 W<|T4 ?_⟩
 exact ⟨_,(),W,(E3 W W)⟩
 rintro _ ⟨y3,g5,rfl,q3⟩
 rw [bS]at h
 refine B5 q3<|B1<|sv W<|A1<|B2 ?_
 cases h
 exact A7 (.inr W) (B4 (B3 W) B8) (.refl _)
def Nn (p3:Int)(v1:(List Int))(x1:(Int×Int)):Option (Stp (Int×Int) Int):=
  cond (decide (x1.2< (v1.length:Int))) ((C8 v1 x1.2).bind fun v3=>cond (decide (v3≤p3)) (some (.go (x1.2,(C9 (x1.2+1))))) (some (.go (x1.1,(C9 (x1.2+1)))))) (some (.out x1.1))
def Pr [Lp](p1:Map)(p2:(List Int))(p3:Int):Option (Int×Int×Bool):=
  (Ha p1 p2).bind fun v1=>((cond (!((decide (p3<0))||((v1.length:Int)==0))) (W1 p1 p2) (some default))).bind fun v2=>cond (((decide (p3<0))||((v1.length:Int)==0))||(decide (p3>v2))) (some (0,0,false)) ((loop (Nn p3 v1) (0,0)).bind fun y1=>(C8 p2 y1).bind fun v4=>(C8 v1 y1).bind fun v5=>some (v4,(C9 (p3 - v5)),true))
theorem IW(p1 p2 p3 r)(h:Pr p1 p2 p3=some r):PCall prog 38 [(.agg (O8 p1)),(.list (List.map A5 p2)),(i64 p3)] (.tup [(i64 r.1),(i64 r.2.1),(bo r.2.2)]):=by
 refine C0 (fk func38 ntmps38 m0 (by with_unfolding_all rfl)) (nl W) ?_
 unfold Pr at h
 refine B5 (s0:=⟨T [(0,(.d _)),(1,(.d _)),(2,(.d _))],G []⟩) (E3 W W) ?_
 refine B1<|sm W<|sv W<|sv W<|sv W<|A1<|B1<|sd W (A6 W G_hit W W)<|sv W<|bs h fun v1 hv1 h=>B0 W W A2 (Qh _ _ _ hv1) (.inl W) (sv W<|A1<|A4<|B1<|sv W<|sv W<|sv W<|gf W (fun _=>W)<|gf W (fun w2=>(D0<|A3 w2))<|gf W (vb W W W)<|sd W (L8 W W<|fun hc=>A3<|G0 hc)<|sv W<|gf W (fun _=>W)<|gf W (fun _=>(A6 W G_hit W W))<|gf W (fun _=>W)<|bs h fun v2 hv2 h=> ?_)
 refine I9 _ (i64 v2) (H8 W) (fun w7=>⟨_,[(.d (.agg (O8 p1))),(dl A5 p2)],_,_,(by simp only [A3 w7];rfl),W,A2,El _ _ _<|C2 w7 hv2,(.inl W)⟩) ?_
 refine gf W (fun w8=>(L4 (A3 w8) (A3 w8) W))<|sd W (L8 W W<|fun hc=>A3<|G0 hc)<|A1<|cc W h (fun c1 h=> ?_)<|fun c1 h=> ?_
 refine B1<|sv W<|sv W<|sv W<|A1<|B2 ?_
 cases h
 exact A7 (.inr W) (Ta (B3 W) (B3 W) (B3 W) B8 B8 B8) (.refl _)
 refine A8<|B1<|sv W<|A1<|A4<|B1<|sv W<|A1<|bs h fun y1 hy1 h=>D3 (fun s=> ∃g1:Unit,Sb ⟨T [(1,(dl A5 p2)),(2,(di p3)),(9,(dl A5 v1)),(10,(di y1))],G []⟩ s) ?_ ?_
 refine A9<|D7 (Nn p3 v1) (fun (x1:(Int×Int)) (g2:Unit)=>⟨T [(1,(dl A5 p2)),(2,(di p3)),(9,(dl A5 v1)),(10,(di x1.1)),(11,(di x1.2))],G []⟩) (0,0) () _ hy1 (E3 W W) ?_
 intro x1 g2 z1 hz1 ez1
 unfold Nn at hz1
 refine A4<|B1<|sv W<|sv W<|sd W (D0 W)<|sv W<|A1<|cc W hz1 (fun c2 hz1=> ?_)<|fun c2 hz1=> ?_
 refine A8<|A4<|A9<|B1<|sv W<|sv W<|bs hz1 fun _ hv3 hz1=>sd W (C5 W W hv3 W)<|sd W (D1 W hv3 W)<|sv W<|sv W<|A1<|cc W hz1 (fun c3 hz1=> ?_)<|fun c3 hz1=> ?_
 refine C1<|sv W<|sv W<|A1<|D4<|C1<|sv W<|sv W<|sv W<|A1<|D6 ?_
 cases hz1
 exact ⟨W,(),(E3 W W)⟩
 refine A8<|D4<|C1<|sv W<|sv W<|sv W<|A1<|D6 ?_
 cases hz1
 exact ⟨W,(),(E3 W W)⟩
 refine C6 W ?_
 cases hz1
 obtain rfl:=ez1 _ rfl
 refine ⟨nofun,C3 W<|T4 ?_⟩
 exact ⟨(),(E3 W W)⟩
 rintro _ ⟨g1,q1⟩
 refine B5 q1<|A4<|D5 W<|sv W<|sv W<|bs h fun _ hv4 h=>sd W (C5 W W hv4 W)<|sd W (D1 W hv4 W)<|sv W<|sv W<|sv W<|bs h fun _ hv5 h=>sd W (C5 W W hv5 W)<|sd W (D1 W hv5 W)<|sv W<|sv W<|sv W<|sv W<|A1<|B2 ?_
 cases h
 exact A7 (.inr W) (Ta (B3 W) (B3 W) (B3 W) B8 B8 B8) (.refl _)
def Bc (v1:(List Int))(x1:(Int×Int)):Option (Stp (Int×Int) (Sum Int (Int×Int))):=
  cond (decide (x1.2< (C9 ((v1.length:Int) - 1)))) ((C8 v1 x1.2).bind fun v3=>cond (decide (x1.1<v3)) (some (.out (.inr (x1.2,x1.1)))) ((C8 v1 x1.2).bind fun v4=>some (.go ((C9 (x1.1 - v4)),(C9 (x1.2+1)))))) (some (.out (.inl x1.1)))
def Ps [Lp](p1:Curve)(p2:Int):Option (Int×Int):=
  (Bz p1).bind fun v1=>cond ((v1.length:Int)==0) (some (0,0)) ((Ca p1).bind fun v2=>thenS (loop (Bc v1) ((He true 0 (He false p2 v2)),0)) (fun y1=>some ((C9 ((v1.length:Int) - 1)),y1)) (fun r=>some r))
theorem IX(p1 p2 r)(h:Ps p1 p2=some r):PCall prog 135 [(.agg [(.list (List.map Q3 p1.Pts))]),(i64 p2)] (.tup [(i64 r.1),(i64 r.2)]):=by
 refine C0 (fk func135 ntmps135 m0 (by with_unfolding_all rfl)) (nl W) ?_
 unfold Ps at h
 refine B5 (s0:=⟨T [(0,(.d _)),(1,(.d _))],G []⟩) (E3 W W) ?_
 refine B1<|sm W<|sv W<|sv W<|A1<|B1<|sd W (A6 W G_hit W W)<|bs h fun v1 hv1 h=>B0 W W A2 (Qg _ _ hv1) (.inl W) (sv W<|A1<|A4<|B1<|sv W<|sd W (D0 W)<|sv W<|A1<|cc W h (fun c1 h=> ?_)<|fun c1 h=> ?_)
 refine B1<|sv W<|sv W<|A1<|B2 ?_
 cases h
 exact A7 (.inr W) (Iz (B3 W) (B3 W) B8 B8) (.refl _)
 refine A8<|B1<|sv W<|sd W (A6 W G_hit W W)<|bs h fun v2 hv2 h=>B0 W W A2 (Lu _ _ hv2) (.inl W) (sv W<|sv W<|sv W<|A1<|A4<|B1<|sv W<|A1<|js h fun z1 hz1 h=>D3 (fun s=> ∃(y1:Int) (g1:Unit),z1= .inl y1∧Sb ⟨T [(1,(di y1)),(6,(dl A5 v1))],G []⟩ s) ?_ ?_)
 refine A9<|D7 (Bc v1) (fun (x1:(Int×Int)) (g2:Unit)=>⟨T [(1,(di x1.1)),(6,(dl A5 v1)),(7,(di x1.2))],G []⟩) ((He true 0<|He false p2 v2),0) () _ hz1 (E3 W W) ?_
 intro x1 g2 z2 hz2 ez2
 unfold Bc at hz2
 refine A4<|B1<|sv W<|sv W<|sd W (D0 W)<|sv W<|sv W<|A1<|cc W hz2 (fun c2 hz2=> ?_)<|fun c2 hz2=> ?_
 refine A8<|A4<|A9<|A4<|B1<|sv W<|sv W<|sv W<|bs hz2 fun _ hv3 hz2=>sd W (C5 W W hv3 W)<|sd W (D1 W hv3 W)<|sv W<|A1<|cc W hz2 (fun c3 hz2=> ?_)<|fun c3 hz2=> ?_
 refine B1<|sv W<|sv W<|sv W<|sv W<|A1<|B2 ?_
 cases hz2
 obtain rfl:=ez2 _ rfl
 refine ⟨nofun,E5 ?_⟩
 rw [bT]at h
 cases h
 exact A7 (.inr W) (Iz (B3 W) (B3 W) B8 B8) (.refl _)
 refine A8<|C1<|sv W<|sv W<|sv W<|bs hz2 fun _ hv4 hz2=>sd W (C5 W W hv4 W)<|sd W (D1 W hv4 W)<|sv W<|sv W<|A1<|D4<|C1<|sv W<|sv W<|sv W<|A1<|D6 ?_
 cases hz2
 exact ⟨W,(),(E3 W W)⟩
 refine C6 W ?_
 cases hz2
 obtain rfl:=ez2 _ rfl
 refine ⟨nofun,C3 W<|T4 ?_⟩
 exact ⟨_,(),W,(E3 W W)⟩
 rintro _ ⟨y1,g1,rfl,q1⟩
 rw [bS]at h
 refine B5 q1<|B1<|sv W<|sd W (D0 W)<|sv W<|sv W<|sv W<|sv W<|A1<|B2 ?_
 cases h
 exact A7 (.inr W) (Iz (B3 W) (B3 W) B8 B8) (.refl _)
def Pt (p1:Int)(p2:Int):Option Int:=
  (QE .i64 p1 p2).bind fun v1=>(Xr p1 p2).bind fun v2=>cond (decide (v2<0)) (some (C9 (v1 - 1))) (some v1)
theorem Yr(p1 p2 r)(h:Pt p1 p2=some r):PCall prog 137 [(i64 p1),(i64 p2)] (i64 r):=by
 refine C0 (fk func137 ntmps137 m0 (by with_unfolding_all rfl)) (nl W) ?_
 unfold Pt at h
 refine B5 (s0:=⟨T [(0,(.d _)),(1,(.d _))],G []⟩) (E3 W W) ?_
 refine B1<|sv W<|A1<|B1<|sv W<|sv W<|bs h fun _ hv1 h=>sd W (aS W W hv1)<|sv W<|A1<|A4<|B1<|sv W<|sv W<|bs h fun _ hv2 h=>sd W (CP W W hv2)<|sv W<|A1<|cc W h (fun c1 h=> ?_)<|fun c1 h=> ?_
 refine C1<|sv W<|sv W<|sv W<|A1<|B1<|sv W<|sv W<|A1<|B2 ?_
 cases h
 exact A7 (.inr W) (B4 (B3 W) B8) (.refl _)
 refine A8<|B1<|sv W<|sv W<|A1<|B2 ?_
 cases h
 exact A7 (.inr W) (B4 (B3 W) B8) (.refl _)
def No [Lp](p1:Curve)(p2:Int):Option Spot:=
  (Bz p1).bind fun v1=>cond ((v1.length:Int)==0) (some (Spot.mk 0 0)) ((Ps p1 p2).bind fun v2=>(C8 p1.Pts (C9 (v2.1+1))).bind fun v3=>(C8 p1.Pts v2.1).bind fun v4=>(Bb v3 v4).bind fun v5=>(C8 p1.Pts v2.1).bind fun v6=>(C8 v1 v2.1).bind fun v7=>(Pt (C9 (v5.X*v2.2)) v7).bind fun v8=>(C8 p1.Pts v2.1).bind fun v9=>(C8 v1 v2.1).bind fun v10=>(Pt (C9 (v5.Y*v2.2)) v10).bind fun v11=>some (Spot.mk (C9 (v6.X+v8)) (C9 (v9.Y+v11))))
theorem Th(p1 p2 r)(h:No p1 p2=some r):PCall prog 64 [(.agg [(.list (List.map Q3 p1.Pts))]),(i64 p2)] (.agg [(i64 r.X),(i64 r.Y)]):=by
 refine C0 (fk func64 ntmps64 m0 (by with_unfolding_all rfl)) (nl W) ?_
 unfold No at h
 refine B5 (s0:=⟨T [(0,(.d _)),(1,(.d _))],G []⟩) (E3 W W) ?_
 refine B1<|sm W<|sn W W<|A1<|B1<|sd W (A6 W (gq W) W W)<|bs h fun _ hv1 h=>B0 W W A2 (Qg _ _ hv1) (.inl W) (sv W<|A1<|A4<|B1<|sv W<|sd W (D0 W)<|sv W<|A1<|cc W h (fun c1 h=> ?_)<|fun c1 h=> ?_)
 refine B1<|sv W<|Q4 W G_hit [(di 0),(di 0)] W (A1<|B2 ?_)
 cases h
 exact A7 (.inr W) (B4 (G5 W G_hit (nl W) W) B8) (.refl _)
 refine A8<|B1<|sd W (A6 W (gq W) W W)<|sv W<|bs h fun _ hv2 h=>B0 W W A2 (IX _ _ _ hv2) (.inl W) (sv W<|sv W<|sv W<|sv W<|sv W<|A1<|A4<|D5 W<|sq W<|sl W (gq W) W (sv W<|sv W<|bs h fun _ hv3 h=>sd W (C5 W W hv3 W)<|sd W (C7 W hv3 W W)<|sq W<|sl W (gq W) W (sv W<|bs h fun _ hv4 h=>sd W (C5 W W hv4 W)<|sd W (C7 W hv4 W W)<|bs h fun v5 hv5 h=>B0 W W A2 (Db _ _ _ hv5) (.inl W) (sm W<|Q4 W G_hit [(di v5.X),(di v5.Y)] W (A1<|A4<|D5 W<|sq W<|sl W (gq W) W (sv W<|bs h fun v6 hv6 h=>sd W (C5 W W hv6 W)<|sv W<|sd W (D1 W hv6 W)<|sq W<|sl W G_hit W<|sv W<|sv W<|sv W<|sv W<|bs h fun _ hv7 h=>sd W (C5 W W hv7 W)<|sd W (D1 W hv7 W)<|bs h fun v8 hv8 h=>B0 W W A2 (Yr _ _ _ hv8) (.inl W) (sv W<|sq W<|sl W (gq W) W (sv W<|bs h fun v9 hv9 h=>sd W (C5 W W hv9 W)<|sv W ?_))))))))
 refine sd W (D1 W hv9 W)<|sq W<|sl W G_hit W<|sv W<|sv W<|sv W<|sv W<|bs h fun _ hv10 h=>sd W (C5 W W hv10 W)<|sd W (D1 W hv10 W)<|bs h fun v11 hv11 h=>B0 W W A2 (Yr _ _ _ hv11) (.inl W) (sv W<|sv W<|Q4 W (gq W) [(di<|C9 (v6.X+v8)),(di<|C9 (v9.Y+v11))] W (A1<|B2 ?_))
 cases h
 exact A7 (.inr W) (B4 (G5 W G_hit (nl W) W) B8) (.refl _)
def Jk [Lp](p1:Map)(p2:(List Int))(p3:Int):Option Spot:=
  (W1 p1 p2).bind fun v1=>(Pr p1 p2 (He true 0 (He false p3 v1))).bind fun v2=>(C8 p1.Lanes v2.1).bind fun v3=>(No v3.Curve_ v2.2.1).bind fun v4=>some v4
theorem Tw(p1 p2 p3 r)(h:Jk p1 p2 p3=some r):PCall prog 125 [(.agg (O8 p1)),(.list (List.map A5 p2)),(i64 p3)] (.agg [(i64 r.X),(i64 r.Y)]):=by
 refine C0 (fk func125 ntmps125 m0 (by with_unfolding_all rfl)) (nl W) ?_
 unfold Jk at h
 refine B5 (s0:=⟨T [(0,(.d _)),(1,(.d _)),(2,(.d _))],G []⟩) (E3 W W) ?_
 refine B1<|sm W<|sn W W<|A1<|A4<|D5 W<|sd W (A6 W (gq W) W W)<|sv W<|sv W<|sd W (A6 W (gq W) W W)<|sv W<|bs h fun _ hv1 h=>B0 W W A2 (El _ _ _ hv1) (.inl W) (sv W<|sv W<|bs h fun _ hv2 h=>B0 W W A2 (IW _ _ _ _ hv2) (.inl W) (sv W<|sv W<|sv W<|sv W<|sv W<|sv W<|sv W<|A1<|B1<|sq W<|sl W (gq W) W (sv W<|bs h fun _ hv3 h=>sd W (C5 W W hv3 W)<|sv W<|sd W (C7 W hv3 W W)<|sv W<|bs h fun v4 hv4 h=>B0 W W A2 (Th _ _ _ hv4) (.inl W) (Q4 W G_hit [(di v4.X),(di v4.Y)] W (A1<|B2 ?_)))))
 cases h
 exact A7 (.inr W) (B4 (G5 W G_hit (nl W) W) B8) (.refl _)
def Sk [Lp](p1:Map)(p2:Int):Option Bool:=
  ((cond ((decide (p2≥0))&& (decide (p2< (p1.Lanes.length:Int)))) (Jj p1) (some default))).bind fun v1=>some (((decide (p2≥0))&& (decide (p2< (p1.Lanes.length:Int))))&& (v1==0))
theorem KW(p1 p2 r)(h:Sk p1 p2=some r):PCall prog 98 [(.agg (O8 p1)),(i64 p2)] (bo r):=by
 refine C0 (fk func98 ntmps98 m0 (by with_unfolding_all rfl)) (nl W) ?_
 unfold Sk at h
 refine B5 (s0:=⟨T [(0,(.d _)),(1,(.d _))],G []⟩) (E3 W W) ?_
 refine B1<|sm W<|sv W<|A1<|B1<|sv W<|sv W<|sv W<|gt W (fun _=>W)<|gp W (I8 W) (fun _=>W) (gt W (vl W G_hit W)<|gt W (fun w4=>(D0<|A3 w4))<|gt W (fun w5=>(L4 (A3 w5) (A3 w5) W))<|sa W W W<|sv W<|gt W (fun _=>(A6 W G_hit W W))<|bs h fun v1 hv1 h=> ?_)
 refine I9 _ (i64 v1) (I8 W) (fun w7=>⟨_,[(.d (.agg (O8 p1)))],_,_,(by simp only [A3 w7];rfl),W,A2,Sh _ _<|C2 w7 hv1,(.inl W)⟩) ?_
 refine gt W (vb W W W)<|sa W W W<|sv W<|A1<|B2 ?_
 cases h
 exact A7 (.inr W) (B4 (B3 W) B8) (.refl _)
def Kg [Lp](p1:Map)(p2:Int):Option Int:=
  (Sk p1 p2).bind fun v1=>cond (!v1) (some 0) ((Ke p1 p2).bind fun v2=>some v2)
theorem Wc(p1 p2 r)(h:Kg p1 p2=some r):PCall prog 126 [(.agg (O8 p1)),(i64 p2)] (i64 r):=by
 refine C0 (fk func126 ntmps126 m0 (by with_unfolding_all rfl)) (nl W) ?_
 unfold Kg at h
 refine B5 (s0:=⟨T [(0,(.d _)),(1,(.d _))],G []⟩) (E3 W W) ?_
 refine B1<|sm W<|sv W<|A1<|A4<|B1<|sd W (A6 W G_hit W W)<|sv W<|bs h fun v1 hv1 h=>B0 W W A2 (KW _ _ _ hv1) (.inl W) (B9 (.d (bo (!v1))) W W (A1<|cc W h (fun c1 h=> ?_)<|fun c1 h=> ?_))
 refine B1<|sv W<|A1<|B2 ?_
 cases h
 exact A7 (.inr W) (B4 (B3 W) B8) (.refl _)
 refine A8<|B1<|sd W (A6 W G_hit W W)<|sv W<|bs h fun _ hv2 h=>B0 W W A2 (Wa _ _ _ hv2) (.inl W) (sv W<|A1<|B2 ?_)
 cases h
 exact A7 (.inr W) (B4 (B3 W) B8) (.refl _)
def Pu (p1:Spot)(p2:Spot):Option Int:=
  (W0 p1).bind fun v1=>((cond (!(!v1)) (W0 p2) (some default))).bind fun v2=>cond ((!v1)||(!v2)) (some 0) ((Bb p2 p1).bind fun v3=>(Kd v3 v3).bind fun v4=>some v4)
theorem IY(p1 p2 r)(h:Pu p1 p2=some r):PCall prog 196 [(.agg [(i64 p1.X),(i64 p1.Y)]),(.agg [(i64 p2.X),(i64 p2.Y)])] (i64 r):=by
 refine C0 (fk func196 ntmps196 m0 (by with_unfolding_all rfl)) (nl W) ?_
 unfold Pu at h
 refine B5 (s0:=⟨T [(0,(.d _)),(1,(.d _))],G []⟩) (E3 W W) ?_
 refine B1<|sm W<|sn W W<|sv W<|A1<|A4<|B1<|sd W (A6 W (gq W) W W)<|bs h fun v1 hv1 h=>B0 W W A2 (X2 _ _ hv1) (.inl W) (B9 (.d (bo (!v1))) W W (sv W<|gf W (fun _=>(A6 W G_hit W W))<|bs h fun v2 hv2 h=> ?_))
 refine I9 _ (bo v2) (H8 W) (fun w2=>⟨_,[(.d (.agg [(i64 p2.X),(i64 p2.Y)]))],_,_,(by simp only [A3 w2];rfl),W,A2,X2 _ _<|C2 w2 hv2,(.inl W)⟩) ?_
 refine M5 _ (.d (bo (!v2))) W (H8 W) (fun w3=>(by simp only [A3 w3];rfl)) ?_
 refine sd W (L8 W W<|fun hc=>A3<|G0 hc)<|A1<|cc W h (fun c1 h=> ?_)<|fun c1 h=> ?_
 refine B1<|sv W<|A1<|B2 ?_
 cases h
 exact A7 (.inr W) (B4 (B3 W) B8) (.refl _)
 refine A8<|B1<|sd W (A6 W G_hit W W)<|sd W (A6 W (gq W) W W)<|bs h fun v3 hv3 h=>B0 W W A2 (Db _ _ _ hv3) (.inl W) (sm W<|Q4 W G_hit [(di v3.X),(di v3.Y)] W (A1<|B1<|sd W (A6 W G_hit W W)<|sd W (A6 W G_hit W W)<|bs h fun _ hv4 h=>B0 W W A2 (Nk _ _ _ hv4) (.inl W) (sv W<|A1<|B2 ?_)))
 cases h
 exact A7 (.inr W) (B4 (B3 W) B8) (.refl _)
def Vk (p1:Agent):Option Bool:=
  some ((((decide (p1.S≥0))&& (decide (p1.S≤1099511627776)))&& (decide (p1.Len≥0)))&& (decide (p1.Len≤1099511627776)))
theorem KX(p1 r)(h:Vk p1=some r):PCall prog 133 [(.agg (E4 p1))] (bo r):=by
 refine C0 (fk func133 ntmps133 m0 (by with_unfolding_all rfl)) (nl W) ?_
 unfold Vk at h
 refine B5 (s0:=⟨T [(0,(.d _))],G []⟩) (E3 W W) ?_
 refine B1<|sm W<|sv W<|A1<|B1<|sq W<|sl W G_hit W<|sv W<|sv W<|gp W (I8 W) (fun _=>W) (gt W (vl W G_hit W)<|gt W (vb W W W)<|sa W W W<|sv W<|gp W (I8 W) (fun _=>W) (gt W (vl W G_hit W)<|gt W (vb W W W)<|sa W W W<|sv W<|gp W (I8 W) (fun _=>W) (gt W (vl W G_hit W)<|gt W (vb W W W)<|sa W W W<|sv W<|A1<|B2 ?_)))
 cases h
 exact A7 (.inr W) (B4 (B3 W) B8) (.refl _)
def Ik [Lp](p1:Map)(p2:Agent)(v2:(List Int))(x1:((List Span)×Int)):Option (Stp ((List Span)×Int) (List Span)):=
  cond (decide (x1.2< (v2.length:Int))) ((C8 v2 x1.2).bind fun v3=>(C8 v2 x1.2).bind fun v4=>(C8 p2.Route x1.2).bind fun v5=>(Kg p1 v5).bind fun v6=>cond (decide ((He true 0 (C9 ((C9 (p2.S - p2.Len)) - v3)))≤(He false (C9 (p2.S - v4)) v6))) ((C8 p2.Route x1.2).bind fun v7=>(Fk x1.1 [(Span.mk v7 (He true 0 (C9 ((C9 (p2.S - p2.Len)) - v3))) (He false (C9 (p2.S - v4)) v6))]).bind fun v8=>some (.go (v8,(C9 (x1.2+1))))) (some (.go (x1.1,(C9 (x1.2+1)))))) (some (.out x1.1))
def Sl [Lp](p1:Map)(p2:Agent):Option (List Span):=
  (Vk p2).bind fun v1=>cond (!v1) (some []) ((Ha p1 p2.Route).bind fun v2=>(loop (Ik p1 p2 v2) ([],0)).bind fun y1=>some y1)
theorem KY(p1 p2 r)(h:Sl p1 p2=some r):PCall prog 63 [(.agg (O8 p1)),(.agg (E4 p2))] (.list (List.map J2 r)):=by
 refine C0 (fk func63 ntmps63 (fun r=>if r==10 then [1009]else []) (by with_unfolding_all rfl)) (nl W) ?_
 unfold Sl at h
 refine B5 (s0:=⟨T [(0,(.d _)),(1,(.d _))],G []⟩) (E3 W W) ?_
 refine lr<|fun u1 _=>sm W<|sm W<|sv W<|A1<|B1<|sv W<|A1<|A4<|B1<|sd W (A6 W G_hit W W)<|bs h fun v1 hv1 h=>B0 W W A2 (KX _ _ hv1) (.inl W) (B9 (.d (bo (!v1))) W W (A1<|cc W h (fun c1 h=> ?_)<|fun c1 h=> ?_))
 refine B1<|sv W<|A1<|B2 ?_
 cases h
 exact A7 (.inr W) (B4 (B3 W) B8) DLe.nil
 refine A8<|B1<|sd W (A6 W (gq W) W W)<|sq W<|sl W G_hit W<|bs h fun v2 hv2 h=>B0 W W A2 (Qh _ _ _ hv2) (.inl W) (sv W<|A1<|A4<|B1<|sv W<|A1<|bs h fun y1 hy1 h=>D3 (fun s=> ∃g1:Nat,Sb ⟨T [(5,(oS y1 (62,g1)))],G [((62,g1),oB 93 3 J2 y1)]⟩ s) ?_ ?_)
 refine A9<|D7 (Ik p1 p2 v2) (fun (x1:((List Span)×Int)) (g2:Nat)=>⟨T [(2,(.ptr (2,u1) 0)),(3,(.ptr (3,u1) 0)),(5,(oS x1.1 (62,g2))),(6,(dl A5 v2)),(7,(di x1.2))],G [((2,u1),some<|.box 33 (K7 p1)),((3,u1),some<|.box 45 (W9 p2)),((62,g2),oB 93 3 J2 x1.1)]⟩) ([],0) 0 _ hy1 (D2 (X5 W)<|sg W<|B6 G_hit (.of W)<|O9 trivial) ?_
 intro x1 g2 z1 hz1 ez1
 unfold Ik at hz1
 refine A4<|B1<|sv W<|sv W<|sd W (D0 W)<|sv W<|A1<|cc W hz1 (fun c2 hz1=> ?_)<|fun c2 hz1=> ?_
 refine A8<|A4<|A9<|A4<|D5 W<|sq W<|sl W (gq W) W (sq W<|sl W (gq W) W (sv W<|sv W<|sv W<|bs hz1 fun v3 hv3 hz1=>sd W (C5 W W hv3 W)<|sd W (D1 W hv3 W)<|sv W<|sv W<|sq W<|sl W (gq W) W (sv W<|sv W<|bs hz1 fun v4 hv4 hz1=>sd W (C5 W W hv4 W)<|sd W (D1 W hv4 W)<|sv W<|sd W (A6 W G_hit W W)<|sq W<|sl W (gq W) W (sv W<|bs hz1 fun _ hv5 hz1=>sd W (C5 W W hv5 W)<|sd W (D1 W hv5 W)<|bs hz1 fun v6 hv6 hz1=>B0 W W A2 (Wc _ _ _ hv6) (.inl W) (sv W<|sv W<|sv W<|A1<|B1<|sv W<|sv W<|sv W<|A1<|cc W hz1 (fun c3 hz1=> ?_)<|fun c3 hz1=> ?_)))))
 refine Be fun u10 _=>B9 (oS x1.1 (62,g2)) W W (sq W<|sl W (gq W) W (sv W<|bs hz1 fun v7 hv7 hz1=>sd W (C5 W W hv7 W)<|sd W (D1 W hv7 W)<|sv W<|sv W<|sv W<|B9 (dl J2 [(Span.mk v7 (He true 0<|C9 ((C9 (p2.S - p2.Len)) - v3))<|He false (C9 (p2.S - v4)) v6)]) W W (bs hz1 fun _ hv8 hz1=>O1 J2 (62,g2) x1.1 (Span.mk v7 (He true 0<|C9 ((C9 (p2.S - p2.Len)) - v3))<|He false (C9 (p2.S - v4)) v6) [] _ (M0<|fun _=>W) W (gq W) hv8 (ss W<|A1<|D4<|C1<|sv W<|sv W<|sv W<|A1<|D6 ?_))))
 cases hz1
 exact ⟨W,u10,(D2 ⟨.of W, .of W,(.of (S5<|T0 hv8).symm), .of W, .of W,trivial⟩<|sg W<|sg W<|L9 G_hit trivial)⟩
 refine A8<|D4<|C1<|sv W<|sv W<|sv W<|A1<|D6 ?_
 cases hz1
 exact ⟨W,g2,(D2 (X5 W)<|B6 G_hit (.of W)<|sg W<|B7 (gq W) trivial)⟩
 refine C6 W ?_
 cases hz1
 obtain rfl:=ez1 _ rfl
 refine ⟨nofun,C3 W<|T4 ?_⟩
 exact ⟨g2,(D2 ⟨.of W,trivial⟩<|B7 (gq W) trivial)⟩
 rintro _ ⟨g1,q1⟩
 refine B5 q1<|B1<|B9 (oS y1 (62,g1)) W W (B9 (oS y1 (62,g1)) W W (A1<|B2 ?_))
 cases h
 exact A7 (.inr W) (B4 (B3 W)<|U4 G_hit) U3
def Mq (p3:Span)(v1:(List Span))(x1:Int):Option (Stp Int (Sum Unit (Span×Bool))):=
  cond (decide (x1< (v1.length:Int))) ((C8 v1 x1).bind fun v2=>((cond (v2.Lane_==p3.Lane_) (C8 v1 x1) (some default))).bind fun v3=>((cond ((v2.Lane_==p3.Lane_)&& (decide (v3.From≤p3.To))) (C8 v1 x1) (some default))).bind fun v4=>cond (((v2.Lane_==p3.Lane_)&& (decide (v3.From≤p3.To)))&& (decide (p3.From≤v4.To))) ((C8 v1 x1).bind fun v5=>(C8 v1 x1).bind fun v6=>some (.out (.inr ((Span.mk p3.Lane_ (He true v5.From p3.From) (He false v6.To p3.To)),true)))) (some (.go (C9 (x1+1))))) (some (.out (.inl ())))
def Un [Lp](p1:Map)(p2:Agent)(p3:Span):Option (Span×Bool):=
  (Sl p1 p2).bind fun v1=>thenS (loop (Mq p3 v1) 0) (fun _=>some ((Span.mk 0 0 0),false)) (fun r=>some r)
theorem FQ(p1 p2 p3 r)(h:Un p1 p2 p3=some r):PCall prog 131 [(.agg (O8 p1)),(.agg (E4 p2)),(.agg (J2 p3))] (.tup [(.agg (J2 r.1)),(bo r.2)]):=by
 refine C0 (fk func131 ntmps131 m0 (by with_unfolding_all rfl)) (nl W) ?_
 unfold Un at h
 refine B5 (s0:=⟨T [(0,(.d _)),(1,(.d _)),(2,(.d _))],G []⟩) (E3 W W) ?_
 refine lr<|fun u1 _=>sm W<|sm W<|sn W W<|sm W<|sv W<|A1<|B1<|sd W (A6 W (gq W) W W)<|sd W (A6 W (gq W) W W)<|bs h fun v1 hv1 h=>B0 W W A2 (KY _ _ _ hv1) (.inl W) (sv W<|A1<|A4<|B1<|sv W<|A1<|js h fun z1 hz1 h=>D3 (fun s=> ∃(y1:Unit) (g1:Unit),z1= .inl y1∧Sb ⟨T [(6,(.ptr (6,u1) 0))],G [((6,u1),some<|.box 93 [(di 0),(di 0),(di 0)])]⟩ s) ?_ ?_)
 refine A9<|D7 (Mq p3 v1) (fun (x1:Int) (g2:Unit)=>⟨T [(5,(.ptr (5,u1) 0)),(6,(.ptr (6,u1) 0)),(8,(dl J2 v1)),(9,(di x1))],G [((5,u1),some<|.box 93 (Pj p3)),((6,u1),some<|.box 93 [(di 0),(di 0),(di 0)])]⟩) 0 () _ hz1 (E3 W W) ?_
 intro x1 g2 z2 hz2 ez2
 unfold Mq at hz2
 refine A4<|B1<|sv W<|sv W<|sd W (D0 W)<|sv W<|A1<|cc W hz2 (fun c1 hz2=> ?_)<|fun c1 hz2=> ?_
 refine A8<|A4<|A9<|A4<|D5 W<|sv W<|sv W<|bs hz2 fun _ hv2 hz2=>sd W (C5 W W hv2 W)<|sv W<|sd W (D1 W hv2 W)<|sq W<|sl W G_hit W<|sv W<|sv W<|gt W (fun _=>W)<|gt W (fun _=>W)<|bs hz2 fun _ hv3 hz2=>gt W (fun w3=>(C5 (A3 w3) (A3 w3) (C2 w3 hv3) W)) ?_
 refine gt W (fun w4=>(by simp only [A3 w4];rfl)) ?_
 refine gt W (fun w5=>(D1 (A3 w5) (C2 w5 hv3) W))<|gp W (I8 W) (fun _=>W) (gt W (vl W G_hit W)<|gt W (fun w8=>(L4 (A3 w8) (A3 w8) W))<|sa W W W<|sv W<|gp W (I8 W) (fun _=>W) (gt W (vl W G_hit W)<|gt W (fun _=>W)<|gt W (fun _=>W)<|bs hz2 fun _ hv4 hz2=>gt W (fun w13=>(C5 (A3 w13) (A3 w13) (C2 w13 hv4) W)) ?_))
 refine gt W (fun w14=>(by simp only [A3 w14];rfl)) ?_
 refine gt W (fun w15=>(D1 (A3 w15) (C2 w15 hv4) W))<|gt W (fun w16=>(L4 (A3 w16) (A3 w16) W))<|sa W W W<|A1<|cc W hz2 (fun c2 hz2=> ?_)<|fun c2 hz2=> ?_
 refine A4<|D5 W<|sq W<|sl W G_hit W<|sv W<|sv W<|bs hz2 fun v5 hv5 hz2=>sd W (C5 W W hv5 W)<|sv W<|sd W (D1 W hv5 W)<|sq W<|sl W G_hit W<|sv W<|sv W<|sv W<|bs hz2 fun v6 hv6 hz2=>sd W (C5 W W hv6 W)<|sv W<|sd W (D1 W hv6 W)<|sq W<|sl W G_hit W<|sv W<|sv W<|Q4 W (gq W) [(di p3.Lane_),(di<|He true v5.From p3.From),(di<|He false v6.To p3.To)] W (sv W<|A1<|B2 ?_)
 cases hz2
 obtain rfl:=ez2 _ rfl
 refine ⟨nofun,E5 ?_⟩
 rw [bT]at h
 cases h
 exact A7 (.inr W) (Iz (G5 W G_hit (nl W) W) (B3 W) B8 B8) (.refl _)
 refine A8<|D4<|C1<|sv W<|sv W<|sv W<|A1<|D6 ?_
 cases hz2
 exact ⟨W,(),(E3 W W)⟩
 refine C6 W ?_
 cases hz2
 obtain rfl:=ez2 _ rfl
 refine ⟨nofun,C3 W<|T4 ?_⟩
 exact ⟨_,(),W,(E3 W W)⟩
 rintro _ ⟨y1,g1,rfl,q1⟩
 rw [bS]at h
 refine B5 q1<|B1<|sv W<|Q4 W G_hit [(di 0),(di 0),(di 0)] W (sv W<|A1<|B2 ?_)
 cases h
 exact A7 (.inr W) (Iz (G5 W G_hit (nl W) W) (B3 W) B8 B8) (.refl _)
def Mr (p1:State)(p2:Int):Option Bool:=
  ((cond ((decide (p2≥0))&& (decide (p2< (p1.Agents.length:Int)))) (C8 p1.Agents p2) (some default))).bind fun v1=>((cond (((decide (p2≥0))&& (decide (p2< (p1.Agents.length:Int))))&& (decide (v1.Begin≤p1.Tick))) (C8 p1.Agents p2) (some default))).bind fun v2=>some ((((decide (p2≥0))&& (decide (p2< (p1.Agents.length:Int))))&& (decide (v1.Begin≤p1.Tick)))&& (!v2.Gone))
theorem Ys(p1 p2 r)(h:Mr p1 p2=some r):PCall prog 39 [(.agg (U5 p1)),(i64 p2)] (bo r):=by
 refine C0 (fk func39 ntmps39 m0 (by with_unfolding_all rfl)) (nl W) ?_
 unfold Mr at h
 refine B5 (s0:=⟨T [(0,(.d _)),(1,(.d _))],G []⟩) (E3 W W) ?_
 refine B1<|sm W<|sv W<|A1<|A4<|D5 W<|sv W<|sv W<|sv W<|gt W (fun _=>W)<|gp W (I8 W) (fun _=>W) (gt W (vl W G_hit W)<|gt W (fun w4=>(D0<|A3 w4))<|gt W (fun w5=>(L4 (A3 w5) (A3 w5) W))<|sa W W W<|sv W<|gp W (I8 W) (fun _=>W) (gt W (vl W G_hit W)<|gt W (fun _=>W)<|bs h fun _ hv1 h=>gt W (fun w9=>(C5 (A3 w9) (A3 w9) (C2 w9 hv1) W)) ?_))
 refine gt W (fun w10=>(by simp only [A3 w10];rfl)) ?_
 refine gt W (fun w11=>(D1 (A3 w11) (C2 w11 hv1) W))<|gp W (I8 W) (fun _=>W) (gt W (vl W G_hit W)<|gt W (fun w14=>(L4 (A3 w14) (A3 w14) W))<|sa W W W<|sv W<|gp W (I8 W) (fun _=>W) (gt W (vl W G_hit W)<|gt W (fun _=>W)<|bs h fun v2 hv2 h=>gt W (fun w18=>(C5 (A3 w18) (A3 w18) (C2 w18 hv2) W)) ?_))
 refine gt W (fun w19=>(by simp only [A3 w19];rfl)) ?_
 refine gt W (fun w20=>(D1 (A3 w20) (C2 w20 hv2) W)) ?_
 refine M5 _ (.d (bo (!v2.Gone))) W (I8 W) (fun w21=>(by simp only [A3 w21];rfl)) ?_
 refine sa W W W<|sv W<|A1<|B2 ?_
 cases h
 exact A7 (.inr W) (B4 (B3 W) B8) (.refl _)
def Pv (p1:Spot)(p2:Spot):Option Int:=
  some (C9 ((C9 (p1.X*p2.Y)) - (C9 (p1.Y*p2.X))))
theorem IZ(p1 p2 r)(h:Pv p1 p2=some r):PCall prog 259 [(.agg [(i64 p1.X),(i64 p1.Y)]),(.agg [(i64 p2.X),(i64 p2.Y)])] (i64 r):=by
 refine C0 (fk func259 ntmps259 m0 (by with_unfolding_all rfl)) (nl W) ?_
 unfold Pv at h
 refine B5 (s0:=⟨T [(0,(.d _)),(1,(.d _))],G []⟩) (E3 W W) ?_
 refine B1<|sm W<|sn W W<|sv W<|A1<|B1<|sq W<|sl W (gq W) W (sq W<|sl W G_hit W<|sv W<|sq W<|sl W (gq W) W (sq W<|sl W G_hit W<|sv W<|sv W<|sv W<|A1<|B2 ?_))
 cases h
 exact A7 (.inr W) (B4 (B3 W) B8) (.refl _)
def Jl (p1:Spot)(p2:Spot)(p3:Spot):Option Int:=
  (W0 p1).bind fun v1=>((cond (!(!v1)) (W0 p2) (some default))).bind fun v2=>((cond (!((!v1)||(!v2))) (W0 p3) (some default))).bind fun v3=>cond (((!v1)||(!v2))||(!v3)) (some 0) ((Bb p2 p1).bind fun v4=>(Bb p3 p1).bind fun v5=>(Pv v4 v5).bind fun v6=>cond (decide (v6>0)) (some 1) (cond (decide (v6<0)) (some (-1)) (some 0)))
theorem Ox(p1 p2 p3 r)(h:Jl p1 p2 p3=some r):PCall prog 235 [(.agg [(i64 p1.X),(i64 p1.Y)]),(.agg [(i64 p2.X),(i64 p2.Y)]),(.agg [(i64 p3.X),(i64 p3.Y)])] (i64 r):=by
 refine C0 (fk func235 ntmps235 m0 (by with_unfolding_all rfl)) (nl W) ?_
 unfold Jl at h
 refine B5 (s0:=⟨T [(0,(.d _)),(1,(.d _)),(2,(.d _))],G []⟩) (E3 W W) ?_
 refine B1<|sm W<|sn W W<|sm W<|sv W<|A1<|A4<|B1<|sd W (A6 W (gq W) W W)<|bs h fun v1 hv1 h=>B0 W W A2 (X2 _ _ hv1) (.inl W) (B9 (.d (bo (!v1))) W W (sv W<|gf W (fun _=>(A6 W (gq W) W W))<|bs h fun v2 hv2 h=> ?_))
 refine I9 _ (bo v2) (H8 W) (fun w2=>⟨_,[(.d (.agg [(i64 p2.X),(i64 p2.Y)]))],_,_,(by simp only [A3 w2];rfl),W,A2,X2 _ _<|C2 w2 hv2,(.inl W)⟩) ?_
 refine M5 _ (.d (bo (!v2))) W (H8 W) (fun w3=>(by simp only [A3 w3];rfl)) ?_
 refine sd W (L8 W W<|fun hc=>A3<|G0 hc)<|sv W<|gf W (fun _=>(A6 W G_hit W W))<|bs h fun v3 hv3 h=> ?_
 refine I9 _ (bo v3) (H8 W) (fun w5=>⟨_,[(.d (.agg [(i64 p3.X),(i64 p3.Y)]))],_,_,(by simp only [A3 w5];rfl),W,A2,X2 _ _<|C2 w5 hv3,(.inl W)⟩) ?_
 refine M5 _ (.d (bo (!v3))) W (H8 W) (fun w6=>(by simp only [A3 w6];rfl)) ?_
 refine sd W (L8 W W<|fun hc=>A3<|G0 hc)<|A1<|cc W h (fun c1 h=> ?_)<|fun c1 h=> ?_
 refine B1<|sv W<|A1<|B2 ?_
 cases h
 exact A7 (.inr W) (B4 (B3 W) B8) (.refl _)
 refine A8<|A4<|D5 W<|sd W (A6 W (gq W) W W)<|sd W (A6 W (gq W) W W)<|bs h fun _ hv4 h=>B0 W W A2 (Db _ _ _ hv4) (.inl W) (sd W (A6 W G_hit W W)<|sd W (A6 W (gq W) W W)<|bs h fun _ hv5 h=>B0 W W A2 (Db _ _ _ hv5) (.inl W) (bs h fun _ hv6 h=>B0 W W A2 (IZ _ _ _ hv6) (.inl W) (sv W<|A1<|A4<|A9<|B1<|sv W<|sv W<|sv W<|A1<|cc W h (fun c2 h=> ?_)<|fun c2 h=> ?_)))
 refine B1<|sv W<|A1<|B2 ?_
 cases h
 exact A7 (.inr W) (B4 (B3 W) B8) (.refl _)
 refine B1<|sv W<|sv W<|sv W<|A1<|cc W h (fun c3 h=> ?_)<|fun c3 h=> ?_
 refine B1<|sv W<|A1<|B2 ?_
 cases h
 exact A7 (.inr W) (B4 (B3 W) B8) (.refl _)
 refine A8<|D4<|B1<|sv W<|A1<|B2 ?_
 cases h
 exact A7 (.inr W) (B4 (B3 W) B8) (.refl _)
def Ci (p1:Spot)(p2:Spot)(p3:Spot):Option Bool:=
  some ((((decide ((He false p1.X p2.X)≤p3.X))&& (decide (p3.X≤(He true p1.X p2.X))))&& (decide ((He false p1.Y p2.Y)≤p3.Y)))&& (decide (p3.Y≤(He true p1.Y p2.Y))))
theorem Kh(p1 p2 p3 r)(h:Ci p1 p2 p3=some r):PCall prog 236 [(.agg [(i64 p1.X),(i64 p1.Y)]),(.agg [(i64 p2.X),(i64 p2.Y)]),(.agg [(i64 p3.X),(i64 p3.Y)])] (bo r):=by
 refine C0 (fk func236 ntmps236 m0 (by with_unfolding_all rfl)) (nl W) ?_
 unfold Ci at h
 refine B5 (s0:=⟨T [(0,(.d _)),(1,(.d _)),(2,(.d _))],G []⟩) (E3 W W) ?_
 refine B1<|sm W<|sn W W<|sm W<|sv W<|A1<|B1<|sq W<|sl W (gq W) W (sq W<|sl W (gq W) W (sv W<|sq W<|sl W G_hit W<|sv W<|sv W<|gp W (I8 W) (fun _=>W) (gt W (vl W G_hit W)<|gp W (I8 W) (fun _=>W) (gt W (vl W (gq W) W)<|gp W (I8 W) (fun _=>W) (gt W (vl W (gq W) W) ?_)))))
 refine gt W (fun w7=>(by simp only [A3 w7];rfl)) ?_
 refine gt W (fun w8=>(L4 (A3 w8) (A3 w8) W))<|sa W W W<|sv W<|gp W (I8 W) (fun _=>W) (gt W (vl W (gq W) W)<|gp W (I8 W) (fun _=>W) (gt W (vl W (gq W) W) ?_))
 refine gt W (fun w13=>(by simp only [A3 w13];rfl)) ?_
 refine gp W (I8 W) (fun _=>W) (gt W (vl W G_hit W)<|gt W (fun w16=>(L4 (A3 w16) (A3 w16) W))<|sa W W W<|sv W<|gp W (I8 W) (fun _=>W) (gt W (vl W G_hit W)<|gp W (I8 W) (fun _=>W) (gt W (vl W (gq W) W)<|gp W (I8 W) (fun _=>W) (gt W (vl W (gq W) W) ?_))))
 refine gt W (fun w23=>(by simp only [A3 w23];rfl)) ?_
 refine gt W (fun w24=>(L4 (A3 w24) (A3 w24) W))<|sa W W W<|sv W<|A1<|B2 ?_
 cases h
 exact A7 (.inr W) (B4 (B3 W) B8) (.refl _)
def Np (p1:Spot)(p2:Spot)(p3:Spot)(p4:Spot):Option Bool:=
  (W0 p1).bind fun v1=>((cond (!(!v1)) (W0 p2) (some default))).bind fun v2=>((cond (!((!v1)||(!v2))) (W0 p3) (some default))).bind fun v3=>((cond (!(((!v1)||(!v2))||(!v3))) (W0 p4) (some default))).bind fun v4=>cond ((((!v1)||(!v2))||(!v3))||(!v4)) (some false) ((Jl p1 p2 p3).bind fun v5=>(Jl p1 p2 p4).bind fun v6=>(Jl p3 p4 p1).bind fun v7=>(Jl p3 p4 p2).bind fun v8=>cond ((decide ((C9 (v5*v6))<0))&& (decide ((C9 (v7*v8))<0))) (some true) (((cond (v5==0) (Ci p1 p2 p3) (some default))).bind fun v9=>((cond ((!((v5==0)&&v9))&& (v6==0)) (Ci p1 p2 p4) (some default))).bind fun v10=>((cond ((!(((v5==0)&&v9)||((v6==0)&&v10)))&& (v7==0)) (Ci p3 p4 p1) (some default))).bind fun v11=>((cond ((!((((v5==0)&&v9)||((v6==0)&&v10))||((v7==0)&&v11)))&& (v8==0)) (Ci p3 p4 p2) (some default))).bind fun v12=>some (((((v5==0)&&v9)||((v6==0)&&v10))||((v7==0)&&v11))||((v8==0)&&v12))))
theorem GM(p1 p2 p3 p4 r)(h:Np p1 p2 p3 p4=some r):PCall prog 197 [(.agg [(i64 p1.X),(i64 p1.Y)]),(.agg [(i64 p2.X),(i64 p2.Y)]),(.agg [(i64 p3.X),(i64 p3.Y)]),(.agg [(i64 p4.X),(i64 p4.Y)])] (bo r):=by
 refine C0 (fk func197 ntmps197 m0 (by with_unfolding_all rfl)) (nl W) ?_
 unfold Np at h
 refine B5 (s0:=⟨T [(0,(.d _)),(1,(.d _)),(2,(.d _)),(3,(.d _))],G []⟩) (E3 W W) ?_
 refine B1<|sm W<|sn W W<|sm W<|sn W W<|sv W<|A1<|A4<|B1<|sd W (A6 W (gq W) W W)<|bs h fun v1 hv1 h=>B0 W W A2 (X2 _ _ hv1) (.inl W) (B9 (.d (bo (!v1))) W W (sv W<|gf W (fun _=>(A6 W (gq W) W W))<|bs h fun v2 hv2 h=> ?_))
 refine I9 _ (bo v2) (H8 W) (fun w2=>⟨_,[(.d (.agg [(i64 p2.X),(i64 p2.Y)]))],_,_,(by simp only [A3 w2];rfl),W,A2,X2 _ _<|C2 w2 hv2,(.inl W)⟩) ?_
 refine M5 _ (.d (bo (!v2))) W (H8 W) (fun w3=>(by simp only [A3 w3];rfl)) ?_
 refine sd W (L8 W W<|fun hc=>A3<|G0 hc)<|sv W<|gf W (fun _=>(A6 W (gq W) W W))<|bs h fun v3 hv3 h=> ?_
 refine I9 _ (bo v3) (H8 W) (fun w5=>⟨_,[(.d (.agg [(i64 p3.X),(i64 p3.Y)]))],_,_,(by simp only [A3 w5];rfl),W,A2,X2 _ _<|C2 w5 hv3,(.inl W)⟩) ?_
 refine M5 _ (.d (bo (!v3))) W (H8 W) (fun w6=>(by simp only [A3 w6];rfl)) ?_
 refine sd W (L8 W W<|fun hc=>A3<|G0 hc)<|sv W<|gf W (fun _=>(A6 W G_hit W W))<|bs h fun v4 hv4 h=> ?_
 refine I9 _ (bo v4) (H8 W) (fun w8=>⟨_,[(.d (.agg [(i64 p4.X),(i64 p4.Y)]))],_,_,(by simp only [A3 w8];rfl),W,A2,X2 _ _<|C2 w8 hv4,(.inl W)⟩) ?_
 refine M5 _ (.d (bo (!v4))) W (H8 W) (fun w9=>(by simp only [A3 w9];rfl)) ?_
 refine sd W (L8 W W<|fun hc=>A3<|G0 hc)<|A1<|cc W h (fun c1 h=> ?_)<|fun c1 h=> ?_
 refine B1<|sv W<|A1<|B2 ?_
 cases h
 exact A7 (.inr W) (B4 (B3 W) B8) (.refl _)
 refine A8<|A4<|D5 W<|sd W (A6 W (gq W) W W)<|sd W (A6 W (gq W) W W)<|sd W (A6 W (gq W) W W)<|bs h fun _ hv5 h=>B0 W W A2 (Ox _ _ _ _ hv5) (.inl W) (sd W (A6 W (gq W) W W)<|sd W (A6 W (gq W) W W)<|sd W (A6 W G_hit W W)<|bs h fun _ hv6 h=>B0 W W A2 (Ox _ _ _ _ hv6) (.inl W) (sd W (A6 W (gq W) W W)<|sd W (A6 W G_hit W W)<|sd W (A6 W (gq W) W W)<|bs h fun _ hv7 h=>B0 W W A2 (Ox _ _ _ _ hv7) (.inl W) (sd W (A6 W (gq W) W W)<|sd W (A6 W G_hit W W)<|sd W (A6 W (gq W) W W)<|bs h fun _ hv8 h=>B0 W W A2 (Ox _ _ _ _ hv8) (.inl W) (sv W<|sv W<|sv W<|sv W<|A1<|A4<|B1<|sv W<|sv W<|sv W<|sv W<|sv W<|gt W (fun _=>W)<|gt W (fun _=>W)<|gt W (fun w12=>(L4 (A3 w12) (A3 w12) W))<|gt W (vb W W W)<|sa W W W<|A1<|cc W h (fun c2 h=> ?_)<|fun c2 h=> ?_))))
 refine B1<|sv W<|A1<|B2 ?_
 cases h
 exact A7 (.inr W) (B4 (B3 W) B8) (.refl _)
 refine A8<|B1<|sv W<|sv W<|sv W<|gt W (fun _=>(A6 W (gq W) W W))<|gt W (fun _=>(A6 W (gq W) W W))<|gt W (fun _=>(A6 W (gq W) W W))<|bs h fun v9 hv9 h=> ?_
 refine I9 _ (bo v9) (I8 W) (fun w17=>⟨_,[(.d (.agg [(i64 p1.X),(i64 p1.Y)])),(.d (.agg [(i64 p2.X),(i64 p2.Y)])),(.d (.agg [(i64 p3.X),(i64 p3.Y)]))],_,_,(by simp only [A3 w17];rfl),W,A2,Kh _ _ _ _<|C2 w17 hv9,(.inl W)⟩) ?_
 refine sa W W W<|sv W<|gf W (fun _=>W)<|gf W (vb W W W)<|gf W (fun w20=>(ED<|A3 w20))<|gv W (O2 W) (fun _=>(A6 W (gq W) W W)) (gv W (O2 W) (fun _=>(A6 W (gq W) W W)) (gv W (O2 W) (fun _=>(A6 W G_hit W W)) (bs h fun v10 hv10 h=> ?_)))
 refine I9 _ (bo v10) (O2 W) (fun w24=>⟨_,[(.d (.agg [(i64 p1.X),(i64 p1.Y)])),(.d (.agg [(i64 p2.X),(i64 p2.Y)])),(.d (.agg [(i64 p4.X),(i64 p4.Y)]))],_,_,(by simp only [A3 w24];rfl),W,A2,Kh _ _ _ _<|C2 w24 hv10,(.inl W)⟩) ?_
 refine gf W (fun w25=>(Uh (A3 w25) (fun hc=>A3<|Ui w25 hc) W))<|sd W (L8 W W<|fun hc=>A3<|G0 hc)<|sv W<|gf W (fun _=>W)<|gf W (vb W W W)<|gf W (fun w28=>(ED<|A3 w28))<|gv W (O2 W) (fun _=>(A6 W (gq W) W W)) (gv W (O2 W) (fun _=>(A6 W G_hit W W)) (gv W (O2 W) (fun _=>(A6 W (gq W) W W)) (bs h fun v11 hv11 h=> ?_)))
 refine I9 _ (bo v11) (O2 W) (fun w32=>⟨_,[(.d (.agg [(i64 p3.X),(i64 p3.Y)])),(.d (.agg [(i64 p4.X),(i64 p4.Y)])),(.d (.agg [(i64 p1.X),(i64 p1.Y)]))],_,_,(by simp only [A3 w32];rfl),W,A2,Kh _ _ _ _<|C2 w32 hv11,(.inl W)⟩) ?_
 refine gf W (fun w33=>(Uh (A3 w33) (fun hc=>A3<|Ui w33 hc) W))<|sd W (L8 W W<|fun hc=>A3<|G0 hc)<|sv W<|gf W (fun _=>W)<|gf W (vb W W W)<|gf W (fun w36=>(ED<|A3 w36))<|gv W (O2 W) (fun _=>(A6 W (gq W) W W)) (gv W (O2 W) (fun _=>(A6 W G_hit W W)) (gv W (O2 W) (fun _=>(A6 W (gq W) W W)) (bs h fun v12 hv12 h=> ?_)))
 refine I9 _ (bo v12) (O2 W) (fun w40=>⟨_,[(.d (.agg [(i64 p3.X),(i64 p3.Y)])),(.d (.agg [(i64 p4.X),(i64 p4.Y)])),(.d (.agg [(i64 p2.X),(i64 p2.Y)]))],_,_,(by simp only [A3 w40];rfl),W,A2,Kh _ _ _ _<|C2 w40 hv12,(.inl W)⟩) ?_
 refine gf W (fun w41=>(Uh (A3 w41) (fun hc=>A3<|Ui w41 hc) W))<|sd W (L8 W W<|fun hc=>A3<|G0 hc)<|sv W<|A1<|B2 ?_
 cases h
 exact A7 (.inr W) (B4 (B3 W) B8) (.refl _)
def Il [Lp](p1:Map)(p2:State)(p3:Spot)(p5:Span)(v2:Spot)(v4:Spot)(x1:Int)(x2:Int):Option (Stp Int (Sum Unit Bool)):=
  cond (decide (x2< (p2.Agents.length:Int))) ((C8 p2.Agents x2).bind fun v7=>(Un p1 v7 p5).bind fun v8=>((cond (!v8.2) (Mr p2 x2) (some default))).bind fun v9=>cond (v8.2||(!v9)) (some (.go (C9 (x2+1)))) ((C8 [v2,v4] x1).bind fun v10=>(Jk p1 v7.Route v7.S).bind fun v11=>(Jk p1 v7.Route (C9 (v7.S - v7.Len))).bind fun v12=>(Np p3 v10 v11 v12).bind fun v13=>cond v13 (some (.out (.inr false))) (some (.go (C9 (x2+1)))))) (some (.out (.inl ())))
def Im [Lp](p1:Map)(p2:State)(p3:Spot)(p4:Int)(p5:Span)(v2:Spot)(v4:Spot)(x1:Int):Option (Stp Int (Sum Unit Bool)):=
  cond (decide (x1< ([v2,v4].length:Int))) ((C8 [v2,v4] x1).bind fun v5=>(Pu p3 v5).bind fun v6=>cond (decide (v6>(C9 (p4*p4)))) (some (.out (.inr false))) (thenS (loop (Il p1 p2 p3 p5 v2 v4 x1) 1) (fun _=>some (.go (C9 (x1+1)))) (fun r=>some (.out (.inr r))))) (some (.out (.inl ())))
def Sm [Lp](p1:Map)(p2:State)(p3:Spot)(p4:Int)(p5:Span):Option Bool:=
  (C8 p1.Lanes p5.Lane_).bind fun v1=>(No v1.Curve_ p5.From).bind fun v2=>(C8 p1.Lanes p5.Lane_).bind fun v3=>(No v3.Curve_ p5.To).bind fun v4=>thenS (loop (Im p1 p2 p3 p4 p5 v2 v4) 0) (fun _=>some true) (fun r=>some r)
theorem KZ(p1 p2 p3 p4 p5 r)(h:Sm p1 p2 p3 p4 p5=some r):PCall prog 127 [(.agg (O8 p1)),(.agg (U5 p2)),(.agg [(i64 p3.X),(i64 p3.Y)]),(i64 p4),(.agg (J2 p5))] (bo r):=by
 refine C0 (fk func127 ntmps127 (fun r=>if r==1 then [1020]else []) (by with_unfolding_all rfl)) (nl W) ?_
 unfold Sm at h
 refine B5 (s0:=⟨T [(0,(.d _)),(1,(.d _)),(2,(.d _)),(3,(.d _)),(4,(.d _))],G []⟩) (E3 W W) ?_
 refine lr<|fun u1 _=>sm W<|sm W<|sn W W<|sm W<|sv W<|A1<|A4<|D5 W<|sq W<|sl W (gq W) W (sq W<|sl W G_hit W<|bs h fun _ hv1 h=>sd W (C5 W W hv1 W)<|sv W<|sd W (C7 W hv1 W W)<|sq W<|sl W G_hit W<|bs h fun v2 hv2 h=>B0 W W A2 (Th _ _ _ hv2) (.inl W) (sq W<|sl W (gq W) W (sq W<|sl W G_hit W<|bs h fun _ hv3 h=>sd W (C5 W W hv3 W)<|sv W<|sd W (C7 W hv3 W W)<|sq W<|sl W G_hit W<|bs h fun v4 hv4 h=>B0 W W A2 (Th _ _ _ hv4) (.inl W) (B9 (dl Q3 [v2,v4]) W W (B9 (dl Q3 [v2,v4]) W W (A1<|A4<|B1<|sv W<|A1<|js h fun z1 hz1 h=>D3 (fun s=> ∃(y1:Unit) (g1:Unit),z1= .inl y1∧Sb ⟨T [],G []⟩ s) ?_ ?_))))))
 refine A9<|D7 (Im p1 p2 p3 p4 p5 v2 v4) (fun (x1:Int) (g2:Unit)=>⟨T [(3,(di p4)),(5,(.ptr (5,u1) 0)),(6,(.ptr (6,u1) 0)),(7,(.ptr (7,u1) 0)),(9,(.ptr (9,u1) 0)),(11,(dl Q3 [v2,v4])),(12,(di x1))],G [((5,u1),some<|.box 33 (K7 p1)),((6,u1),some<|.box 25 (J8 p2)),((7,u1),some<|.box 104 [(di p3.X),(di p3.Y)]),((9,u1),some<|.box 93 (Pj p5))]⟩) 0 () _ hz1 (E3 W W) ?_
 intro x1 g2 z2 hz2 ez2
 unfold Im at hz2
 refine A4<|B1<|sv W<|B9 (dl Q3 [v2,v4]) W W (sd W (D0 W)<|sv W<|A1<|cc W hz2 (fun c1 hz2=> ?_)<|fun c1 hz2=> ?_)
 refine A8<|A4<|A9<|A4<|A4<|D5 W<|sd W (A6 W (gq W) W W)<|B9 (dl Q3 [v2,v4]) W W (sv W<|bs hz2 fun _ hv5 hz2=>sd W (C5 W W hv5 W)<|sd W (C7 W hv5 W W)<|bs hz2 fun _ hv6 hz2=>B0 W W A2 (IY _ _ _ hv6) (.inl W) (sv W<|sv W<|sv W<|sv W<|A1<|cc W hz2 (fun c2 hz2=> ?_)<|fun c2 hz2=> ?_))
 refine B1<|sv W<|A1<|B2 ?_
 cases hz2
 obtain rfl:=ez2 _ rfl
 refine ⟨nofun,E5 ?_⟩
 rw [bT]at h
 cases h
 exact A7 (.inr W) (B4 (B3 W) B8) (.refl _)
 refine A8<|B1<|sv W<|A1<|js hz2 fun z3 hz3 hz2=>D3 (fun s=> ∃(y2:Unit) (g3:Unit),z3= .inl y2∧Sb ⟨T [(3,(di p4)),(5,(.ptr (5,u1) 0)),(6,(.ptr (6,u1) 0)),(7,(.ptr (7,u1) 0)),(9,(.ptr (9,u1) 0)),(11,(dl Q3 [v2,v4])),(12,(di x1))],G [((5,u1),some<|.box 33 (K7 p1)),((6,u1),some<|.box 25 (J8 p2)),((7,u1),some<|.box 104 [(di p3.X),(di p3.Y)]),((9,u1),some<|.box 93 (Pj p5))]⟩ s) ?_ ?_
 refine A9<|D7 (Il p1 p2 p3 p5 v2 v4 x1) (fun (x2:Int) (g4:Unit)=>⟨T [(3,(di p4)),(5,(.ptr (5,u1) 0)),(6,(.ptr (6,u1) 0)),(7,(.ptr (7,u1) 0)),(9,(.ptr (9,u1) 0)),(11,(dl Q3 [v2,v4])),(12,(di x1)),(13,(di x2))],G [((5,u1),some<|.box 33 (K7 p1)),((6,u1),some<|.box 25 (J8 p2)),((7,u1),some<|.box 104 [(di p3.X),(di p3.Y)]),((9,u1),some<|.box 93 (Pj p5))]⟩) 1 () _ hz3 (E3 W W) ?_
 intro x2 g4 z4 hz4 ez4
 unfold Il at hz4
 refine A4<|B1<|sv W<|sq W<|sl W (gq W) W (sd W (D0 W)<|sv W<|A1<|cc W hz4 (fun c3 hz4=> ?_)<|fun c3 hz4=> ?_)
 refine A8<|A4<|A9<|B1<|sq W<|sl W (gq W) W (sv W<|bs hz4 fun v7 hv7 hz4=>sd W (C5 W W hv7 W)<|sd W (C7 W hv7 W W)<|sm W<|Q4 W G_hit (W9 v7) W (A1<|B1<|sd W (A6 W (gq W) W W)<|sd W (A6 W G_hit W W)<|sd W (A6 W (gq W) W W)<|bs hz4 fun v8 hv8 hz4=>B0 W W A2 (FQ _ _ _ _ hv8) (.inl W) (sv W<|sv W<|sv W<|sm W<|Q4 W G_hit (Pj v8.1) W (sv W<|A1<|A4<|B1<|sv W<|sv W<|gf W (fun _=>(A6 W (gq W) W W))<|gf W (fun _=>W)<|bs hz4 fun v9 hv9 hz4=> ?_))))
 refine I9 _ (bo v9) (H8 W) (fun w3=>⟨_,[(.d (.agg (U5 p2))),(di x2)],_,_,(by simp only [A3 w3];rfl),W,A2,Ys _ _ _<|C2 w3 hv9,(.inl W)⟩) ?_
 refine M5 _ (.d (bo (!v9))) W (H8 W) (fun w4=>(by simp only [A3 w4];rfl)) ?_
 refine sd W (L8 W W<|fun hc=>A3<|G0 hc)<|A1<|cc W hz4 (fun c4 hz4=> ?_)<|fun c4 hz4=> ?_
 refine Mx W<|C1<|sv W<|sv W<|sv W<|A1<|D6 ?_
 cases hz4
 exact ⟨W,(),(E3 W W)⟩
 refine A8<|A4<|D5 W<|sd W (A6 W (gq W) W W)<|B9 (dl Q3 [v2,v4]) W W (sv W<|bs hz4 fun _ hv10 hz4=>sd W (C5 W W hv10 W)<|sd W (C7 W hv10 W W)<|sd W (A6 W (gq W) W W)<|sq W<|sl W (gq W) W (sq W<|sl W (gq W) W (bs hz4 fun _ hv11 hz4=>B0 W W A2 (Tw _ _ _ _ hv11) (.inl W) (sd W (A6 W (gq W) W W)<|sq W<|sl W (gq W) W (sq W<|sl W (gq W) W (sq W<|sl W (gq W) W (sv W<|bs hz4 fun _ hv12 hz4=>B0 W W A2 (Tw _ _ _ _ hv12) (.inl W) (bs hz4 fun _ hv13 hz4=>B0 W W A2 (GM _ _ _ _ _ hv13) (.inl W) (A1<|cc W hz4 (fun c5 hz4=> ?_)<|fun c5 hz4=> ?_)))))))))
 refine B1<|sv W<|A1<|B2 ?_
 cases hz4
 obtain rfl:=ez4 _ rfl
 refine ⟨nofun,E5 ?_⟩
 rw [bT]at hz2
 cases hz2
 obtain rfl:=ez2 _ rfl
 refine ⟨nofun,E5 ?_⟩
 rw [bT]at h
 cases h
 exact A7 (.inr W) (B4 (B3 W) B8) (.refl _)
 refine A8<|D4<|C1<|sv W<|sv W<|sv W<|A1<|D6 ?_
 cases hz4
 exact ⟨W,(),(E3 W W)⟩
 refine C6 W ?_
 cases hz4
 obtain rfl:=ez4 _ rfl
 refine ⟨nofun,C3 W<|T4 ?_⟩
 exact ⟨_,(),W,(E3 W W)⟩
 rintro _ ⟨y2,g3,rfl,q1⟩
 rw [bS]at hz2
 refine D4<|B5 q1<|C1<|sv W<|sv W<|sv W<|A1<|D6 ?_
 cases hz2
 exact ⟨W,(),(E3 W W)⟩
 refine C6 W ?_
 cases hz2
 obtain rfl:=ez2 _ rfl
 refine ⟨nofun,C3 W<|T4 ?_⟩
 exact ⟨_,(),W,(E3 W W)⟩
 rintro _ ⟨y1,g1,rfl,q2⟩
 rw [bS]at h
 refine B5 q2<|B1<|sv W<|A1<|B2 ?_
 cases h
 exact A7 (.inr W) (B4 (B3 W) B8) (.refl _)
def Cj [Lp](p1:Map)(p2:State)(p3:Int)(v4:Spot)(x1:((List Span)×Int))(v5:Int)(x2:((List Span)×Int)):Option (Stp ((List Span)×Int) (List Span)):=
  cond (decide (x2.2<v5)) ((Sm p1 p2 v4 p3 (Span.mk x1.2 x2.2 (He false (C9 (x2.2+1000)) v5))).bind fun v6=>cond (!v6) (some (.go (x2.1,(C9 (x2.2+1000))))) (((cond (decide ((C9 ((x2.1.length:Int) - 1))≥0)) (C8 x2.1 (C9 ((x2.1.length:Int) - 1))) (some default))).bind fun v7=>((cond ((decide ((C9 ((x2.1.length:Int) - 1))≥0))&& (v7.Lane_==x1.2)) (C8 x2.1 (C9 ((x2.1.length:Int) - 1))) (some default))).bind fun v8=>cond (((decide ((C9 ((x2.1.length:Int) - 1))≥0))&& (v7.Lane_==x1.2))&& (v8.To==x2.2)) ((C8 x2.1 (C9 ((x2.1.length:Int) - 1))).bind fun v9=>some (.go ((Qu x2.1 (C9 ((x2.1.length:Int) - 1)) (Span.mk v9.Lane_ v9.From (He false (C9 (x2.2+1000)) v5))),(C9 (x2.2+1000))))) ((Fk x2.1 [(Span.mk x1.2 x2.2 (He false (C9 (x2.2+1000)) v5))]).bind fun v10=>some (.go (v10,(C9 (x2.2+1000))))))) (some (.out x2.1))
def Ey [Lp](p1:Map)(p2:State)(p3:Int)(v4:Spot)(x1:((List Span)×Int)):Option (Stp ((List Span)×Int) (List Span)):=
  cond (decide (x1.2< (p1.Lanes.length:Int))) ((Kg p1 x1.2).bind fun v5=>(loop (Cj p1 p2 p3 v4 x1 v5) (x1.1,0)).bind fun y2=>some (.go (y2,(C9 (x1.2+1))))) (some (.out x1.1))
def Hb [Lp](p1:Map)(p2:State)(p3:Int):Option (List Span):=
  (Mp p1 p2).bind fun v1=>cond (((v1 !=0)||(decide (p3<0)))||(decide (p3>16777216))) (some []) ((C8 p2.Agents 0).bind fun v2=>(C8 p2.Agents 0).bind fun v3=>(Jk p1 v2.Route v3.S).bind fun v4=>(loop (Ey p1 p2 p3 v4) ([],0)).bind fun y1=>some y1)
theorem AH(p1 p2 p3 r)(h:Hb p1 p2 p3=some r):PCall prog 59 [(.agg (O8 p1)),(.agg (U5 p2)),(i64 p3)] (.list (List.map J2 r)):=by
 refine C0 (fk func59 ntmps59 (fun r=>if r==17 then [1002]else []) (by with_unfolding_all rfl)) (nl W) ?_
 unfold Hb at h
 refine B5 (s0:=⟨T [(0,(.d _)),(1,(.d _)),(2,(.d _))],G []⟩) (E3 W W) ?_
 refine lr<|fun u1 _=>sm W<|sm W<|sv W<|A1<|A4<|B1<|sd W (A6 W (gq W) W W)<|sd W (A6 W G_hit W W)<|bs h fun _ hv1 h=>B0 W W A2 (Yq _ _ _ hv1) (.inl W) (sv W<|sv W<|gf W (fun _=>W)<|gf W (vb W W W)<|sd W (L8 W W<|fun hc=>A3<|G0 hc)<|sv W<|gf W (fun _=>W)<|gf W (vb W W W)<|sd W (L8 W W<|fun hc=>A3<|G0 hc)<|A1<|cc W h (fun c1 h=> ?_)<|fun c1 h=> ?_)
 refine B1<|sv W<|A1<|B2 ?_
 cases h
 exact A7 (.inr W) (B4 (B3 W) B8) DLe.nil
 refine A8<|B1<|sv W<|A1<|A4<|Fj W fun u5 _=>sd W (A6 W (gq W) W W)<|sq W<|sl W G_hit W<|bs h fun _ hv2 h=>sd W (C5 W W hv2 W)<|sv W<|sd W (D1 W hv2 W)<|sq W<|sl W G_hit W<|bs h fun _ hv3 h=>sd W (C5 W W hv3 W)<|sv W<|sd W (D1 W hv3 W)<|bs h fun v4 hv4 h=>B0 W W A2 (Tw _ _ _ _ hv4) (.inl W) (sm W<|Q4 W G_hit [(di v4.X),(di v4.Y)] W (A1<|A4<|B1<|sv W<|A1<|bs h fun y1 hy1 h=>D3 (fun s=> ∃g1:Nat,Sb ⟨T [(7,(oS y1 (99,g1)))],G [((99,g1),oB 93 3 J2 y1)]⟩ s) ?_ ?_))
 refine A9<|D7 (Ey p1 p2 p3 v4) (fun (x1:((List Span)×Int)) (g2:Nat)=>⟨T [(2,(di p3)),(3,(.ptr (3,u1) 0)),(4,(.ptr (4,u1) 0)),(7,(oS x1.1 (99,g2))),(8,(.ptr (8,u5) 0)),(9,(di x1.2))],G [((3,u1),some<|.box 33 (K7 p1)),((4,u1),some<|.box 25 (J8 p2)),((8,u5),some<|.box 104 [(di v4.X),(di v4.Y)]),((99,g2),oB 93 3 J2 x1.1)]⟩) ([],0) 0 _ hy1 (D2 (X5 W)<|sg W<|sg W<|B6 G_hit (.of W)<|O9 trivial) ?_
 intro x1 g2 z1 hz1 ez1
 unfold Ey at hz1
 refine A4<|B1<|sv W<|sq W<|sl W G_hit W<|sd W (D0 W)<|sv W<|A1<|cc W hz1 (fun c2 hz1=> ?_)<|fun c2 hz1=> ?_
 refine A8<|A4<|A9<|B1<|sd W (A6 W G_hit W W)<|sv W<|bs hz1 fun v5 hv5 hz1=>B0 W W A2 (Wc _ _ _ hv5) (.inl W) (sv W<|A1<|B1<|sv W<|A1<|bs hz1 fun y2 hy2 hz1=>D3 (fun s=> ∃g3:Nat,Sb ⟨T [(2,(di p3)),(3,(.ptr (3,u1) 0)),(4,(.ptr (4,u1) 0)),(7,(oS y2 (99,g3))),(8,(.ptr (8,u5) 0)),(9,(di x1.2))],G [((3,u1),some<|.box 33 (K7 p1)),((4,u1),some<|.box 25 (J8 p2)),((8,u5),some<|.box 104 [(di v4.X),(di v4.Y)]),((99,g3),oB 93 3 J2 y2)]⟩ s) ?_ ?_)
 refine A9<|D7 (Cj p1 p2 p3 v4 x1 v5) (fun (x2:((List Span)×Int)) (g4:Nat)=>⟨T [(2,(di p3)),(3,(.ptr (3,u1) 0)),(4,(.ptr (4,u1) 0)),(7,(oS x2.1 (99,g4))),(8,(.ptr (8,u5) 0)),(9,(di x1.2)),(10,(di v5)),(11,(di x2.2))],G [((3,u1),some<|.box 33 (K7 p1)),((4,u1),some<|.box 25 (J8 p2)),((8,u5),some<|.box 104 [(di v4.X),(di v4.Y)]),((99,g4),oB 93 3 J2 x2.1)]⟩) (x1.1,0) g2 _ hy2 (D2 (X5 W)<|B6 G_hit (.of W)<|sg W<|sg W<|B7 (gq W) trivial) ?_
 intro x2 g4 z2 hz2 ez2
 unfold Cj at hz2
 refine A4<|B1<|sv W<|sv W<|sv W<|A1<|cc W hz2 (fun c3 hz2=> ?_)<|fun c3 hz2=> ?_
 refine A8<|A4<|A9<|B1<|sv W<|sv W<|sv W<|sv W<|sv W<|sv W<|sv W<|sm W<|Q4 W G_hit [(di x1.2),(di x2.2),(di<|He false (C9 (x2.2+1000)) v5)] W (A1<|A4<|B1<|sd W (A6 W (gq W) W W)<|sd W (A6 W (gq W) W W)<|sd W (A6 W (gq W) W W)<|sv W<|sd W (A6 W G_hit W W)<|bs hz2 fun v6 hv6 hz2=>B0 W W A2 (KZ _ _ _ _ _ _ hv6) (.inl W) (B9 (.d (bo (!v6))) W W (A1<|cc W hz2 (fun c4 hz2=> ?_)<|fun c4 hz2=> ?_)))
 refine Mx W<|C1<|sv W<|sv W<|sv W<|A1<|D6 ?_
 cases hz2
 exact ⟨W,g4,(D2 (X5 W)<|sg W<|sg W<|sg W<|B7 (gq W) trivial)⟩
 refine A8<|A4<|B1<|B9 (oS x2.1 (99,g4)) W W (sd W (aT (f:=J2) W (gq W))<|sv W<|sv W<|A1<|B1<|sv W<|sv W<|sv W<|M5 _ (oS x2.1 (99,g4)) W (I8 W) (fun _=>W) (gt W (fun _=>W)<|bs hz2 fun _ hv7 hz2=>M5 _ (.aptr _ _ _ _) W (I8 W) (fun w7=>(Xu (A3 w7) (A3 w7) (gq W) (C2 w7 hv7))) ?_))
 refine M5 _ (.aptr _ _ _ _) W (I8 W) (fun w8=>(by simp only [A3 w8];rfl)) ?_
 refine gt W (fun w9=>(Vb (A3 w9) (My (gq W)<|Fe<|C2 w9 hv7) (C2 w9 hv7) W))<|gt W (fun _=>W)<|gt W (fun w11=>(L4 (A3 w11) (A3 w11) W))<|sa W W W<|sv W<|M5 _ (oS x2.1 (99,g4)) W (I8 W) (fun _=>W) (gt W (fun _=>W)<|bs hz2 fun _ hv8 hz2=>M5 _ (.aptr _ _ _ _) W (I8 W) (fun w14=>(Xu (A3 w14) (A3 w14) (gq W) (C2 w14 hv8))) ?_)
 refine M5 _ (.aptr _ _ _ _) W (I8 W) (fun w15=>(by simp only [A3 w15];rfl)) ?_
 refine gt W (fun w16=>(Vb (A3 w16) (My (gq W)<|Fe<|C2 w16 hv8) (C2 w16 hv8) W))<|gt W (fun _=>W)<|gt W (fun w18=>(L4 (A3 w18) (A3 w18) W))<|sa W W W<|A1<|cc W hz2 (fun c5 hz2=> ?_)<|fun c5 hz2=> ?_
 refine B1<|B9 (oS x2.1 (99,g4)) W W (sv W<|sq W<|sl W G_hit W<|bs hz2 fun v9 hv9 hz2=>B9 (.aptr _ _ _ _) W (Xu W W (gq W) hv9) (B9 (.aptr _ _ _ _) W W ?_))
 rw [S5 (Fe hv9)]
 refine Pg J2 _ _ _ ((C9 ((x2.1.length:Int) - 1))) _ (Span.mk v9.Lane_ v9.From<|He false (C9 (x2.2+1000)) v5) [(i64<|He false (C9 (x2.2+1000)) v5)] W W W (My (gq W)<|Fe hv9) hv9 (nl W) W (A1<|Mx W<|C1<|sv W<|sv W<|sv W<|A1<|D6 ?_)
 cases hz2
 exact ⟨W,g4,(D2 ⟨.of W, .of W, .of W,(.of (S5<|Zh<|Fe hv9).symm), .of W, .of W, .of W, .of W,trivial⟩<|sg W<|sg W<|sg W<|L9 G_hit trivial)⟩
 refine A8<|Be fun u18 _=>B9 (oS x2.1 (99,g4)) W W (sd W (A6 W G_hit W W)<|B9 (dl J2 [(Span.mk x1.2 x2.2<|He false (C9 (x2.2+1000)) v5)]) W W (bs hz2 fun _ hv10 hz2=>O1 J2 (99,g4) x2.1 (Span.mk x1.2 x2.2<|He false (C9 (x2.2+1000)) v5) [] _ (M0<|fun _=>W) W (gq W) hv10 (ss W<|A1<|D4<|C1<|sv W<|sv W<|sv W<|A1<|D6 ?_)))
 cases hz2
 exact ⟨W,u18,(D2 ⟨.of W, .of W, .of W,(.of (S5<|T0 hv10).symm), .of W, .of W, .of W, .of W,trivial⟩<|sg W<|sg W<|sg W<|L9 G_hit trivial)⟩
 refine C6 W ?_
 cases hz2
 obtain rfl:=ez2 _ rfl
 refine ⟨nofun,C3 W<|T4 ?_⟩
 exact ⟨g4,(D2 (X5 W)<|B6 G_hit (.of W)<|sg W<|sg W<|B7 (gq W) trivial)⟩
 rintro _ ⟨g3,q1⟩
 refine D4<|B5 q1<|C1<|sv W<|sv W<|sv W<|A1<|D6 ?_
 cases hz1
 exact ⟨W,g3,(D2 (X5 W)<|B6 G_hit (.of W)<|sg W<|sg W<|B7 (gq W) trivial)⟩
 refine C6 W ?_
 cases hz1
 obtain rfl:=ez1 _ rfl
 refine ⟨nofun,C3 W<|T4 ?_⟩
 exact ⟨g2,(D2 ⟨.of W,trivial⟩<|B7 (gq W) trivial)⟩
 rintro _ ⟨g1,q2⟩
 refine B5 q2<|B1<|B9 (oS y1 (99,g1)) W W (B9 (oS y1 (99,g1)) W W (A1<|B2 ?_))
 cases h
 exact A7 (.inr W) (B4 (B3 W)<|U4 G_hit) U3
def Cp (p1:(List Span))(p2:(List Span))(x1:Int):Option (Stp Int (Sum Unit Bool)):=
  cond ((decide (x1< (p1.length:Int)))&& (decide (x1< (p2.length:Int)))) ((C8 p1 x1).bind fun v1=>(C8 p2 x1).bind fun v2=>cond (!(v1.Lane_==v2.Lane_&& (v1.From==v2.From&& (v1.To==v2.To&&true)))) (some (.out (.inr false))) (some (.go (C9 (x1+1))))) (some (.out (.inl ())))
def Io [Lp](p1:(List Span))(p2:(List Span)):Option Bool:=
  thenS (loop (Cp p1 p2) 0) (fun _=>some ((p1.length:Int)==(p2.length:Int))) (fun r=>some r)
theorem Uo(p1 p2 r)(h:Io p1 p2=some r):PCall prog 58 [(.list (List.map J2 p1)),(.list (List.map J2 p2))] (bo r):=by
 refine C0 (fk func58 ntmps58 m0 (by with_unfolding_all rfl)) (nl W) ?_
 unfold Io at h
 refine B5 (s0:=⟨T [(0,(.d _)),(1,(.d _))],G []⟩) (E3 W W) ?_
 refine B1<|sv W<|A1<|A4<|B1<|sv W<|A1<|js h fun z1 hz1 h=>D3 (fun s=> ∃(y1:Unit) (g1:Unit),z1= .inl y1∧Sb ⟨T [(0,(dl J2 p1)),(1,(dl J2 p2))],G []⟩ s) ?_ ?_
 refine A9<|D7 (Cp p1 p2) (fun (x1:Int) (g2:Unit)=>⟨T [(0,(dl J2 p1)),(1,(dl J2 p2)),(5,(di x1))],G []⟩) 0 () _ hz1 (E3 W W) ?_
 intro x1 g2 z2 hz2 ez2
 unfold Cp at hz2
 refine A4<|B1<|sv W<|sv W<|sd W (D0 W)<|sv W<|sv W<|gt W (fun _=>W)<|gt W (fun _=>W)<|gt W (fun w3=>(D0<|A3 w3))<|gt W (fun w4=>(L4 (A3 w4) (A3 w4) W))<|sa W W W<|A1<|cc W hz2 (fun c1 hz2=> ?_)<|fun c1 hz2=> ?_
 refine A8<|A4<|A9<|A4<|D5 W<|sv W<|sv W<|bs hz2 fun v1 hv1 hz2=>sd W (C5 W W hv1 W)<|sd W (C7 W hv1 W W)<|sv W<|sv W<|bs hz2 fun v2 hv2 hz2=>sd W (C5 W W hv2 W)<|sd W (C7 W hv2 W W)<|B9 (.d (bo (!(v1.Lane_==v2.Lane_&& (v1.From==v2.From&& (v1.To==v2.To&&true)))))) W W (A1<|cc W hz2 (fun c2 hz2=> ?_)<|fun c2 hz2=> ?_)
 refine B1<|sv W<|A1<|B2 ?_
 cases hz2
 obtain rfl:=ez2 _ rfl
 refine ⟨nofun,E5 ?_⟩
 rw [bT]at h
 cases h
 exact A7 (.inr W) (B4 (B3 W) B8) (.refl _)
 refine A8<|D4<|C1<|sv W<|sv W<|sv W<|A1<|D6 ?_
 cases hz2
 exact ⟨W,(),(E3 W W)⟩
 refine C6 W ?_
 cases hz2
 obtain rfl:=ez2 _ rfl
 refine ⟨nofun,C3 W<|T4 ?_⟩
 exact ⟨_,(),W,(E3 W W)⟩
 rintro _ ⟨y1,g1,rfl,q1⟩
 rw [bS]at h
 refine B5 q1<|B1<|sv W<|sd W (D0 W)<|sv W<|sd W (D0 W)<|sv W<|sv W<|A1<|B2 ?_
 cases h
 exact A7 (.inr W) (B4 (B3 W) B8) (.refl _)
def Up (p1:Int)(p2:Int):Option Int:=
  (Xr p1 p2).bind fun v1=>(Xr (C9 (v1+p2)) p2).bind fun v2=>some v2
theorem OJ(p1 p2 r)(h:Up p1 p2=some r):PCall prog 105 [(i64 p1),(i64 p2)] (i64 r):=by
 refine C0 (fk func105 ntmps105 m0 (by with_unfolding_all rfl)) (nl W) ?_
 unfold Up at h
 refine B5 (s0:=⟨T [(0,(.d _)),(1,(.d _))],G []⟩) (E3 W W) ?_
 refine B1<|sv W<|A1<|B1<|sv W<|sv W<|bs h fun _ hv1 h=>sd W (CP W W hv1)<|sv W<|sv W<|sv W<|bs h fun _ hv2 h=>sd W (CP W W hv2)<|sv W<|A1<|B2 ?_
 cases h
 exact A7 (.inr W) (B4 (B3 W) B8) (.refl _)
def Z2 (p1:Int)(p2:Int)(p3:(List Int)):Option (Int×Int):=
  cond (decide (p2≥(p3.length:Int))) (some (0,p2)) ((C8 p3 (C9 ((C9 (p2+1)) - 1))).bind fun v1=>(Up v1 (C9 ((C9 (2*p1))+1))).bind fun v2=>some ((C9 (v2 - p1)),(C9 (p2+1))))
theorem Jm(p1 p2 p3 r)(h:Z2 p1 p2 p3=some r):MCall prog 128 [(di p1),(.ptr (900000,0) 0),(.ptr (900001,0) 0)] [(.box 3 [(di p2)]),(.box 48 [(dl A5 p3)])] (di r.1) [some (.box 3 [(di r.2)]),some (.box 48 [(dl A5 p3)])] []:=by
 refine Td (fk func128 ntmps128 m0 (by with_unfolding_all rfl)) W (nl W) ?_
 unfold Z2 at h
 refine B5 (s0:=⟨T [(0,(.d _)),(1,(.ptr _ _)),(2,(.ptr _ _))],G [((900000,0),some<|.box 3 _),((900001,0),some<|.box 48 _)]⟩) (E3 W W) ?_
 refine B1<|sv W<|A1<|A4<|B1<|sl W G_hit W<|sl W (gq W) W (sd W (D0 W)<|sv W<|A1<|cc W h (fun c1 h=> ?_)<|fun c1 h=> ?_)
 refine B1<|sv W<|A1<|B2 ?_
 cases h
 exact Vc (.inr W) [] (cD (B3 W) B8) (.refl _) ⟨⟨_,_,_,G_hit,W8,W,OB,W⟩,⟨_,_,_,(gq W),W8,W,OB,W⟩,trivial⟩
 refine A8<|B1<|sl W G_hit W<|sv W<|Q4 W G_hit [(di<|C9 (p2+1))] W (A1<|B1<|sl W (gq W) W (sl W G_hit W<|sv W<|bs h fun _ hv1 h=>sd W (C5 W W hv1 W)<|sd W (D1 W hv1 W)<|sv W<|sv W<|sv W<|bs h fun _ hv2 h=>B0 W W A2 (OJ _ _ _ hv2) (.inl W) (sv W<|sv W<|sv W<|A1<|B2 ?_)))
 cases h
 exact Vc (.inr W) [] (cD (B3 W) B8) (.refl _) ⟨⟨_,_,_,G_hit,W8,W,OB,W⟩,⟨_,_,_,(gq W),W8,W,OB,W⟩,trivial⟩
end
end Go.Abs.World
