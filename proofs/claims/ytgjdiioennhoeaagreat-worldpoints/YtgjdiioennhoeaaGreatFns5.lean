/-
  The functions, part 5.
-/
import Derived.Test.YtgjdiioennhoeaaGreatFns4
set_option maxRecDepth 20000
set_option maxHeartbeats 4000000
set_option linter.unusedVariables false
namespace Go.Abs.World
noncomputable section
open Go Go.Abs Go.Proofs Tryz
attribute [local irreducible] L7 Fc Df
def Mb [Lp](p1:Spot)(p2:Spot)(p3:Spot)(p4:Spot):Option Bool:=
  (Cw [p1,p2,p3,p4]).bind fun v1=>cond (!v1) (some false) ((Lb p1 p2 p3).bind fun v2=>(Lb p1 p2 p4).bind fun v3=>(Lb p3 p4 p1).bind fun v4=>(Lb p3 p4 p2).bind fun v5=>cond ((decide ((D4 (v2*v3))<0))&& (decide ((D4 (v4*v5))<0))) (some true) (((cond (v2==0) (Dw p1 p2 p3) (some default))).bind fun v6=>((cond ((!((v2==0)&&v6))&& (v3==0)) (Dw p1 p2 p4) (some default))).bind fun v7=>((cond ((!(((v2==0)&&v6)||((v3==0)&&v7)))&& (v4==0)) (Dw p3 p4 p1) (some default))).bind fun v8=>((cond ((!((((v2==0)&&v6)||((v3==0)&&v7))||((v4==0)&&v8)))&& (v5==0)) (Dw p3 p4 p2) (some default))).bind fun v9=>some (((((v2==0)&&v6)||((v3==0)&&v7))||((v4==0)&&v8))||((v5==0)&&v9))))
theorem Yq(p1 p2 p3 p4 r)(h:Mb p1 p2 p3 p4=some r):PCall prog 233 [(.agg [(i64 p1.X),(i64 p1.Y)]),(.agg [(i64 p2.X),(i64 p2.Y)]),(.agg [(i64 p3.X),(i64 p3.Y)]),(.agg [(i64 p4.X),(i64 p4.Y)])] (bo r):=by
 refine C2 (fk func233 ntmps233 (fun r=>if r==1 then [1004]else []) (by with_unfolding_all rfl)) (nl W) ?_
 unfold Mb at h
 refine B5 (s0:=⟨T [(0,(.d _)),(1,(.d _)),(2,(.d _)),(3,(.d _))],G []⟩) (E8 W W) ?_
 refine B1<|sm W<|sn W W<|sm W<|sn W W<|sv W<|A1<|A4<|B1<|sd W (A7 W (gq W) W W)<|sd W (A7 W (gq W) W W)<|sd W (A7 W (gq W) W W)<|sd W (A7 W G_hit W W)<|B8 (dl V0 [p1,p2,p3,p4]) W W (bs h fun v1 hv1 h=>B0 W W A2 (Mm _ _ hv1) (.inl W) (B8 (.d (bo (!v1))) W W (A1<|cc W h (fun c1 h=> ?_)<|fun c1 h=> ?_)))
 refine B1<|sv W<|A1<|B2 ?_
 cases h
 exact A6 (.inr W) (B6 (B3 W) C0) (.refl _)
 refine A9<|A4<|E3 W<|sd W (A7 W (gq W) W W)<|sd W (A7 W (gq W) W W)<|sd W (A7 W (gq W) W W)<|bs h fun _ hv2 h=>B0 W W A2 (Qw _ _ _ _ hv2) (.inl W) (sd W (A7 W (gq W) W W)<|sd W (A7 W (gq W) W W)<|sd W (A7 W G_hit W W)<|bs h fun _ hv3 h=>B0 W W A2 (Qw _ _ _ _ hv3) (.inl W) (sd W (A7 W (gq W) W W)<|sd W (A7 W G_hit W W)<|sd W (A7 W (gq W) W W)<|bs h fun _ hv4 h=>B0 W W A2 (Qw _ _ _ _ hv4) (.inl W) (sd W (A7 W (gq W) W W)<|sd W (A7 W G_hit W W)<|sd W (A7 W (gq W) W W)<|bs h fun _ hv5 h=>B0 W W A2 (Qw _ _ _ _ hv5) (.inl W) (sv W<|sv W<|sv W<|sv W<|A1<|A4<|B1<|sv W<|sv W<|sv W<|sv W<|sv W<|gt W (fun _=>W)<|gt W (fun _=>W)<|gt W (fun w3=>(L6 (A3 w3) (A3 w3) W))<|gt W (vb W W W)<|sa W W W<|A1<|cc W h (fun c2 h=> ?_)<|fun c2 h=> ?_))))
 refine B1<|sv W<|A1<|B2 ?_
 cases h
 exact A6 (.inr W) (B6 (B3 W) C0) (.refl _)
 refine A9<|B1<|sv W<|sv W<|sv W<|gt W (fun _=>(A7 W (gq W) W W))<|gt W (fun _=>(A7 W (gq W) W W))<|gt W (fun _=>(A7 W (gq W) W W))<|bs h fun v6 hv6 h=> ?_
 refine L9 _ (bo v6) (K6 W) (fun w8=>⟨_,[(.d (.agg [(i64 p1.X),(i64 p1.Y)])),(.d (.agg [(i64 p2.X),(i64 p2.Y)])),(.d (.agg [(i64 p3.X),(i64 p3.Y)]))],_,_,(by simp only [A3 w8];rfl),W,A2,Ma _ _ _ _<|C1 w8 hv6,(.inl W)⟩) ?_
 refine sa W W W<|sv W<|gf W (fun _=>W)<|gf W (vb W W W)<|gf W (fun w11=>(JP<|A3 w11))<|gv W (P8 W) (fun _=>(A7 W (gq W) W W)) (gv W (P8 W) (fun _=>(A7 W (gq W) W W)) (gv W (P8 W) (fun _=>(A7 W G_hit W W)) (bs h fun v7 hv7 h=> ?_)))
 refine L9 _ (bo v7) (P8 W) (fun w15=>⟨_,[(.d (.agg [(i64 p1.X),(i64 p1.Y)])),(.d (.agg [(i64 p2.X),(i64 p2.Y)])),(.d (.agg [(i64 p4.X),(i64 p4.Y)]))],_,_,(by simp only [A3 w15];rfl),W,A2,Ma _ _ _ _<|C1 w15 hv7,(.inl W)⟩) ?_
 refine gf W (fun w16=>(AG (A3 w16) (fun hc=>A3<|Yj w16 hc) W))<|sd W (N7 W W<|fun hc=>A3<|I7 hc)<|sv W<|gf W (fun _=>W)<|gf W (vb W W W)<|gf W (fun w19=>(JP<|A3 w19))<|gv W (P8 W) (fun _=>(A7 W (gq W) W W)) (gv W (P8 W) (fun _=>(A7 W G_hit W W)) (gv W (P8 W) (fun _=>(A7 W (gq W) W W)) (bs h fun v8 hv8 h=> ?_)))
 refine L9 _ (bo v8) (P8 W) (fun w23=>⟨_,[(.d (.agg [(i64 p3.X),(i64 p3.Y)])),(.d (.agg [(i64 p4.X),(i64 p4.Y)])),(.d (.agg [(i64 p1.X),(i64 p1.Y)]))],_,_,(by simp only [A3 w23];rfl),W,A2,Ma _ _ _ _<|C1 w23 hv8,(.inl W)⟩) ?_
 refine gf W (fun w24=>(AG (A3 w24) (fun hc=>A3<|Yj w24 hc) W))<|sd W (N7 W W<|fun hc=>A3<|I7 hc)<|sv W<|gf W (fun _=>W)<|gf W (vb W W W)<|gf W (fun w27=>(JP<|A3 w27))<|gv W (P8 W) (fun _=>(A7 W (gq W) W W)) (gv W (P8 W) (fun _=>(A7 W G_hit W W)) (gv W (P8 W) (fun _=>(A7 W (gq W) W W)) (bs h fun v9 hv9 h=> ?_)))
 refine L9 _ (bo v9) (P8 W) (fun w31=>⟨_,[(.d (.agg [(i64 p3.X),(i64 p3.Y)])),(.d (.agg [(i64 p4.X),(i64 p4.Y)])),(.d (.agg [(i64 p2.X),(i64 p2.Y)]))],_,_,(by simp only [A3 w31];rfl),W,A2,Ma _ _ _ _<|C1 w31 hv9,(.inl W)⟩) ?_
 refine gf W (fun w32=>(AG (A3 w32) (fun hc=>A3<|Yj w32 hc) W))<|sd W (N7 W W<|fun hc=>A3<|I7 hc)<|sv W<|A1<|B2 ?_
 cases h
 exact A6 (.inr W) (B6 (B3 W) C0) (.refl _)
def Y4 [Lp](p1:WorldLooks)(p2:Span)(v3:Spot)(x2:Int):Option (Stp Int (Sum Unit Bool)):=
  cond (decide (x2< (p1.bars.length:Int))) ((C3 p1.bars x2).bind fun v10=>(C3 p1.bodies x2).bind fun v11=>(Ru v11 p2).bind fun v12=>((cond (!v12.2) (Mb p1.eye v3 v10.front v10.rear) (some default))).bind fun v13=>cond ((!v12.2)&&v13) (some (.out (.inr false))) (some (.go (D4 (x2+1))))) (some (.out (.inl ())))
def Y5 [Lp](p1:WorldLooks)(p2:Span)(v2:Spot)(x1:Int):Option (Stp Int (Sum Unit Bool)):=
  cond (decide (x1< (p1.bars.length:Int))) ((C3 p1.bars x1).bind fun v5=>(C3 p1.bodies x1).bind fun v6=>(Ru v6 p2).bind fun v7=>((cond (!v7.2) (Mb p1.eye v2 v5.front v5.rear) (some default))).bind fun v8=>cond ((!v7.2)&&v8) (some (.out (.inr false))) (some (.go (D4 (x1+1))))) (some (.out (.inl ())))
def Eo [Lp](p1:WorldLooks)(p2:Span):Option Bool:=
  (C3 p1.m.Lanes p2.Lane_).bind fun v1=>(Jl v1.Curve_ p2.From).bind fun v2=>(Jl v1.Curve_ p2.To).bind fun v3=>thenS ((Qj p1.eye v2 p1.view).bind fun v4=>cond (!v4) (some (.inr false)) (thenS (loop (Y5 p1 p2 v2) 0) (fun _=>(Qj p1.eye v3 p1.view).bind fun v9=>cond (!v9) (some (.inr false)) (thenS (loop (Y4 p1 p2 v3) 0) (fun _=>some (.inl ())) (fun r=>some (.inr r)))) (fun r=>some (.inr r)))) (fun _=>some true) (fun r=>some r)
theorem Zh(p1 p2 r)(h:Eo p1 p2=some r):PCall prog 194 [(.bp (Ri p1) 0),(.agg (N8 p2))] (bo r):=by
 refine C2 (fk func194 ntmps194 m0 (by with_unfolding_all rfl)) (nl W) ?_
 unfold Eo at h
 refine B5 (s0:=⟨T [(0,(.d _)),(1,(.d _))],G []⟩) (E8 W W) ?_
 refine lr<|fun u1 _=>sm W<|sv W<|A1<|A4<|E3 W<|sv W<|sv W<|sv W<|sv W<|sv W<|sq W<|sl W G_hit W<|bs h fun v1 hv1 h=>sd W (C4 W W hv1 W)<|sv W<|sd W (D0 W hv1 W W)<|sm W<|P5 W G_hit [(dl V0 v1.Curve_.Pts)] W (A1<|A4<|A4<|E3 W<|sd W (A7 W G_hit W W)<|sq W<|sl W (gq W) W (bs h fun v2 hv2 h=>B0 W W A2 (Vl _ _ _ hv2) (.inl W) (sd W (A7 W G_hit W W)<|sq W<|sl W (gq W) W (bs h fun v3 hv3 h=>B0 W W A2 (Vl _ _ _ hv3) (.inl W) (sv W<|sv W<|A1<|js h fun z1 hz1 h=>D7 (fun s=> ∃(y1:Unit) (g1:Unit),z1= .inl y1∧Sb ⟨T [],G []⟩ s) ?_ ?_)))))
 refine A8<|Tu<|B1<|sv W<|A1<|A4<|Vf W<|A9<|A4<|A8<|lr<|fun u5 _=>sv W<|sm W<|P5 W G_hit [(di v2.X),(di v2.Y)] W (A1<|A4<|A4<|E3 W<|sv W<|sv W<|sv W<|sv W<|sd W (A7 W G_hit W W)<|sv W<|sv W<|sv W<|sv W<|bs hz1 fun v4 hv4 hz1=>B0 W W A2 (DE _ _ _ _ hv4) (.inl W) (B8 (.d (bo (!v4))) W W (A1<|cc W hz1 (fun c1 hz1=> ?_)<|fun c1 hz1=> ?_)))
 refine B1<|sv W<|A1<|B2 ?_
 cases hz1
 rw [wC]at h
 cases h
 exact A6 (.inr W) (B6 (B3 W) C0) (.refl _)
 refine A9<|B1<|sv W<|sv W<|sv W<|sv W<|sd W (D6 W)<|sv W<|A1<|js hz1 fun z2 hz2 hz1=>D7 (fun s=> ∃(y2:Unit) (g2:Unit),z2= .inl y2∧Sb ⟨T [(0,(.d (.bp (Ri p1) 0))),(3,(.ptr (3,u1) 0)),(30,(.d (.agg [(i64 v2.X),(i64 v2.Y),(i64 v3.X),(i64 v3.Y)]))),(31,(di 0))],G [((3,u1),some<|.box 93 (CU p2))]⟩ s) ?_ ?_
 refine A8<|E2 (Y5 p1 p2 v2) (fun (x1:Int) (g3:Unit)=>⟨T [(0,(.d (.bp (Ri p1) 0))),(3,(.ptr (3,u1) 0)),(7,(.ptr (7,u5) 0)),(30,(.d (.agg [(i64 v2.X),(i64 v2.Y),(i64 v3.X),(i64 v3.Y)]))),(31,(di 0)),(48,(dl Cm p1.bars)),(49,(di (p1.bars.length:Int))),(50,(di x1))],G [((3,u1),some<|.box 93 (CU p2)),((7,u5),some<|.box 104 [(di v2.X),(di v2.Y)])]⟩) 0 () _ hz2 (E8 W W) ?_
 intro x1 g3 z3 hz3 ez3
 unfold Y5 at hz3
 refine B1<|sv W<|A1<|A4<|cc W hz3 (fun c2 hz3=> ?_)<|fun c2 hz3=> ?_
 refine A9<|A4<|A8<|B1<|sv W<|bs hz3 fun v5 hv5 hz3=>sd W (C4 W W hv5 W)<|sd W (D0 W hv5 W W)<|sm W<|sv W<|P5 W G_hit (PY v5) W (A1<|A4<|E3 W<|sv W<|sv W<|sv W<|sv W<|sv W<|bs hz3 fun _ hv6 hz3=>sd W (C4 W W hv6 W)<|sd W (C8 W hv6 W)<|sd W (A7 W (gq W) W W)<|bs hz3 fun v7 hv7 hz3=>B0 W W A2 (BC _ _ _ hv7) (.inl W) (sv W<|sv W<|sv W<|sm W<|P5 W G_hit [(di v7.1.from_),(di v7.1.to)] W (sv W<|A1<|A4<|E3 W<|sv W<|B8 (.d (bo (!v7.2))) W W (sv W<|gt W (fun _=>W) ?_))))
 refine gt W (fun w2=>(by simp only [A3 w2];rfl)) ?_
 refine gt W (fun w3=>(by simp only [A3 w3];rfl)) ?_
 refine gt W (fun w4=>(by simp only [A3 w4];rfl)) ?_
 refine gt W (fun _=>(A7 W (gq W) W W))<|gp W (K6 W) (fun _=>W) (gt W (fun w7=>(A7 (A3 w7) (gq W) W W))<|gp W (K6 W) (fun _=>W) (gt W (fun w9=>(A7 (A3 w9) (gq W) W W))<|bs hz3 fun v8 hv8 hz3=> ?_))
 refine L9 _ (bo v8) (K6 W) (fun w10=>⟨_,[(.d (.agg [(i64 p1.eye.X),(i64 p1.eye.Y)])),(.d (.agg [(i64 v2.X),(i64 v2.Y)])),(.d (.agg [(i64 v5.front.X),(i64 v5.front.Y)])),(.d (.agg [(i64 v5.rear.X),(i64 v5.rear.Y)]))],_,_,(by simp only [A3 w10];rfl),W,A2,Yq _ _ _ _ _<|C1 w10 hv8,(.inl W)⟩) ?_
 refine sa W W W<|A1<|cc W hz3 (fun c3 hz3=> ?_)<|fun c3 hz3=> ?_
 refine B1<|sv W<|A1<|B2 ?_
 cases hz3
 obtain rfl:=ez3 _ rfl
 refine ⟨nofun,E7 ?_⟩
 rw [wC]at hz1
 cases hz1
 rw [wC]at h
 cases h
 exact A6 (.inr W) (B6 (B3 W) C0) (.refl _)
 refine A9<|D9<|B9<|sv W<|sv W<|A1<|E1 ?_
 cases hz3
 exact ⟨W,(),(E8 W W)⟩
 refine C7 W ?_
 cases hz3
 obtain rfl:=ez3 _ rfl
 refine ⟨nofun,C5 W<|T0 ?_⟩
 exact ⟨_,(),W,(E8 W W)⟩
 rintro _ ⟨y2,g2,rfl,q1⟩
 rw [wB]at hz1
 refine D9<|B5 q1<|B9<|sv W<|sv W<|A1<|Tu<|B1<|sv W<|A1<|A4<|Vf W<|A9<|A4<|A8<|lr<|fun u17 _=>sv W<|sm W<|P5 W G_hit [(di v3.X),(di v3.Y)] W (A1<|A4<|A4<|E3 W<|sv W<|sv W<|sv W<|sv W<|sd W (A7 W G_hit W W)<|sv W<|sv W<|sv W<|sv W<|bs hz1 fun v9 hv9 hz1=>B0 W W A2 (DE _ _ _ _ hv9) (.inl W) (B8 (.d (bo (!v9))) W W (A1<|cc W hz1 (fun c4 hz1=> ?_)<|fun c4 hz1=> ?_)))
 refine B1<|sv W<|A1<|B2 ?_
 cases hz1
 rw [wC]at h
 cases h
 exact A6 (.inr W) (B6 (B3 W) C0) (.refl _)
 refine A9<|B1<|sv W<|sv W<|sv W<|sv W<|sd W (D6 W)<|sv W<|A1<|js hz1 fun z4 hz4 hz1=>D7 (fun s=> ∃(y3:Unit) (g4:Unit),z4= .inl y3∧Sb ⟨T [(0,(.d (.bp (Ri p1) 0))),(3,(.ptr (3,u1) 0)),(30,(.d (.agg [(i64 v2.X),(i64 v2.Y),(i64 v3.X),(i64 v3.Y)]))),(31,(di 1))],G [((3,u1),some<|.box 93 (CU p2))]⟩ s) ?_ ?_
 refine A8<|E2 (Y4 p1 p2 v3) (fun (x2:Int) (g5:Unit)=>⟨T [(0,(.d (.bp (Ri p1) 0))),(3,(.ptr (3,u1) 0)),(7,(.ptr (7,u17) 0)),(30,(.d (.agg [(i64 v2.X),(i64 v2.Y),(i64 v3.X),(i64 v3.Y)]))),(31,(di 1)),(48,(dl Cm p1.bars)),(49,(di (p1.bars.length:Int))),(50,(di x2))],G [((3,u1),some<|.box 93 (CU p2)),((7,u17),some<|.box 104 [(di v3.X),(di v3.Y)])]⟩) 0 () _ hz4 (E8 W W) ?_
 intro x2 g5 z5 hz5 ez5
 unfold Y4 at hz5
 refine B1<|sv W<|A1<|A4<|cc W hz5 (fun c5 hz5=> ?_)<|fun c5 hz5=> ?_
 refine A9<|A4<|A8<|B1<|sv W<|bs hz5 fun v10 hv10 hz5=>sd W (C4 W W hv10 W)<|sd W (D0 W hv10 W W)<|sm W<|sv W<|P5 W G_hit (PY v10) W (A1<|A4<|E3 W<|sv W<|sv W<|sv W<|sv W<|sv W<|bs hz5 fun _ hv11 hz5=>sd W (C4 W W hv11 W)<|sd W (C8 W hv11 W)<|sd W (A7 W (gq W) W W)<|bs hz5 fun v12 hv12 hz5=>B0 W W A2 (BC _ _ _ hv12) (.inl W) (sv W<|sv W<|sv W<|sm W<|P5 W G_hit [(di v12.1.from_),(di v12.1.to)] W (sv W<|A1<|A4<|E3 W<|sv W<|B8 (.d (bo (!v12.2))) W W (sv W<|gt W (fun _=>W) ?_))))
 refine gt W (fun w12=>(by simp only [A3 w12];rfl)) ?_
 refine gt W (fun w13=>(by simp only [A3 w13];rfl)) ?_
 refine gt W (fun w14=>(by simp only [A3 w14];rfl)) ?_
 refine gt W (fun _=>(A7 W (gq W) W W))<|gp W (K6 W) (fun _=>W) (gt W (fun w17=>(A7 (A3 w17) (gq W) W W))<|gp W (K6 W) (fun _=>W) (gt W (fun w19=>(A7 (A3 w19) (gq W) W W))<|bs hz5 fun v13 hv13 hz5=> ?_))
 refine L9 _ (bo v13) (K6 W) (fun w20=>⟨_,[(.d (.agg [(i64 p1.eye.X),(i64 p1.eye.Y)])),(.d (.agg [(i64 v3.X),(i64 v3.Y)])),(.d (.agg [(i64 v10.front.X),(i64 v10.front.Y)])),(.d (.agg [(i64 v10.rear.X),(i64 v10.rear.Y)]))],_,_,(by simp only [A3 w20];rfl),W,A2,Yq _ _ _ _ _<|C1 w20 hv13,(.inl W)⟩) ?_
 refine sa W W W<|A1<|cc W hz5 (fun c6 hz5=> ?_)<|fun c6 hz5=> ?_
 refine B1<|sv W<|A1<|B2 ?_
 cases hz5
 obtain rfl:=ez5 _ rfl
 refine ⟨nofun,E7 ?_⟩
 rw [wC]at hz1
 cases hz1
 rw [wC]at h
 cases h
 exact A6 (.inr W) (B6 (B3 W) C0) (.refl _)
 refine A9<|D9<|B9<|sv W<|sv W<|A1<|E1 ?_
 cases hz5
 exact ⟨W,(),(E8 W W)⟩
 refine C7 W ?_
 cases hz5
 obtain rfl:=ez5 _ rfl
 refine ⟨nofun,C5 W<|T0 ?_⟩
 exact ⟨_,(),W,(E8 W W)⟩
 rintro _ ⟨y3,g4,rfl,q2⟩
 rw [wB]at hz1
 refine D9<|B5 q2<|B9<|sv W<|sv W<|A1<|Tu<|B1<|sv W<|A1<|A4<|Sv W<|Pu W ?_
 cases hz1
 exact T0 ⟨_,(),W,(E8 W W)⟩
 rintro _ ⟨y1,g1,rfl,q3⟩
 rw [wB]at h
 refine B5 q3<|B1<|sv W<|A1<|B2 ?_
 cases h
 exact A6 (.inr W) (B6 (B3 W) C0) (.refl _)
def Dx [Lp](y1:WorldLooks)(x2:((List Span)×Int))(v12:Int)(x3:((List Span)×Int)):Option (Stp ((List Span)×Int) (List Span)):=
  cond (decide (x3.2<v12)) ((Eo y1 (Span.mk x2.2 x3.2 (Li false (D4 (x3.2+1000)) v12))).bind fun v13=>cond (!v13) (some (.go (x3.1,(D4 (x3.2+1000))))) (((cond (decide ((x3.1.length:Int)>0)) (C3 x3.1 (D4 ((x3.1.length:Int) - 1))) (some default))).bind fun v14=>cond ((decide ((x3.1.length:Int)>0))&& (v14.To==x3.2)) ((C3 x3.1 (D4 ((x3.1.length:Int) - 1))).bind fun v15=>some (.go ((Oh x3.1 (D4 ((x3.1.length:Int) - 1)) (Span.mk v15.Lane_ v15.From (Li false (D4 (x3.2+1000)) v12))),(D4 (x3.2+1000))))) ((Ah x3.1 [(Span.mk x2.2 x3.2 (Li false (D4 (x3.2+1000)) v12))]).bind fun v16=>some (.go (v16,(D4 (x3.2+1000))))))) (some (.out x3.1))
def Wb [Lp](y1:WorldLooks)(x2:((List Span)×Int)):Option (List Span):=
  (Am y1.m x2.2).bind fun v12=>(loop (Dx y1 x2 v12) ([],0)).bind fun y5=>some y5
def Mw [Lp](p1:Map)(y1:WorldLooks)(x2:((List Span)×Int)):Option (Stp ((List Span)×Int) (List Span)):=
  cond (decide (x2.2< (p1.Lanes.length:Int))) ((Wb y1 x2).bind fun y4=>(Ah x2.1 y4).bind fun v17=>some (.go (v17,(D4 (x2.2+1))))) (some (.out x2.1))
def Kb [Lp](p1:Map)(p2:State)(x1:(Int× ((List (List Span))× (List WorldBar)))):Option (Stp (Int× ((List (List Span))× (List WorldBar))) ((List (List Span))× (List WorldBar))):=
  cond (decide (x1.1< (p2.Agents.length:Int))) ((C3 p2.Agents x1.1).bind fun v5=>((cond (decide (x1.1>0)) (Ds p2 x1.1) (some default))).bind fun v6=>cond ((decide (x1.1>0))&&v6) ((Eh p1 v5).bind fun v7=>(Ah x1.2.1 [v7]).bind fun v8=>(Rs p1 v5.Route v5.S).bind fun v9=>(Rs p1 v5.Route (D4 (v5.S - v5.Len))).bind fun v10=>(Ah x1.2.2 [(WorldBar.mk v9 v10)]).bind fun v11=>some (.go ((D4 (x1.1+1)),(v8,v11)))) (some (.go ((D4 (x1.1+1)),x1.2)))) (some (.out x1.2))
def Mx [Lp](p1:Map)(p2:State)(p3:Int):Option WorldLooks:=
  (C3 p2.Agents 0).bind fun v2=>(C3 p2.Agents 0).bind fun v3=>(Rs p1 v2.Route v3.S).bind fun v4=>(loop (Kb p1 p2) (0,([],[]))).bind fun y2=>some (WorldLooks.mk p1 v4 p3 y2.1 y2.2)
def Qk [Lp](p1:Map)(p2:State)(p3:Int):Option (List Span):=
  (Qh p1 p2 p3).bind fun v1=>cond (!v1) (some []) ((Mx p1 p2 p3).bind fun y1=>(loop (Mw p1 y1) ([],0)).bind fun y3=>some y3)
theorem OW(p1 p2 p3 r)(h:Qk p1 p2 p3=some r):PCall prog 57 [(.agg (P0 p1)),(.agg (X7 p2)),(i64 p3)] (.list (List.map N8 r)):=by
 refine C2 (fk func57 ntmps57 (fun r=>if r==4 then [3]else if r==8 then [3]else []) (by with_unfolding_all rfl)) (nl W) ?_
 unfold Qk at h
 refine B5 (s0:=⟨T [(0,(.d _)),(1,(.d _)),(2,(.d _))],G []⟩) (E8 W W) ?_
 refine lr<|fun u1 _=>sm W<|sm W<|sv W<|A1<|A4<|B1<|sd W (A7 W (gq W) W W)<|sd W (A7 W G_hit W W)<|sv W<|bs h fun v1 hv1 h=>B0 W W A2 (DD _ _ _ _ hv1) (.inl W) (B8 (.d (bo (!v1))) W W (A1<|cc W h (fun c1 h=> ?_)<|fun c1 h=> ?_))
 refine B1<|sv W<|A1<|B2 ?_
 cases h
 exact A6 (.inr W) (B6 (B3 W) C0) DLe.nil
 refine A9<|B1<|sv W<|A1<|B1<|sd W (A7 W (gq W) W W)<|sd W (A7 W G_hit W W)<|sv W<|bs h fun y1 hy1 h=>Xm (fk func123 ntmps123 (fun r=>if r==6 then [1008]else if r==7 then [1021]else []) (by with_unfolding_all rfl)) (fun (g1:(Nat×Nat×Nat))=> [(3,(.ptr (3,u1) 0)),(7,(.d .nilS)),(18,(.ptr (25,g1.2.2) 0))]) (fun (g1:(Nat×Nat×Nat))=> [((3,u1),some<|.box 33 (K4 p1)),((50,g1.1),oB 90 1 Nd y1.bodies),((75,g1.2.1),oB 248 4 Cm y1.bars),((25,g1.2.2),some<|.box 246 (((Nw y1).set 8 (oS y1.bodies (50,g1.1))).set 9 (oS y1.bars (75,g1.2.1))))]) W (nl W) ?_ ?_
 unfold Mx at hy1
 refine B5 (s0:=⟨T [(0,(.d _)),(1,(.d _)),(2,(.d _))],G [((3,u1),some<|.box 33 _)]⟩) (E8 W W) ?_
 refine lr<|fun u6 hu6=>sm W<|sm W<|sv W<|A1<|A4<|Gy W fun u7 _=>sd W (A7 W (gq W) W W)<|sv W<|sd W (A7 W (gq W) W W)<|sq W<|sl W G_hit W<|bs hy1 fun _ hv2 hy1=>sd W (C4 W W hv2 W)<|sv W<|sd W (C8 W hv2 W)<|sq W<|sl W G_hit W<|bs hy1 fun _ hv3 hy1=>sd W (C4 W W hv3 W)<|sv W<|sd W (C8 W hv3 W)<|bs hy1 fun v4 hv4 hy1=>B0 W W A2 (BB _ _ _ _ hv4) (.inl W) (sv W<|sm W<|sq W<|A1<|A4<|B1<|sq W<|sl W (gq W) W (sd W (D6 W)<|sv W<|A1<|bs hy1 fun y2 hy2 hy1=>D7 (fun s=> ∃g2:(Nat×Nat),Sb ⟨T [(7,(.ptr (25,u7) 0))],G [((25,u7),some<|.box 246 ((K4 p1)++ [(di v4.X),(di v4.Y),(di p3),(oS y2.1 (50,g2.1)),(oS y2.2 (75,g2.2))])),((3,u1),some<|.box 33 (K4 p1)),((50,g2.1),oB 90 1 Nd y2.1),((75,g2.2),oB 248 4 Cm y2.2)]⟩ s) ?_ ?_))
 refine A8<|E2 (Kb p1 p2) (fun (x1:(Int× ((List<|List Span)× (List WorldBar)))) (g3:(Nat×Nat))=>⟨T [(3,(.ptr (3,u6) 0)),(4,(.ptr (4,u6) 0)),(7,(.ptr (25,u7) 0)),(27,(dl D1 p2.Agents)),(28,(di (p2.Agents.length:Int))),(29,(di x1.1))],G [((3,u6),some<|.box 33 (K4 p1)),((4,u6),some<|.box 25 (I8 p2)),((25,u7),some<|.box 246 ((K4 p1)++ [(di v4.X),(di v4.Y),(di p3),(oS x1.2.1 (50,g3.1)),(oS x1.2.2 (75,g3.2))])),((3,u1),some<|.box 33 (K4 p1)),((50,g3.1),oB 90 1 Nd x1.2.1),((75,g3.2),oB 248 4 Cm x1.2.2)]⟩) (0,([],[])) (0,0) _ hy2 (D5 (W1 W)<|sg W<|sg W<|B4 G_hit (.of W)<|B4 (Wm 2 W<|X3 (Wk hu6 G_hit) G_hit) (.of W) (P3<|P3 trivial)) ?_
 intro x1 g3 z1 hz1 ez1
 unfold Kb at hz1
 refine B1<|sv W<|A1<|A4<|cc W hz1 (fun c2 hz1=> ?_)<|fun c2 hz1=> ?_
 refine A9<|A4<|A8<|B1<|sv W<|bs hz1 fun v5 hv5 hz1=>sd W (C4 W W hv5 W)<|sd W (D0 W hv5 W W)<|sm W<|sv W<|P5 W G_hit (S7 v5) W (A1<|B1<|sv W<|sv W<|sv W<|gt W (fun _=>(A7 W (gq W) W W))<|gt W (fun _=>W)<|bs hz1 fun v6 hv6 hz1=> ?_)
 refine L9 _ (bo v6) (K6 W) (fun w3=>⟨_,[(.d (.agg (X7 p2))),(di x1.1)],_,_,(by simp only [A3 w3];rfl),W,A2,Ha _ _ _<|C1 w3 hv6,(.inl W)⟩) ?_
 refine sa W W W<|A1<|cc W hz1 (fun c3 hz1=> ?_)<|fun c3 hz1=> ?_
 refine A4<|Gy W fun u12 _=>sq W<|sq W<|sp W W<|sq W<|B8 (oS x1.2.1 (50,g3.1)) W (N5 W (gq W) W) (sd W (A7 W (gq W) W W)<|sd W (A7 W G_hit W W)<|bs hz1 fun v7 hv7 hz1=>B0 W W A2 (Qt _ _ _ hv7) (.inl W) (B8 (dl Nd [v7]) W W (bs hz1 fun _ hv8 hz1=>O0 Nd (50,g3.1) x1.2.1 v7 [] _ (K5<|fun _=>W) W (gq W) hv8 (sq W<|sp W W<|P5 W (gq W) ((K4 p1)++ [(di v4.X),(di v4.Y),(di p3),(.sl (50,u12)),(oS x1.2.2 (75,g3.2))]) W (A1<|Gy W fun u13 _=>sq W<|sq W<|sp W W<|sq W<|B8 (oS x1.2.2 (75,g3.2)) W (N5 W G_hit W) (sd W (A7 W (gq W) W W)<|sq W<|sl W (gq W) W (sq W<|sl W (gq W) W (bs hz1 fun v9 hv9 hz1=>B0 W W A2 (BB _ _ _ _ hv9) (.inl W) (sd W (A7 W (gq W) W W)<|sq W<|sl W (gq W) W (sq W<|sl W (gq W) W (sq W<|sl W (gq W) W (sv W<|bs hz1 fun v10 hv10 hz1=>B0 W W A2 (BB _ _ _ _ hv10) (.inl W) (sv W<|B8 (dl Cm [(WorldBar.mk v9 v10)]) W W (bs hz1 fun _ hv11 hz1=>O0 Cm (75,g3.2) x1.2.2 (WorldBar.mk v9 v10) [] _ (K5<|fun _=>W) W (gq W) hv11 (sq W<|sp W W<|P5 W (gq W) ((K4 p1)++ [(di v4.X),(di v4.Y),(di p3),(.sl (50,u12)),(.sl (75,u13))]) W (A1<|D9<|B9<|sv W<|sv W<|A1<|E1 ?_))))))))))))))))
 cases hz1
 exact ⟨W,(u12,u13),(D5 (W1 W)<|sg W<|sg W<|B4 G_hit (.box (cv<|cv<|cv<|cv<|cv<|cv<|cv<|cv<|.cons (.of (S3<|R8 hv8).symm) (.cons (.of (S3<|R8 hv11).symm) .nil)))<|B4 (Wm 8 W<|X3 (Wk hu6 G_hit)<|gq W) (.of W) (M0 (gq W)<|M0 (gq W) trivial))⟩
 refine A9<|D9<|B9<|sv W<|sv W<|A1<|E1 ?_
 cases hz1
 exact ⟨W,(g3.1,g3.2),(D5 (W1 W)<|sg W<|sg W<|sg W<|B4 (Wm 2 W<|X3 (Wk hu6 G_hit)<|gq W) (.of W) (B7 (gq W)<|B7 (gq W) trivial))⟩
 refine C7 W ?_
 cases hz1
 obtain rfl:=ez1 _ rfl
 refine ⟨nofun,C5 W<|T0 ?_⟩
 exact ⟨(g3.1,g3.2),(D5 ⟨.of W,trivial⟩<|sg W<|B4 (X3 (Wk hu6 G_hit)<|gq W) (.of W) (B7 (gq W)<|B7 (gq W) trivial))⟩
 rintro _ ⟨g2,q1⟩
 refine B5 q1<|B1<|sq W<|sp W W<|A1<|B2 ?_
 cases hy1
 exact FT (.inr W) (LY<|B3 W) (g2.1,g2.2,u7) (W1 W) (sg W<|B7 (gq W)<|B7 (gq W)<|B4 G_hit (.of W) trivial)
 intro g1
 intro u17 hu17
 refine sp W W<|A1<|A4<|B1<|sq W<|sl W G_hit W<|sd W (D6 W)<|sv W<|A1<|bs h fun y3 hy3 h=>D7 (fun s=> ∃g4:Nat,Sb ⟨T [(7,(oS y3 (29,g4)))],G [((29,g4),oB 93 3 N8 y3)]⟩ s) ?_ ?_
 refine A8<|E2 (Mw p1 y1) (fun (x2:((List Span)×Int)) (g5:Nat)=>⟨T [(7,(oS x2.1 (29,g5))),(8,(.ptr (25,g1.2.2) 0)),(21,(di (p1.Lanes.length:Int))),(22,(di x2.2))],G [((25,g1.2.2),some<|.box 246 (((Nw y1).set 8 (oS y1.bodies (50,g1.1))).set 9 (oS y1.bars (75,g1.2.1)))),((50,g1.1),oB 90 1 Nd y1.bodies),((75,g1.2.1),oB 248 4 Cm y1.bars),((29,g5),oB 93 3 N8 x2.1)]⟩) ([],0) 0 _ hy3 (D5 (W1 W)<|sg W<|B7 (gq W)<|B7 (gq W)<|P3 trivial) ?_
 intro x2 g5 z2 hz2 ez2
 unfold Mw at hz2
 refine B1<|sv W<|A1<|A4<|cc W hz2 (fun c4 hz2=> ?_)<|fun c4 hz2=> ?_
 refine A9<|A4<|A8<|B1<|sv W<|sv W<|A1<|B9<|B8 (oS x2.1 (29,g5)) W W (sq W<|sv W<|bs hz2 fun y4 hy4 hz2=>Xm (fk func124 ntmps124 (fun r=>if r==11 then [1002]else []) (by with_unfolding_all rfl)) (fun (g6:Nat)=> [(8,(.ptr (25,g1.2.2) 0)),(21,(di (p1.Lanes.length:Int))),(22,(di x2.2)),(25,(oS x2.1 (29,g5))),(28,(oS y4 (56,g6)))]) (fun (g6:Nat)=> [((25,g1.2.2),some<|.box 246 (((Nw y1).set 8 (oS y1.bodies (50,g1.1))).set 9 (oS y1.bars (75,g1.2.1)))),((29,g5),oB 93 3 N8 x2.1),((50,g1.1),oB 90 1 Nd y1.bodies),((75,g1.2.1),oB 248 4 Cm y1.bars),((56,g6),oB 93 3 N8 y4)]) W (nl W) ?_ ?_)
 unfold Wb at hy4
 refine B5 (s0:=⟨T [(0,(.ptr (25,g1.2.2) 0)),(1,(di x2.2))],G [((25,g1.2.2),some<|.box 246 (((Nw y1).set 8 (oS y1.bodies (50,g1.1))).set 9 (oS y1.bars (75,g1.2.1)))),((50,g1.1),oB 90 1 Nd y1.bodies),((75,g1.2.1),oB 248 4 Cm y1.bars),((29,g5),oB 93 3 N8 x2.1)]⟩) (D5 (W1 W)<|B4 G_hit (.of W)<|B7 (gq W)<|B7 (gq W)<|B7 (gq W) trivial) ?_
 refine B1<|sv W<|A1<|B1<|sv W<|A1<|B1<|sq W<|sp W W<|sq W<|sd W (A7 W G_hit W W)<|sv W<|bs hy4 fun v12 hv12 hy4=>B0 W W A2 (Nh _ _ _ hv12) (.inl W) (sv W<|A1<|A4<|B1<|sv W<|A1<|bs hy4 fun y5 hy5 hy4=>D7 (fun s=> ∃g7:Nat,Sb ⟨T [(5,(oS y5 (56,g7)))],G [((25,g1.2.2),some<|.box 246 (((Nw y1).set 8 (oS y1.bodies (50,g1.1))).set 9 (oS y1.bars (75,g1.2.1)))),((29,g5),oB 93 3 N8 x2.1),((50,g1.1),oB 90 1 Nd y1.bodies),((75,g1.2.1),oB 248 4 Cm y1.bars),((56,g7),oB 93 3 N8 y5)]⟩ s) ?_ ?_)
 refine A8<|E2 (Dx y1 x2 v12) (fun (x3:((List Span)×Int)) (g8:Nat)=>⟨T [(0,(.ptr (25,g1.2.2) 0)),(1,(di x2.2)),(5,(oS x3.1 (56,g8))),(6,(di v12)),(7,(di x3.2))],G [((25,g1.2.2),some<|.box 246 (((Nw y1).set 8 (oS y1.bodies (50,g1.1))).set 9 (oS y1.bars (75,g1.2.1)))),((29,g5),oB 93 3 N8 x2.1),((50,g1.1),oB 90 1 Nd y1.bodies),((75,g1.2.1),oB 248 4 Cm y1.bars),((56,g8),oB 93 3 N8 x3.1)]⟩) ([],0) 0 _ hy5 (D5 (W1 W)<|B4 G_hit (.of W)<|B7 (gq W)<|B7 (gq W)<|B7 (gq W)<|P3 trivial) ?_
 intro x3 g8 z3 hz3 ez3
 unfold Dx at hz3
 refine A4<|B1<|sv W<|sv W<|sv W<|A1<|cc W hz3 (fun c5 hz3=> ?_)<|fun c5 hz3=> ?_
 refine A9<|A4<|A8<|B1<|sv W<|sv W<|sv W<|sv W<|sv W<|sv W<|sv W<|sm W<|P5 W G_hit [(di x2.2),(di x3.2),(di<|Li false (D4 (x3.2+1000)) v12)] W (A1<|A4<|B1<|sq W<|sd W (A7 W G_hit W W)<|bs hz3 fun v13 hv13 hz3=>B0 W (E5 (Bd (gq W)<|rD<|rD<|rD<|rD<|rD<|rD<|rD<|rD<|E5 (S5<|gq W)<|E5 (S5<|gq W) F5)<|rD F5) (.cons (DLe.bp<|ca W<|ca W<|ca W<|ca W<|ca W<|ca W<|ca W<|ca W<|.cons ⟨S4,W⟩ (.cons ⟨S4,W⟩ .nil)) A2) (Zh _ _ _ hv13) (.inr W) (B8 (.d (bo (!v13))) W W (A1<|cc W hz3 (fun c6 hz3=> ?_)<|fun c6 hz3=> ?_)))
 refine Pu W<|B9<|sv W<|sv W<|sv W<|A1<|E1 ?_
 cases hz3
 exact ⟨W,g8,(D5 (W1 W)<|sg W<|B7 (gq W)<|B7 (gq W)<|B7 (gq W)<|B7 (gq W) trivial)⟩
 refine A9<|B1<|B8 (oS x3.1 (56,g8)) W W (sd W (XS (f:=N8) W (gq W))<|sv W<|A1<|B1<|sv W<|sv W<|sv W<|M5 _ (oS x3.1 (56,g8)) W (K6 W) (fun _=>W) (gt W (fun _=>W)<|gt W (vb W W W)<|bs hz3 fun _ hv14 hz3=>M5 _ (.aptr _ _ _ _) W (K6 W) (fun w7=>(Om (A3 w7) (A3 w7) (gq W) (C1 w7 hv14))) ?_))
 refine M5 _ (.aptr _ _ _ _) W (K6 W) (fun w8=>(by simp only [A3 w8];rfl)) ?_
 refine gt W (fun w9=>(On (A3 w9) (Fk (gq W)<|Bf<|C1 w9 hv14) (C1 w9 hv14) W))<|gt W (fun _=>W)<|gt W (fun w11=>(L6 (A3 w11) (A3 w11) W))<|sa W W W<|A1<|cc W hz3 (fun c7 hz3=> ?_)<|fun c7 hz3=> ?_
 refine B9<|B8 (oS x3.1 (56,g8)) W W (sv W<|sv W<|sq W<|sl W G_hit W<|bs hz3 fun v15 hv15 hz3=>B8 (.aptr _ _ _ _) W (Om W W (gq W) hv15) (B8 (.aptr _ _ _ _) W W ?_))
 rw [S3 (Bf hv15)]
 refine Ol N8 _ _ _ ((D4 ((x3.1.length:Int) - 1))) _ (Span.mk v15.Lane_ v15.From<|Li false (D4 (x3.2+1000)) v12) [(i64<|Li false (D4 (x3.2+1000)) v12)] W W W (Fk (gq W)<|Bf hv15) hv15 (nl W) W (A1<|D9<|B9<|sv W<|sv W<|sv W<|A1<|E1 ?_)
 cases hz3
 exact ⟨W,g8,(D5 ⟨.of W, .of W,(.of (S3<|Xh<|Bf hv15).symm), .of W, .of W,trivial⟩<|sg W<|B7 (gq W)<|B7 (gq W)<|B7 (gq W)<|M0 G_hit trivial)⟩
 refine Bh fun u34 _=>B8 (oS x3.1 (56,g8)) W W (sd W (A7 W G_hit W W)<|B8 (dl N8 [(Span.mk x2.2 x3.2<|Li false (D4 (x3.2+1000)) v12)]) W W (bs hz3 fun _ hv16 hz3=>O0 N8 (56,g8) x3.1 (Span.mk x2.2 x3.2<|Li false (D4 (x3.2+1000)) v12) [] _ (K5<|fun _=>W) W (gq W) hv16 (ss W<|A1<|D9<|B9<|sv W<|sv W<|sv W<|A1<|E1 ?_)))
 cases hz3
 exact ⟨W,u34,(D5 ⟨.of W, .of W,(.of (S3<|R8 hv16).symm), .of W, .of W,trivial⟩<|sg W<|B7 (gq W)<|B7 (gq W)<|B7 (gq W)<|M0 G_hit trivial)⟩
 refine C7 W ?_
 cases hz3
 obtain rfl:=ez3 _ rfl
 refine ⟨nofun,C5 W<|T0 ?_⟩
 exact ⟨g8,(D5 ⟨.of W,trivial⟩<|B4 G_hit (.of W)<|B7 (gq W)<|B7 (gq W)<|B7 (gq W)<|B7 (gq W) trivial)⟩
 rintro _ ⟨g7,q2⟩
 refine B5 q2<|B1<|B8 (oS y5 (56,g7)) W W (B8 (oS y5 (56,g7)) W W (A1<|B2 ?_))
 obtain rfl:=(lD hy4)
 exact FT (.inr W) (LY<|B3 W) g7 (W1 W) (B4 G_hit (.of W)<|B7 (gq W)<|B7 (gq W)<|B7 (gq W)<|B7 (gq W) trivial)
 intro g6
 intro u37 hu37
 refine bs hz2 fun v17 hv17 hz2=>PV N8 (29,g5) x2.1 y4 _ (mY<|gq W) W (gq W) hv17 (Xi hu37) (B8 (oS v17 (29,u37)) W W (A1<|D9<|B9<|sv W<|sv W<|A1<|E1 ?_))
 cases hz2
 exact ⟨W,u37,(D5 (W1 W)<|sg W<|B7 (gq W)<|B7 (gq W)<|B7 G_hit trivial)⟩
 refine C7 W ?_
 cases hz2
 obtain rfl:=ez2 _ rfl
 refine ⟨nofun,C5 W<|T0 ?_⟩
 exact ⟨g5,(D5 ⟨.of W,trivial⟩<|B7 (gq W) trivial)⟩
 rintro _ ⟨g4,q3⟩
 refine B5 q3<|B1<|B8 (oS y3 (29,g4)) W W (B8 (oS y3 (29,g4)) W W (A1<|B2 ?_))
 cases h
 exact A6 (.inr W) (B6 (B3 W)<|S5 G_hit) S4
def Ws (p1:Int)(p2:Int):Option Int:=
  (Re p1 p2).bind fun v1=>(Re (D4 (v1+p2)) p2).bind fun v2=>some v2
theorem SK(p1 p2 r)(h:Ws p1 p2=some r):PCall prog 105 [(i64 p1),(i64 p2)] (i64 r):=by
 refine C2 (fk func105 ntmps105 m0 (by with_unfolding_all rfl)) (nl W) ?_
 unfold Ws at h
 refine B5 (s0:=⟨T [(0,(.d _)),(1,(.d _))],G []⟩) (E8 W W) ?_
 refine B1<|sv W<|A1<|B1<|sv W<|sv W<|bs h fun _ hv1 h=>sd W (Vg W W hv1)<|sv W<|sv W<|sv W<|bs h fun _ hv2 h=>sd W (Vg W W hv2)<|sv W<|A1<|B2 ?_
 cases h
 exact A6 (.inr W) (B6 (B3 W) C0) (.refl _)
def Ao (p1:Int)(p2:Int)(p3:(List Int)):Option (Int×Int):=
  cond (decide (p2≥(p3.length:Int))) (some (0,p2)) ((C3 p3 (D4 ((D4 (p2+1)) - 1))).bind fun v1=>(Ws v1 (D4 ((D4 (2*p1))+1))).bind fun v2=>some ((D4 (v2 - p1)),(D4 (p2+1))))
theorem Lc(p1 p2 p3 r)(h:Ao p1 p2 p3=some r):MCall prog 128 [(di p1),(.ptr (900000,0) 0),(.ptr (900001,0) 0)] [(.box 3 [(di p2)]),(.box 48 [(dl A5 p3)])] (di r.1) [some (.box 3 [(di r.2)]),some (.box 48 [(dl A5 p3)])] []:=by
 refine Vi (fk func128 ntmps128 m0 (by with_unfolding_all rfl)) W (nl W) ?_
 unfold Ao at h
 refine B5 (s0:=⟨T [(0,(.d _)),(1,(.ptr _ _)),(2,(.ptr _ _))],G [((900000,0),some<|.box 3 _),((900001,0),some<|.box 48 _)]⟩) (E8 W W) ?_
 refine B1<|sv W<|A1<|A4<|B1<|sl W G_hit W<|sl W (gq W) W (sd W (D6 W)<|sv W<|A1<|cc W h (fun c1 h=> ?_)<|fun c1 h=> ?_)
 refine B1<|sv W<|A1<|B2 ?_
 cases h
 exact Xj (.inr W) [] (iJ (B3 W) C0) (.refl _) ⟨⟨_,_,_,G_hit,Y7,W,SC,W⟩,⟨_,_,_,(gq W),Y7,W,SC,W⟩,trivial⟩
 refine A9<|B1<|sl W G_hit W<|sv W<|P5 W G_hit [(di<|D4 (p2+1))] W (A1<|B1<|sl W (gq W) W (sl W G_hit W<|sv W<|bs h fun _ hv1 h=>sd W (C4 W W hv1 W)<|sd W (C8 W hv1 W)<|sv W<|sv W<|sv W<|bs h fun _ hv2 h=>B0 W W A2 (SK _ _ _ hv2) (.inl W) (sv W<|sv W<|sv W<|A1<|B2 ?_)))
 cases h
 exact Xj (.inr W) [] (iJ (B3 W) C0) (.refl _) ⟨⟨_,_,_,G_hit,Y7,W,SC,W⟩,⟨_,_,_,(gq W),Y7,W,SC,W⟩,trivial⟩
def Ep [Lp](p4:(List Int))(v4:Lane)(v5:Agent)(v8:(WorldSpan×Bool))(x3:(Int×Int×Scan)):Option (Stp (Int×Int×Scan) (Int×Scan)):=
  cond v8.2 ((Jl v4.Curve_ x3.1).bind fun v9=>(Ao 50 x3.2.1 p4).bind fun v10=>(Ao 50 v10.2 p4).bind fun v11=>(Ao 5 v11.2 p4).bind fun v12=>(Ah x3.2.2.Points [(Point.mk (D4 (v9.X+v10.1)) (D4 (v9.Y+v11.1)) (D4 (v5.V+v12.1)))]).bind fun v13=>cond (x3.1==v8.1.to) (some (.out (v12.2,(Scan.mk x3.2.2.Stamp x3.2.2.Seen v13)))) (some (.go ((Li false (D4 (x3.1+500)) v8.1.to),v12.2,(Scan.mk x3.2.2.Stamp x3.2.2.Seen v13))))) (some (.out (x3.2.1,x3.2.2)))
def Ap [Lp](p1:Map)(p2:State)(p4:(List Int))(v3:Span)(v4:Lane)(x2:(Int×Int×Scan)):Option (Stp (Int×Int×Scan) (Int×Scan)):=
  cond (decide (x2.1< (p2.Agents.length:Int))) ((C3 p2.Agents x2.1).bind fun v5=>((cond (!(x2.1==0)) (Ds p2 x2.1) (some default))).bind fun v6=>cond ((x2.1==0)||(!v6)) (some (.go ((D4 (x2.1+1)),x2.2.1,x2.2.2))) ((Eh p1 v5).bind fun v7=>(Ru v7 v3).bind fun v8=>(loop (Ep p4 v4 v5 v8) (v8.1.from_,x2.2.1,x2.2.2)).bind fun y3=>some (.go ((D4 (x2.1+1)),y3.1,y3.2)))) (some (.out (x2.2.1,x2.2.2)))
def Er [Lp](p1:Map)(p2:State)(p4:(List Int))(v2:(List Span))(x1:(Int×Int×Scan)):Option (Stp (Int×Int×Scan) Scan):=
  cond (decide (x1.1< (v2.length:Int))) ((C3 v2 x1.1).bind fun v3=>(C3 p1.Lanes v3.Lane_).bind fun v4=>(loop (Ap p1 p2 p4 v3 v4) (0,x1.2.1,x1.2.2)).bind fun y2=>some (.go ((D4 (x1.1+1)),y2.1,y2.2))) (some (.out x1.2.2))
def Rv [Lp](p1:Map)(p2:State)(p3:Int)(p4:(List Int)):Option Scan:=
  (Qh p1 p2 p3).bind fun v1=>cond (!v1) (some (Scan.mk 0 [] [])) ((Qk p1 p2 p3).bind fun v2=>(loop (Er p1 p2 p4 v2) (0,0,(Scan.mk p2.Tick v2 []))).bind fun y1=>some y1)
theorem MS(p1 p2 p3 p4 r)(h:Rv p1 p2 p3 p4=some r):PCall prog 61 [(.agg (P0 p1)),(.agg (X7 p2)),(i64 p3),(.list (List.map A5 p4))] (.agg (sA r)):=by
 refine C2 (fk func61 ntmps61 (fun r=>if r==19 then [1019003]else if r==20 then [1020003]else if r==21 then [1021003]else if r==22 then [1003]else []) (by with_unfolding_all rfl)) (nl W) ?_
 unfold Rv at h
 refine B5 (s0:=⟨T [(0,(.d _)),(1,(.d _)),(2,(.d _)),(3,(.d _))],G []⟩) (E8 W W) ?_
 refine lr<|fun u1 _=>sm W<|sm W<|sn W W<|sm W<|A1<|A4<|B1<|sd W (A7 W (gq W) W W)<|sd W (A7 W (gq W) W W)<|sv W<|bs h fun v1 hv1 h=>B0 W W A2 (DD _ _ _ _ hv1) (.inl W) (B8 (.d (bo (!v1))) W W (A1<|cc W h (fun c1 h=> ?_)<|fun c1 h=> ?_))
 refine B1<|sv W<|P5 W G_hit [(di 0),(.d .nilS),(.d .nilS)] W (A1<|B2 ?_)
 cases h
 exact A6 (.inr W) (B6 (G8 W G_hit (nl W) W) C0) (.agg (ca W<|.cons ⟨DLe.nil,W⟩ (.cons ⟨DLe.nil,W⟩ .nil)))
 refine A9<|lr<|fun u4 _=>sm W<|P5 W G_hit [(di 0)] W (A1<|B1<|B8 (.fn _ _ _) W W (B8 (.fn _ _ _) W W (A1<|A4<|Gy W fun u6 _=>sq W<|sl W (gq W) W (sd W (A7 W (gq W) W W)<|sd W (A7 W (gq W) W W)<|sv W<|bs h fun v2 hv2 h=>B0 W W A2 (OW _ _ _ _ hv2) (.inl W) (sv W<|sm W<|P5 W G_hit [(di p2.Tick),(dl N8 v2),(.d .nilS)] W (A1<|A4<|B1<|sq W<|sl W G_hit W<|sd W (D6 W)<|sv W<|A1<|bs h fun y1 hy1 h=>D7 (fun s=> ∃g1:Nat,Sb ⟨T [(8,(.ptr (8,u1) 0)),(11,(.ptr (11,u6) 0))],G [((8,u1),some<|.box 99 [(di 0),(.d .nilS),(.d .nilS)]),((11,u6),some<|.box 99 [(di y1.Stamp),(dl N8 y1.Seen),(oS y1.Points (107,g1))]),((107,g1),oB 107 3 Vr y1.Points)]⟩ s) ?_ ?_))))))
 refine A8<|E2 (Er p1 p2 p4 v2) (fun (x1:(Int×Int×Scan)) (g2:Nat)=>⟨T [(4,(.ptr (4,u1) 0)),(5,(.ptr (5,u1) 0)),(8,(.ptr (8,u1) 0)),(10,(.fn (.func 128) [] [(.ptr (9,u4) 0),(.ptr (7,u1) 0)])),(11,(.ptr (11,u6) 0)),(37,(dl N8 v2)),(38,(di (v2.length:Int))),(39,(di x1.1))],G [((4,u1),some<|.box 33 (K4 p1)),((5,u1),some<|.box 25 (I8 p2)),((8,u1),some<|.box 99 [(di 0),(.d .nilS),(.d .nilS)]),((9,u4),some<|.box 3 [(di x1.2.1)]),((7,u1),some<|.box 48 [(dl A5 p4)]),((11,u6),some<|.box 99 [(di x1.2.2.Stamp),(dl N8 x1.2.2.Seen),(oS x1.2.2.Points (107,g2))]),((107,g2),oB 107 3 Vr x1.2.2.Points)]⟩) (0,0,(Scan.mk p2.Tick v2 [])) 0 _ hy1 (D5 (W1 W)<|sg W<|sg W<|sg W<|sg W<|sg W<|B4 G_hit (.of W)<|P3 trivial) ?_
 intro x1 g2 z1 hz1 ez1
 unfold Er at hz1
 refine B1<|sv W<|A1<|A4<|cc W hz1 (fun c2 hz1=> ?_)<|fun c2 hz1=> ?_
 refine A9<|A4<|A8<|lr<|fun u9 _=>bs hz1 fun v3 hv3 hz1=>sd W (C4 W W hv3 W)<|sd W (D0 W hv3 W W)<|sm W<|P5 W G_hit (CU v3) W (A1<|lr<|fun u10 _=>sq W<|sl W (gq W) W (sq W<|sl W G_hit W<|bs hz1 fun v4 hv4 hz1=>sd W (C4 W W hv4 W)<|sv W<|sd W (D0 W hv4 W W)<|sm W<|P5 W G_hit [(dl V0 v4.Curve_.Pts)] W (A1<|B1<|sq W<|sl W (gq W) W (sd W (D6 W)<|sv W<|A1<|bs hz1 fun y2 hy2 hz1=>D7 (fun s=> ∃g3:Nat,Sb ⟨T [(4,(.ptr (4,u1) 0)),(5,(.ptr (5,u1) 0)),(8,(.ptr (8,u1) 0)),(10,(.fn (.func 128) [] [(.ptr (9,u4) 0),(.ptr (7,u1) 0)])),(11,(.ptr (11,u6) 0)),(37,(dl N8 v2)),(38,(di (v2.length:Int))),(39,(di x1.1))],G [((4,u1),some<|.box 33 (K4 p1)),((5,u1),some<|.box 25 (I8 p2)),((8,u1),some<|.box 99 [(di 0),(.d .nilS),(.d .nilS)]),((9,u4),some<|.box 3 [(di y2.1)]),((7,u1),some<|.box 48 [(dl A5 p4)]),((11,u6),some<|.box 99 [(di y2.2.Stamp),(dl N8 y2.2.Seen),(oS y2.2.Points (107,g3))]),((107,g3),oB 107 3 Vr y2.2.Points)]⟩ s) ?_ ?_))))
 refine A8<|E2 (Ap p1 p2 p4 v3 v4) (fun (x2:(Int×Int×Scan)) (g4:Nat)=>⟨T [(4,(.ptr (4,u1) 0)),(5,(.ptr (5,u1) 0)),(8,(.ptr (8,u1) 0)),(10,(.fn (.func 128) [] [(.ptr (9,u4) 0),(.ptr (7,u1) 0)])),(11,(.ptr (11,u6) 0)),(13,(.ptr (13,u9) 0)),(14,(.ptr (14,u10) 0)),(37,(dl N8 v2)),(38,(di (v2.length:Int))),(39,(di x1.1)),(51,(dl D1 p2.Agents)),(52,(di (p2.Agents.length:Int))),(53,(di x2.1))],G [((4,u1),some<|.box 33 (K4 p1)),((5,u1),some<|.box 25 (I8 p2)),((8,u1),some<|.box 99 [(di 0),(.d .nilS),(.d .nilS)]),((9,u4),some<|.box 3 [(di x2.2.1)]),((7,u1),some<|.box 48 [(dl A5 p4)]),((11,u6),some<|.box 99 [(di x2.2.2.Stamp),(dl N8 x2.2.2.Seen),(oS x2.2.2.Points (107,g4))]),((13,u9),some<|.box 93 (CU v3)),((14,u10),some<|.box 61 [(dl V0 v4.Curve_.Pts)]),((107,g4),oB 107 3 Vr x2.2.2.Points)]⟩) (0,x1.2.1,x1.2.2) g2 _ hy2 (D5 (W1 W)<|sg W<|sg W<|sg W<|sg W<|sg W<|sg W<|sg W<|B4 G_hit (.of W)<|B7 (gq W) trivial) ?_
 intro x2 g4 z2 hz2 ez2
 unfold Ap at hz2
 refine B1<|sv W<|A1<|A4<|cc W hz2 (fun c3 hz2=> ?_)<|fun c3 hz2=> ?_
 refine A9<|A4<|A8<|lr<|fun u13 _=>sv W<|bs hz2 fun v5 hv5 hz2=>sd W (C4 W W hv5 W)<|sd W (D0 W hv5 W W)<|sm W<|sv W<|P5 W G_hit (S7 v5) W (A1<|A4<|B1<|sv W<|sv W<|sv W<|gf W (fun _=>(A7 W (gq W) W W))<|gf W (fun _=>W)<|bs hz2 fun v6 hv6 hz2=> ?_)
 refine L9 _ (bo v6) (K3 W) (fun w3=>⟨_,[(.d (.agg (X7 p2))),(di x2.1)],_,_,(by simp only [A3 w3];rfl),W,A2,Ha _ _ _<|C1 w3 hv6,(.inl W)⟩) ?_
 refine M5 _ (.d (bo (!v6))) W (K3 W) (fun w4=>(by simp only [A3 w4];rfl)) ?_
 refine sd W (N7 W W<|fun hc=>A3<|I7 hc)<|A1<|cc W hz2 (fun c4 hz2=> ?_)<|fun c4 hz2=> ?_
 refine Pu W<|B9<|sv W<|sv W<|A1<|E1 ?_
 cases hz2
 exact ⟨W,g4,(D5 (W1 W)<|sg W<|sg W<|sg W<|sg W<|sg W<|sg W<|sg W<|sg W<|B7 (gq W) trivial)⟩
 refine A9<|A4<|Gy W fun u16 _=>sd W (A7 W (gq W) W W)<|sd W (A7 W G_hit W W)<|bs hz2 fun _ hv7 hz2=>B0 W W A2 (Qt _ _ _ hv7) (.inl W) (sd W (A7 W (gq W) W W)<|bs hz2 fun v8 hv8 hz2=>B0 W W A2 (BC _ _ _ hv8) (.inl W) (sv W<|sv W<|sv W<|sm W<|P5 W G_hit [(di v8.1.from_),(di v8.1.to)] W (sv W<|A1<|B1<|sq W<|sl W G_hit W<|sv W<|A1<|bs hz2 fun y3 hy3 hz2=>D7 (fun s=> ∃g5:Nat,Sb ⟨T [(4,(.ptr (4,u1) 0)),(5,(.ptr (5,u1) 0)),(8,(.ptr (8,u1) 0)),(10,(.fn (.func 128) [] [(.ptr (9,u4) 0),(.ptr (7,u1) 0)])),(11,(.ptr (11,u6) 0)),(13,(.ptr (13,u9) 0)),(14,(.ptr (14,u10) 0)),(37,(dl N8 v2)),(38,(di (v2.length:Int))),(39,(di x1.1)),(51,(dl D1 p2.Agents)),(52,(di (p2.Agents.length:Int))),(53,(di x2.1))],G [((4,u1),some<|.box 33 (K4 p1)),((5,u1),some<|.box 25 (I8 p2)),((8,u1),some<|.box 99 [(di 0),(.d .nilS),(.d .nilS)]),((9,u4),some<|.box 3 [(di y3.1)]),((7,u1),some<|.box 48 [(dl A5 p4)]),((11,u6),some<|.box 99 [(di y3.2.Stamp),(dl N8 y3.2.Seen),(oS y3.2.Points (107,g5))]),((13,u9),some<|.box 93 (CU v3)),((14,u10),some<|.box 61 [(dl V0 v4.Curve_.Pts)]),((107,g5),oB 107 3 Vr y3.2.Points)]⟩ s) ?_ ?_)))
 refine A8<|E2 (Ep p4 v4 v5 v8) (fun (x3:(Int×Int×Scan)) (g6:Nat)=>⟨T [(4,(.ptr (4,u1) 0)),(5,(.ptr (5,u1) 0)),(8,(.ptr (8,u1) 0)),(10,(.fn (.func 128) [] [(.ptr (9,u4) 0),(.ptr (7,u1) 0)])),(11,(.ptr (11,u6) 0)),(13,(.ptr (13,u9) 0)),(14,(.ptr (14,u10) 0)),(16,(.ptr (16,u13) 0)),(17,(.ptr (17,u16) 0)),(18,(.d (bo v8.2))),(19,(di x3.1)),(37,(dl N8 v2)),(38,(di (v2.length:Int))),(39,(di x1.1)),(51,(dl D1 p2.Agents)),(52,(di (p2.Agents.length:Int))),(53,(di x2.1))],G [((4,u1),some<|.box 33 (K4 p1)),((5,u1),some<|.box 25 (I8 p2)),((8,u1),some<|.box 99 [(di 0),(.d .nilS),(.d .nilS)]),((9,u4),some<|.box 3 [(di x3.2.1)]),((7,u1),some<|.box 48 [(dl A5 p4)]),((11,u6),some<|.box 99 [(di x3.2.2.Stamp),(dl N8 x3.2.2.Seen),(oS x3.2.2.Points (107,g6))]),((13,u9),some<|.box 93 (CU v3)),((14,u10),some<|.box 61 [(dl V0 v4.Curve_.Pts)]),((16,u13),some<|.box 45 (S7 v5)),((17,u16),some<|.box 191 [(di v8.1.from_),(di v8.1.to)]),((107,g6),oB 107 3 Vr x3.2.2.Points)]⟩) (v8.1.from_,x2.2.1,x2.2.2) g4 _ hy3 (D5 (W1 W)<|sg W<|sg W<|sg W<|sg W<|sg W<|sg W<|sg W<|sg W<|sg W<|B4 G_hit (.of W)<|B7 (gq W) trivial) ?_
 intro x3 g6 z3 hz3 ez3
 unfold Ep at hz3
 refine A4<|B1<|sv W<|A1<|cc W hz3 (fun c5 hz3=> ?_)<|fun c5 hz3=> ?_
 refine A9<|A4<|A8<|B1<|sd W (A7 W (gq W) W W)<|sv W<|bs hz3 fun v9 hv9 hz3=>B0 W W A2 (Vl _ _ _ hv9) (.inl W) (sm W<|P5 W G_hit [(di v9.X),(di v9.Y)] W (A1<|A4<|Kf fun _ _=>J4 (.ptr _ _) W W (J4 (.d _) W (N5 W G_hit W) (J4 (.fn _ _ _) W W (bs hz3 fun v10 hv10 hz3=>cN (v:= .d (i64 v10.1)) (us:= [(9,u4),(7,u1)]) (HG (Lc _ _ _ _ hv10) [(9,u4),(7,u1)] [(9,u4),(7,u1)] _ (((7,u1),some<|.box 48 [(dl A5 p4)])::(((9,u4),some<|.box 3 [(di v10.2)])::_)) W Kg (R9 Zd<|R9 (DY (C6 W<|C6 W<|C6 W<|C6 W<|C6 W G_hit) W)<|R9 (DY (C6 W<|C6 W<|C6 W<|C6 W<|C6 W<|C6 W G_hit) W) Pv) (Bl (C6 W<|C6 W<|C6 W<|C6 W<|C6 W G_hit)<|Bl (C6 W<|C6 W<|C6 W<|C6 W<|C6 W<|C6 W G_hit) Ee) ⟨⟨_,(C6 W<|C6 W<|C6 W<|C6 W<|C6 W G_hit), .of W⟩,⟨_,(C6 W<|C6 W<|C6 W<|C6 W<|C6 W<|C6 W G_hit), .of W⟩,trivial⟩ (fun _ h=>h) (nI<|Ko W) W W W) (J4 (.d _) W W (J4 (.d _) W W (CQ (.ptr _ _) (.box _ _) W W (Ij _ _ _ _ _ W W W G_hit (nl W) [(di<|D4 (v9.X+v10.1)),(di 0),(di 0)] W (Vh ⟨W,?_⟩))))))))))
 refine A4<|Kf fun _ _=>J4 (.ptr _ _) W W (J4 (.d _) W (N5 W (gq W) W) (J4 (.fn _ _ _) W W (bs hz3 fun v11 hv11 hz3=>cN (v:= .d (i64 v11.1)) (us:= [(9,u4),(7,u1)]) (HG (Lc _ _ _ _ hv11) [(9,u4),(7,u1)] [(9,u4),(7,u1)] _ (((7,u1),some<|.box 48 [(dl A5 p4)])::(((9,u4),some<|.box 3 [(di v11.2)])::_)) W Kg (R9 Zd<|R9 (DY (C6 W<|C6 W<|C6 W G_hit) W)<|R9 (DY (C6 W<|C6 W G_hit) W) Pv) (Bl (C6 W<|C6 W<|C6 W G_hit)<|Bl (C6 W<|C6 W G_hit) Ee) ⟨⟨_,(C6 W<|C6 W<|C6 W G_hit), .of W⟩,⟨_,(C6 W<|C6 W G_hit), .of W⟩,trivial⟩ (fun _ h=>h) (nI<|Ko W) W W W) (J4 (.d _) W W (J4 (.ptr _ _) W W (Ij _ _ _ _ _ W W W (gq W) (nl W) [(di<|D4 (v9.X+v10.1)),(di<|D4 (v9.Y+v11.1)),(di 0)] W (Vh ⟨W,?_⟩)))))))
 refine A4<|Kf fun _ _=>J4 (.ptr _ _) W W (J4 (.d _) W (N5 W (gq W) W) (J4 (.fn _ _ _) W W (bs hz3 fun v12 hv12 hz3=>cN (v:= .d (i64 v12.1)) (us:= [(9,u4),(7,u1)]) (HG (Lc _ _ _ _ hv12) [(9,u4),(7,u1)] [(9,u4),(7,u1)] _ (((7,u1),some<|.box 48 [(dl A5 p4)])::(((9,u4),some<|.box 3 [(di v12.2)])::_)) W Kg (R9 Zd<|R9 (DY (C6 W<|C6 W G_hit) W)<|R9 (DY (C6 W G_hit) W) Pv) (Bl (C6 W<|C6 W G_hit)<|Bl (C6 W G_hit) Ee) ⟨⟨_,(C6 W<|C6 W G_hit), .of W⟩,⟨_,(C6 W G_hit), .of W⟩,trivial⟩ (fun _ h=>h) (nI<|Ko W) W W W) (J4 (.d _) W W (J4 (.ptr _ _) W W (Ij _ _ _ _ _ W W W (gq W) (nl W) [(di<|D4 (v9.X+v10.1)),(di<|D4 (v9.Y+v11.1)),(di<|D4 (v5.V+v12.1))] W (Vh ⟨W,?_⟩)))))))
 refine lr<|fun u23 _=>sq W<|B8 (oS x3.2.2.Points (107,g6)) W (N5 W (gq W) W) (sd W (A7 W G_hit W W)<|B8 (dl Vr [(Point.mk (D4 (v9.X+v10.1)) (D4 (v9.Y+v11.1)) (D4 (v5.V+v12.1)))]) W W (bs hz3 fun _ hv13 hz3=>O0 Vr (107,g6) x3.2.2.Points (Point.mk (D4 (v9.X+v10.1)) (D4 (v9.Y+v11.1)) (D4 (v5.V+v12.1))) [] _ (K5<|fun _=>W) W (gq W) hv13 (sq W<|P5 W (gq W) [(di x3.2.2.Stamp),(dl N8 x3.2.2.Seen),(.sl (107,u23))] W (A1<|B1<|sv W<|sq W<|sl W (gq W) W (sv W<|A1<|cc W hz3 (fun c6 hz3=> ?_)<|fun c6 hz3=> ?_)))))
 refine C7 W ?_
 cases hz3
 obtain rfl:=ez3 _ rfl
 refine ⟨nofun,C5 W<|T0 ?_⟩
 exact ⟨u23,(D5 (W1 W)<|sg W<|sg W<|sg W<|sg W<|sg W<|B4 G_hit (.box (cv<|cv<|.cons (.of (S3<|R8 hv13).symm) .nil))<|sg W<|sg W<|M0 (gq W) trivial)⟩
 refine A9<|D9<|B9<|sv W<|sv W<|sq W<|sl W (gq W) W (sv W<|sv W<|A1<|E1 ?_)
 cases hz3
 exact ⟨W,u23,(D5 (W1 W)<|sg W<|sg W<|sg W<|sg W<|sg W<|B4 G_hit (.box (cv<|cv<|.cons (.of (S3<|R8 hv13).symm) .nil))<|sg W<|sg W<|sg W<|sg W<|M0 (gq W) trivial)⟩
 refine C7 W ?_
 cases hz3
 obtain rfl:=ez3 _ rfl
 refine ⟨nofun,C5 W<|T0 ?_⟩
 exact ⟨g6,(D5 (W1 W)<|B4 G_hit (.of W)<|sg W<|sg W<|sg W<|sg W<|sg W<|sg W<|sg W<|B7 (gq W) trivial)⟩
 rintro _ ⟨g5,q1⟩
 refine D9<|B5 q1<|B9<|sv W<|sv W<|A1<|E1 ?_
 cases hz2
 exact ⟨W,g5,(D5 (W1 W)<|B4 G_hit (.of W)<|sg W<|sg W<|sg W<|sg W<|sg W<|sg W<|sg W<|B7 (gq W) trivial)⟩
 refine C7 W ?_
 cases hz2
 obtain rfl:=ez2 _ rfl
 refine ⟨nofun,C5 W<|T0 ?_⟩
 exact ⟨g4,(D5 (W1 W)<|B4 G_hit (.of W)<|sg W<|sg W<|sg W<|sg W<|sg W<|B7 (gq W) trivial)⟩
 rintro _ ⟨g3,q2⟩
 refine D9<|B5 q2<|B9<|sv W<|sv W<|A1<|E1 ?_
 cases hz1
 exact ⟨W,g3,(D5 (W1 W)<|B4 G_hit (.of W)<|sg W<|sg W<|sg W<|sg W<|sg W<|B7 (gq W) trivial)⟩
 refine C7 W ?_
 cases hz1
 obtain rfl:=ez1 _ rfl
 refine ⟨nofun,C5 W<|T0 ?_⟩
 exact ⟨g2,(D5 (W1 W)<|sg W<|sg W<|B7 (gq W) trivial)⟩
 rintro _ ⟨g1,q3⟩
 refine B5 q3<|B1<|B8 (X2 [(di y1.Stamp),(dl N8 y1.Seen),(oS y1.Points (107,g1))]) W (A7 W (gq W) W W) (Ii _ _ _ _ _ (V1 _) W W G_hit (nl W) [(di y1.Stamp),(dl N8 y1.Seen),(oS y1.Points (107,g1))] W (A1<|B2 ?_))
 cases h
 exact A6 (.inr W) (B6 (G8 W G_hit (nl W) W)<|Mk<|rD<|rD<|E5 (S5<|gq W) F5) (.agg (ca W<|ca W<|.cons ⟨S4,W⟩ .nil))
def Ck (v1:(List Int))(x1:(Int×Int)):Option (Stp (Int×Int) (Sum Int (Int×Int))):=
  cond (decide (x1.2< (D4 ((v1.length:Int) - 1)))) ((C3 v1 x1.2).bind fun v3=>cond (decide (x1.1<v3)) (some (.out (.inr (x1.2,x1.1)))) ((C3 v1 x1.2).bind fun v4=>some (.go ((D4 (x1.1 - v4)),(D4 (x1.2+1)))))) (some (.out (.inl x1.1)))
def Rw [Lp](p1:Curve)(p2:Int):Option (Int×Int):=
  (Do p1).bind fun v1=>cond ((v1.length:Int)==0) (some (0,0)) ((Dp p1).bind fun v2=>thenS (loop (Ck v1) ((Li true 0 (Li false p2 v2)),0)) (fun y1=>some ((D4 ((v1.length:Int) - 1)),y1)) (fun r=>some r))
theorem MT(p1 p2 r)(h:Rw p1 p2=some r):PCall prog 135 [(.agg [(.list (List.map V0 p1.Pts))]),(i64 p2)] (.tup [(i64 r.1),(i64 r.2)]):=by
 refine C2 (fk func135 ntmps135 m0 (by with_unfolding_all rfl)) (nl W) ?_
 unfold Rw at h
 refine B5 (s0:=⟨T [(0,(.d _)),(1,(.d _))],G []⟩) (E8 W W) ?_
 refine B1<|sm W<|sv W<|sv W<|A1<|B1<|sd W (A7 W G_hit W W)<|bs h fun v1 hv1 h=>B0 W W A2 (Sg _ _ hv1) (.inl W) (sv W<|A1<|A4<|B1<|sv W<|sd W (D6 W)<|sv W<|A1<|cc W h (fun c1 h=> ?_)<|fun c1 h=> ?_)
 refine B1<|sv W<|sv W<|A1<|B2 ?_
 cases h
 exact A6 (.inr W) (Jc (B3 W) (B3 W) C0 C0) (.refl _)
 refine A9<|B1<|sv W<|sd W (A7 W G_hit W W)<|bs h fun v2 hv2 h=>B0 W W A2 (Nj _ _ hv2) (.inl W) (sv W<|sv W<|sv W<|A1<|A4<|B1<|sv W<|A1<|js h fun z1 hz1 h=>D7 (fun s=> ∃(y1:Int) (g1:Unit),z1= .inl y1∧Sb ⟨T [(1,(di y1)),(6,(dl A5 v1))],G []⟩ s) ?_ ?_)
 refine A8<|E2 (Ck v1) (fun (x1:(Int×Int)) (g2:Unit)=>⟨T [(1,(di x1.1)),(6,(dl A5 v1)),(7,(di x1.2))],G []⟩) ((Li true 0<|Li false p2 v2),0) () _ hz1 (E8 W W) ?_
 intro x1 g2 z2 hz2 ez2
 unfold Ck at hz2
 refine A4<|B1<|sv W<|sv W<|sd W (D6 W)<|sv W<|sv W<|A1<|cc W hz2 (fun c2 hz2=> ?_)<|fun c2 hz2=> ?_
 refine A9<|A4<|A8<|A4<|B1<|sv W<|sv W<|sv W<|bs hz2 fun _ hv3 hz2=>sd W (C4 W W hv3 W)<|sd W (C8 W hv3 W)<|sv W<|A1<|cc W hz2 (fun c3 hz2=> ?_)<|fun c3 hz2=> ?_
 refine B1<|sv W<|sv W<|sv W<|sv W<|A1<|B2 ?_
 cases hz2
 obtain rfl:=ez2 _ rfl
 refine ⟨nofun,E7 ?_⟩
 rw [wC]at h
 cases h
 exact A6 (.inr W) (Jc (B3 W) (B3 W) C0 C0) (.refl _)
 refine A9<|B9<|sv W<|sv W<|sv W<|bs hz2 fun _ hv4 hz2=>sd W (C4 W W hv4 W)<|sd W (C8 W hv4 W)<|sv W<|sv W<|A1<|D9<|B9<|sv W<|sv W<|sv W<|A1<|E1 ?_
 cases hz2
 exact ⟨W,(),(E8 W W)⟩
 refine C7 W ?_
 cases hz2
 obtain rfl:=ez2 _ rfl
 refine ⟨nofun,C5 W<|T0 ?_⟩
 exact ⟨_,(),W,(E8 W W)⟩
 rintro _ ⟨y1,g1,rfl,q1⟩
 rw [wB]at h
 refine B5 q1<|B1<|sv W<|sd W (D6 W)<|sv W<|sv W<|sv W<|sv W<|A1<|B2 ?_
 cases h
 exact A6 (.inr W) (Jc (B3 W) (B3 W) C0 C0) (.refl _)
def Rx (p1:Int)(p2:Int):Option Int:=
  (JO .i64 p1 p2).bind fun v1=>(Re p1 p2).bind fun v2=>cond (decide (v2<0)) (some (D4 (v1 - 1))) (some v1)
theorem BD(p1 p2 r)(h:Rx p1 p2=some r):PCall prog 137 [(i64 p1),(i64 p2)] (i64 r):=by
 refine C2 (fk func137 ntmps137 m0 (by with_unfolding_all rfl)) (nl W) ?_
 unfold Rx at h
 refine B5 (s0:=⟨T [(0,(.d _)),(1,(.d _))],G []⟩) (E8 W W) ?_
 refine B1<|sv W<|A1<|B1<|sv W<|sv W<|bs h fun _ hv1 h=>sd W (UF W W hv1)<|sv W<|A1<|A4<|B1<|sv W<|sv W<|bs h fun _ hv2 h=>sd W (Vg W W hv2)<|sv W<|A1<|cc W h (fun c1 h=> ?_)<|fun c1 h=> ?_
 refine B9<|sv W<|sv W<|sv W<|A1<|B1<|sv W<|sv W<|A1<|B2 ?_
 cases h
 exact A6 (.inr W) (B6 (B3 W) C0) (.refl _)
 refine A9<|B1<|sv W<|sv W<|A1<|B2 ?_
 cases h
 exact A6 (.inr W) (B6 (B3 W) C0) (.refl _)
def Um [Lp](p1:Curve)(p2:Int):Option Spot:=
  (Do p1).bind fun v1=>cond ((v1.length:Int)==0) (some (Spot.mk 0 0)) ((Rw p1 p2).bind fun v2=>(C3 p1.Pts (D4 (v2.1+1))).bind fun v3=>(C3 p1.Pts v2.1).bind fun v4=>(Ie v3 v4).bind fun v5=>(C3 p1.Pts v2.1).bind fun v6=>(C3 v1 v2.1).bind fun v7=>(Rx (D4 (v5.X*v2.2)) v7).bind fun v8=>(C3 p1.Pts v2.1).bind fun v9=>(C3 v1 v2.1).bind fun v10=>(Rx (D4 (v5.Y*v2.2)) v10).bind fun v11=>some (Spot.mk (D4 (v6.X+v8)) (D4 (v9.Y+v11))))
theorem UV(p1 p2 r)(h:Um p1 p2=some r):PCall prog 64 [(.agg [(.list (List.map V0 p1.Pts))]),(i64 p2)] (.agg [(i64 r.X),(i64 r.Y)]):=by
 refine C2 (fk func64 ntmps64 m0 (by with_unfolding_all rfl)) (nl W) ?_
 unfold Um at h
 refine B5 (s0:=⟨T [(0,(.d _)),(1,(.d _))],G []⟩) (E8 W W) ?_
 refine B1<|sm W<|sn W W<|A1<|B1<|sd W (A7 W (gq W) W W)<|bs h fun _ hv1 h=>B0 W W A2 (Sg _ _ hv1) (.inl W) (sv W<|A1<|A4<|B1<|sv W<|sd W (D6 W)<|sv W<|A1<|cc W h (fun c1 h=> ?_)<|fun c1 h=> ?_)
 refine B1<|sv W<|P5 W G_hit [(di 0),(di 0)] W (A1<|B2 ?_)
 cases h
 exact A6 (.inr W) (B6 (G8 W G_hit (nl W) W) C0) (.refl _)
 refine A9<|B1<|sd W (A7 W (gq W) W W)<|sv W<|bs h fun _ hv2 h=>B0 W W A2 (MT _ _ _ hv2) (.inl W) (sv W<|sv W<|sv W<|sv W<|sv W<|A1<|A4<|E3 W<|sq W<|sl W (gq W) W (sv W<|sv W<|bs h fun _ hv3 h=>sd W (C4 W W hv3 W)<|sd W (D0 W hv3 W W)<|sq W<|sl W (gq W) W (sv W<|bs h fun _ hv4 h=>sd W (C4 W W hv4 W)<|sd W (D0 W hv4 W W)<|bs h fun v5 hv5 h=>B0 W W A2 (Pb _ _ _ hv5) (.inl W) (sm W<|P5 W G_hit [(di v5.X),(di v5.Y)] W (A1<|A4<|E3 W<|sq W<|sl W (gq W) W (sv W<|bs h fun v6 hv6 h=>sd W (C4 W W hv6 W)<|sv W<|sd W (C8 W hv6 W)<|sq W<|sl W G_hit W<|sv W<|sv W<|sv W<|sv W<|bs h fun _ hv7 h=>sd W (C4 W W hv7 W)<|sd W (C8 W hv7 W)<|bs h fun v8 hv8 h=>B0 W W A2 (BD _ _ _ hv8) (.inl W) (sv W<|sq W<|sl W (gq W) W (sv W<|bs h fun v9 hv9 h=>sd W (C4 W W hv9 W)<|sv W ?_))))))))
 refine sd W (C8 W hv9 W)<|sq W<|sl W G_hit W<|sv W<|sv W<|sv W<|sv W<|bs h fun _ hv10 h=>sd W (C4 W W hv10 W)<|sd W (C8 W hv10 W)<|bs h fun v11 hv11 h=>B0 W W A2 (BD _ _ _ hv11) (.inl W) (sv W<|sv W<|P5 W (gq W) [(di<|D4 (v6.X+v8)),(di<|D4 (v9.Y+v11))] W (A1<|B2 ?_))
 cases h
 exact A6 (.inr W) (B6 (G8 W G_hit (nl W) W) C0) (.refl _)
def W7 [Lp](v2:Map)(v3:State)(v5:Scan)(x2:(Int×Int))(v7:(List Span))(x3:(Int×Int))(v10:Span)(v11:Span)(x4:(Int×Int)):Option (Stp (Int×Int) (Sum Int Bool)):=
  cond (decide (x4.1≥(v5.Points.length:Int))) (some (.out (.inr false))) ((C3 v7 x3.2).bind fun v15=>(C3 v2.Lanes v15.Lane_).bind fun v16=>(Um v16.Curve_ x4.2).bind fun v17=>(C3 v5.Points x4.1).bind fun v18=>((cond (!((((decide ((D4 (v18.X - v17.X))>50))||(decide ((D4 (v17.X - v18.X))>50)))||(decide ((D4 (v18.Y - v17.Y))>50)))||(decide ((D4 (v17.Y - v18.Y))>50)))) (C3 v3.Agents x2.2) (some default))).bind fun v19=>((cond (!(((((decide ((D4 (v18.X - v17.X))>50))||(decide ((D4 (v17.X - v18.X))>50)))||(decide ((D4 (v18.Y - v17.Y))>50)))||(decide ((D4 (v17.Y - v18.Y))>50)))||(decide ((D4 (v18.V - v19.V))>5)))) (C3 v3.Agents x2.2) (some default))).bind fun v20=>cond ((((((decide ((D4 (v18.X - v17.X))>50))||(decide ((D4 (v17.X - v18.X))>50)))||(decide ((D4 (v18.Y - v17.Y))>50)))||(decide ((D4 (v17.Y - v18.Y))>50)))||(decide ((D4 (v18.V - v19.V))>5)))||(decide ((D4 (v20.V - v18.V))>5))) (some (.out (.inr false))) (cond (x4.2==(Li false v10.To v11.To)) (some (.out (.inl (D4 (x4.1+1))))) (some (.go ((D4 (x4.1+1)),(Li false (D4 (x4.2+500)) (Li false v10.To v11.To)))))))
def U2 [Lp](v2:Map)(v3:State)(v5:Scan)(x1:(Int×Int))(x2:(Int×Int))(v7:(List Span))(x3:(Int×Int)):Option (Stp (Int×Int) (Sum Int Bool)):=
  cond (decide (x3.2< (v7.length:Int))) ((C3 v7 x3.2).bind fun v8=>(C3 v5.Seen x1.2).bind fun v9=>(C3 v7 x3.2).bind fun v10=>(C3 v5.Seen x1.2).bind fun v11=>(If v3 x2.2).bind fun v12=>((cond (!(!v12)) (C3 v7 x3.2) (some default))).bind fun v13=>((cond (!(!v12)) (C3 v5.Seen x1.2) (some default))).bind fun v14=>cond (((!v12)||(v13.Lane_ !=v14.Lane_))||(decide ((Li true v8.From v9.From)>(Li false v10.To v11.To)))) (some (.go (x3.1,(D4 (x3.2+1))))) (thenS (loop (W7 v2 v3 v5 x2 v7 x3 v10 v11) (x3.1,(Li true v8.From v9.From))) (fun y4=>some (.go (y4,(D4 (x3.2+1))))) (fun r=>some (.out (.inr r))))) (some (.out (.inl x3.1)))
def W8 [Lp](v2:Map)(v3:State)(v5:Scan)(x1:(Int×Int))(x2:(Int×Int)):Option (Stp (Int×Int) (Sum Int Bool)):=
  cond (decide (x2.2< (v3.Agents.length:Int))) ((C3 v3.Agents x2.2).bind fun v6=>(Nq v2 v6).bind fun v7=>thenS (loop (U2 v2 v3 v5 x1 x2 v7) (x2.1,0)) (fun y3=>some (.go (y3,(D4 (x2.2+1))))) (fun r=>some (.out (.inr r)))) (some (.out (.inl x2.1)))
def W9 [Lp](v2:Map)(v3:State)(v5:Scan)(x1:(Int×Int)):Option (Stp (Int×Int) (Sum Int Bool)):=
  cond (decide (x1.2< (v5.Seen.length:Int))) (thenS (loop (W8 v2 v3 v5 x1) (x1.1,1)) (fun y2=>some (.go (y2,(D4 (x1.2+1))))) (fun r=>some (.out (.inr r)))) (some (.out (.inl x1.1)))
def Ki [Lp](p1:Int)(p2:(List KitActor))(p3:Int)(p4:(List Int)):Option Bool:=
  cond ((decide ((p2.length:Int)>7))||(decide ((p4.length:Int)>60))) ((Ic).bind fun v1=>some v1) ((BZ p1).bind fun v2=>(Tl v2 p2).bind fun v3=>(Ob p3 80001).bind fun v4=>(Rv v2 v3 v4 p4).bind fun v5=>thenS (loop (W9 v2 v3 v5) (0,0)) (fun y1=>((cond ((y1==(v5.Points.length:Int))&& (v5.Stamp==v3.Tick)) (Ic) (some default))).bind fun v21=>some (((y1==(v5.Points.length:Int))&& (v5.Stamp==v3.Tick))&&v21)) (fun r=>some r))
theorem BE(p1 p2 p3 p4 r)(h:Ki p1 p2 p3 p4=some r):PCall prog 18 [(i64 p1),(.list (List.map Pw p2)),(i64 p3),(.list (List.map A5 p4))] (bo r):=by
 refine C2 (fk func18 ntmps18 m0 (by with_unfolding_all rfl)) (nl W) ?_
 unfold Ki at h
 refine B5 (s0:=⟨T [(0,(.d _)),(1,(.d _)),(2,(.d _)),(3,(.d _))],G []⟩) (E8 W W) ?_
 refine B1<|sv W<|A1<|A4<|B1<|sv W<|sd W (D6 W)<|sv W<|sv W<|gf W (fun _=>W)<|gf W (fun w2=>(D6<|A3 w2))<|gf W (vb W W W)<|sd W (N7 W W<|fun hc=>A3<|I7 hc)<|A1<|cc W h (fun c1 h=> ?_)<|fun c1 h=> ?_
 refine B1<|bs h fun _ hv1 h=>B0 W W A2 (AX _ hv1) (.inl W) (sv W<|A1<|B2 ?_)
 cases h
 exact A6 (.inr W) (B6 (B3 W) C0) (.refl _)
 refine A9<|lr<|fun u4 _=>sv W<|bs h fun v2 hv2 h=>B0 W W A2 (XY _ _ hv2) (.inl W) (sm W<|P5 W G_hit (K4 v2) W (A1<|lr<|fun u5 _=>sd W (A7 W G_hit W W)<|sv W<|bs h fun v3 hv3 h=>B0 W W A2 (SJ _ _ _ hv3) (.inl W) (sm W<|P5 W G_hit (I8 v3) W (A1<|A4<|Gy W fun u6 _=>sd W (A7 W (gq W) W W)<|sd W (A7 W G_hit W W)<|sv W<|bs h fun _ hv4 h=>B0 W W A2 (Sy _ _ _ hv4) (.inl W) (sv W<|bs h fun v5 hv5 h=>B0 W W A2 (MS _ _ _ _ _ hv5) (.inl W) (sm W<|P5 W G_hit (FV v5) W (A1<|B1<|sv W<|A1<|A4<|B1<|sv W<|A1<|js h fun z1 hz1 h=>D7 (fun s=> ∃(y1:Int) (g1:Unit),z1= .inl y1∧Sb ⟨T [(10,(.ptr (10,u5) 0)),(11,(.ptr (11,u6) 0)),(12,(di y1))],G [((10,u5),some<|.box 25 (I8 v3)),((11,u6),some<|.box 99 (FV v5))]⟩ s) ?_ ?_)))))))
 refine A8<|E2 (W9 v2 v3 v5) (fun (x1:(Int×Int)) (g2:Unit)=>⟨T [(9,(.ptr (9,u4) 0)),(10,(.ptr (10,u5) 0)),(11,(.ptr (11,u6) 0)),(12,(di x1.1)),(13,(di x1.2))],G [((9,u4),some<|.box 33 (K4 v2)),((10,u5),some<|.box 25 (I8 v3)),((11,u6),some<|.box 99 (FV v5))]⟩) (0,0) () _ hz1 (E8 W W) ?_
 intro x1 g2 z2 hz2 ez2
 unfold W9 at hz2
 refine A4<|B1<|sv W<|sq W<|sl W (gq W) W (sd W (D6 W)<|sv W<|A1<|cc W hz2 (fun c2 hz2=> ?_)<|fun c2 hz2=> ?_)
 refine A9<|A4<|A8<|B1<|sv W<|A1<|js hz2 fun z3 hz3 hz2=>D7 (fun s=> ∃(y2:Int) (g3:Unit),z3= .inl y2∧Sb ⟨T [(9,(.ptr (9,u4) 0)),(10,(.ptr (10,u5) 0)),(11,(.ptr (11,u6) 0)),(12,(di y2)),(13,(di x1.2))],G [((9,u4),some<|.box 33 (K4 v2)),((10,u5),some<|.box 25 (I8 v3)),((11,u6),some<|.box 99 (FV v5))]⟩ s) ?_ ?_
 refine A8<|E2 (W8 v2 v3 v5 x1) (fun (x2:(Int×Int)) (g4:Unit)=>⟨T [(9,(.ptr (9,u4) 0)),(10,(.ptr (10,u5) 0)),(11,(.ptr (11,u6) 0)),(12,(di x2.1)),(13,(di x1.2)),(14,(di x2.2))],G [((9,u4),some<|.box 33 (K4 v2)),((10,u5),some<|.box 25 (I8 v3)),((11,u6),some<|.box 99 (FV v5))]⟩) (x1.1,1) () _ hz3 (E8 W W) ?_
 intro x2 g4 z4 hz4 ez4
 unfold W8 at hz4
 refine A4<|B1<|sv W<|sq W<|sl W (gq W) W (sd W (D6 W)<|sv W<|A1<|cc W hz4 (fun c3 hz4=> ?_)<|fun c3 hz4=> ?_)
 refine A9<|A4<|A8<|A4<|E3 W<|sd W (A7 W G_hit W W)<|sq W<|sl W (gq W) W (sv W<|bs hz4 fun _ hv6 hz4=>sd W (C4 W W hv6 W)<|sd W (D0 W hv6 W W)<|bs hz4 fun v7 hv7 hz4=>B0 W W A2 (Wa _ _ _ hv7) (.inl W) (sv W<|A1<|B1<|sv W<|A1<|js hz4 fun z5 hz5 hz4=>D7 (fun s=> ∃(y3:Int) (g5:Unit),z5= .inl y3∧Sb ⟨T [(9,(.ptr (9,u4) 0)),(10,(.ptr (10,u5) 0)),(11,(.ptr (11,u6) 0)),(12,(di y3)),(13,(di x1.2)),(14,(di x2.2))],G [((9,u4),some<|.box 33 (K4 v2)),((10,u5),some<|.box 25 (I8 v3)),((11,u6),some<|.box 99 (FV v5))]⟩ s) ?_ ?_))
 refine A8<|E2 (U2 v2 v3 v5 x1 x2 v7) (fun (x3:(Int×Int)) (g6:Unit)=>⟨T [(9,(.ptr (9,u4) 0)),(10,(.ptr (10,u5) 0)),(11,(.ptr (11,u6) 0)),(12,(di x3.1)),(13,(di x1.2)),(14,(di x2.2)),(15,(dl N8 v7)),(16,(di x3.2))],G [((9,u4),some<|.box 33 (K4 v2)),((10,u5),some<|.box 25 (I8 v3)),((11,u6),some<|.box 99 (FV v5))]⟩) (x2.1,0) () _ hz5 (E8 W W) ?_
 intro x3 g6 z6 hz6 ez6
 unfold U2 at hz6
 refine A4<|B1<|sv W<|sv W<|sd W (D6 W)<|sv W<|A1<|cc W hz6 (fun c4 hz6=> ?_)<|fun c4 hz6=> ?_
 refine A9<|A4<|A8<|A4<|E3 W<|sv W<|sv W<|bs hz6 fun v8 hv8 hz6=>sd W (C4 W W hv8 W)<|sv W<|sd W (C8 W hv8 W)<|sq W<|sl W (gq W) W (sv W<|bs hz6 fun v9 hv9 hz6=>sd W (C4 W W hv9 W)<|sv W<|sd W (C8 W hv9 W)<|sv W<|sv W<|sv W<|bs hz6 fun v10 hv10 hz6=>sd W (C4 W W hv10 W)<|sv W<|sd W (C8 W hv10 W)<|sq W<|sl W (gq W) W (sv W<|bs hz6 fun v11 hv11 hz6=>sd W (C4 W W hv11 W)<|sv W<|sd W (C8 W hv11 W)<|sv W<|sv W<|sv W<|A1<|A4<|A4<|E3 W<|sd W (A7 W (gq W) W W)<|sv W<|bs hz6 fun v12 hv12 hz6=>B0 W W A2 (Pd _ _ _ hv12) (.inl W) (B8 (.d (bo (!v12))) W W (sv W<|gf W (fun _=>W)<|gf W (fun _=>W)<|bs hz6 fun _ hv13 hz6=>gf W (fun w6=>(C4 (A3 w6) (A3 w6) (C1 w6 hv13) W)) ?_))))
 refine gf W (fun w7=>(by simp only [A3 w7];rfl)) ?_
 refine gf W (fun w8=>(C8 (A3 w8) (C1 w8 hv13) W))<|gp W (K3 W) (fun _=>W) (gf W (vl W (gq W) W)<|gf W (fun _=>W)<|bs hz6 fun _ hv14 hz6=>gf W (fun w12=>(C4 (A3 w12) (A3 w12) (C1 w12 hv14) W)) ?_)
 refine gf W (fun w13=>(by simp only [A3 w13];rfl)) ?_
 refine gf W (fun w14=>(C8 (A3 w14) (C1 w14 hv14) W))<|gf W (fun w15=>(L6 (A3 w15) (A3 w15) W))<|sd W (N7 W W<|fun hc=>A3<|I7 hc)<|sv W<|gf W (fun _=>W)<|gf W (fun _=>W)<|gf W (fun w18=>(L6 (A3 w18) (A3 w18) W))<|sd W (N7 W W<|fun hc=>A3<|I7 hc)<|A1<|cc W hz6 (fun c5 hz6=> ?_)<|fun c5 hz6=> ?_
 refine Pu W<|B9<|sv W<|sv W<|sv W<|A1<|E1 ?_
 cases hz6
 exact ⟨W,(),(E8 W W)⟩
 refine A9<|B1<|sv W<|sv W<|A1<|js hz6 fun z7 hz7 hz6=>D7 (fun s=> ∃(y4:Int) (g7:Unit),z7= .inl y4∧Sb ⟨T [(9,(.ptr (9,u4) 0)),(10,(.ptr (10,u5) 0)),(11,(.ptr (11,u6) 0)),(12,(di y4)),(13,(di x1.2)),(14,(di x2.2)),(15,(dl N8 v7)),(16,(di x3.2))],G [((9,u4),some<|.box 33 (K4 v2)),((10,u5),some<|.box 25 (I8 v3)),((11,u6),some<|.box 99 (FV v5))]⟩ s) ?_ ?_
 refine A8<|E2 (W7 v2 v3 v5 x2 v7 x3 v10 v11) (fun (x4:(Int×Int)) (g8:Unit)=>⟨T [(9,(.ptr (9,u4) 0)),(10,(.ptr (10,u5) 0)),(11,(.ptr (11,u6) 0)),(12,(di x4.1)),(13,(di x1.2)),(14,(di x2.2)),(15,(dl N8 v7)),(16,(di x3.2)),(18,(di<|Li false v10.To v11.To)),(19,(di x4.2))],G [((9,u4),some<|.box 33 (K4 v2)),((10,u5),some<|.box 25 (I8 v3)),((11,u6),some<|.box 99 (FV v5))]⟩) (x3.1,(Li true v8.From v9.From)) () _ hz7 (E8 W W) ?_
 intro x4 g8 z8 hz8 ez8
 unfold W7 at hz8
 refine A4<|A8<|A4<|B1<|sv W<|sq W<|sl W (gq W) W (sd W (D6 W)<|sv W<|A1<|cc W hz8 (fun c6 hz8=> ?_)<|fun c6 hz8=> ?_)
 refine B1<|sv W<|A1<|B2 ?_
 cases hz8
 obtain rfl:=ez8 _ rfl
 refine ⟨nofun,E7 ?_⟩
 rw [wC]at hz6
 cases hz6
 obtain rfl:=ez6 _ rfl
 refine ⟨nofun,E7 ?_⟩
 rw [wC]at hz4
 cases hz4
 obtain rfl:=ez4 _ rfl
 refine ⟨nofun,E7 ?_⟩
 rw [wC]at hz2
 cases hz2
 obtain rfl:=ez2 _ rfl
 refine ⟨nofun,E7 ?_⟩
 rw [wC]at h
 cases h
 exact A6 (.inr W) (B6 (B3 W) C0) (.refl _)
 refine A9<|A4<|Kf fun _ _=>J4 (.ptr _ _) W W (J4 (.d _) W (N5 W G_hit W) (J4 (.d _) W W (J4 (.d _) W W (bs hz8 fun _ hv15 hz8=>J4 (.d _) W (C4 W W hv15 W) (J4 (.d _) W W (J4 (.d _) W (C8 W hv15 W) (bs hz8 fun _ hv16 hz8=>J4 (.d _) W (C4 W W hv16 W) (J4 (.d _) W W (J4 (.d _) W (D0 W hv16 W W) (J4 (.d _) W W (bs hz8 fun v17 hv17 hz8=>hQ W W A2 (UV _ _ _ hv17) (.inl W) (J4 (.ptr _ _) W W (J4 (.d _) W (N5 W (gq W) W) (J4 (.d _) W W (bs hz8 fun v18 hv18 hz8=>J4 (.d _) W (C4 W W hv18 W) (J4 (.d _) W (D0 W hv18 W W) (CQ (.ptr _ _) (.box _ _) W W (CQ (.ptr _ _) (.box _ _) W W (Ij _ _ _ _ _ W W W (gq W) (nl W) [(di v17.X),(di v17.Y)] W (Ij _ _ _ _ _ W W W (gq W) (nl W) (qO v18) W (Vh ⟨W,?_⟩)))))))))))))))))))))
 refine A4<|A4<|E3 W<|sq W<|sl W G_hit W<|sq W<|sl W (gq W) W (sv W<|sv W<|sv W<|gp W (K3 W) (fun _=>W) (gf W (vl W (gq W) W)<|gp W (K3 W) (fun _=>W) (gf W (vl W G_hit W)<|gf W (fun w23=>(L6 (A3 w23) (A3 w23) W))<|gf W (vb W W W)<|sd W (N7 W W<|fun hc=>A3<|I7 hc)<|sv W<|gp W (K3 W) (fun _=>W) (gf W (vl W G_hit W)<|gp W (K3 W) (fun _=>W) (gf W (vl W (gq W) W)<|gf W (fun w29=>(L6 (A3 w29) (A3 w29) W))<|gf W (vb W W W)<|sd W (N7 W W<|fun hc=>A3<|I7 hc)<|sv W<|gp W (K3 W) (fun _=>W) (gf W (vl W (gq W) W)<|gp W (K3 W) (fun _=>W) (gf W (vl W G_hit W)<|gf W (fun w35=>(L6 (A3 w35) (A3 w35) W))<|gf W (vb W W W)<|sd W (N7 W W<|fun hc=>A3<|I7 hc)<|sv W<|gp W (K3 W) (fun _=>W) (gf W (vl W G_hit W)<|gp W (K3 W) (fun _=>W) (gf W (vl W (gq W) W)<|gf W (fun _=>W)<|bs hz8 fun _ hv19 hz8=>gf W (fun w42=>(C4 (A3 w42) (A3 w42) (C1 w42 hv19) W)) ?_)))))))))
 refine gf W (fun w43=>(by simp only [A3 w43];rfl)) ?_
 refine gf W (fun w44=>(C8 (A3 w44) (C1 w44 hv19) W))<|gf W (fun w45=>(L6 (A3 w45) (A3 w45) W))<|gf W (vb W W W)<|sd W (N7 W W<|fun hc=>A3<|I7 hc)<|sv W<|gp W (K3 W) (fun _=>W) (gf W (vl W (gq W) W)<|gf W (fun _=>W)<|bs hz8 fun _ hv20 hz8=>gf W (fun w50=>(C4 (A3 w50) (A3 w50) (C1 w50 hv20) W)) ?_)
 refine gf W (fun w51=>(by simp only [A3 w51];rfl)) ?_
 refine gf W (fun w52=>(C8 (A3 w52) (C1 w52 hv20) W))<|gp W (K3 W) (fun _=>W) (gf W (vl W G_hit W)<|gf W (fun w55=>(L6 (A3 w55) (A3 w55) W))<|gf W (vb W W W)<|sd W (N7 W W<|fun hc=>A3<|I7 hc)<|A1<|cc W hz8 (fun c7 hz8=> ?_)<|fun c7 hz8=> ?_)
 refine B1<|sv W<|A1<|B2 ?_
 cases hz8
 obtain rfl:=ez8 _ rfl
 refine ⟨nofun,E7 ?_⟩
 rw [wC]at hz6
 cases hz6
 obtain rfl:=ez6 _ rfl
 refine ⟨nofun,E7 ?_⟩
 rw [wC]at hz4
 cases hz4
 obtain rfl:=ez4 _ rfl
 refine ⟨nofun,E7 ?_⟩
 rw [wC]at hz2
 cases hz2
 obtain rfl:=ez2 _ rfl
 refine ⟨nofun,E7 ?_⟩
 rw [wC]at h
 cases h
 exact A6 (.inr W) (B6 (B3 W) C0) (.refl _)
 refine A9<|B1<|sv W<|sv W<|sv W<|A1<|B1<|sv W<|sv W<|sv W<|A1<|cc W hz8 (fun c8 hz8=> ?_)<|fun c8 hz8=> ?_
 refine C7 W ?_
 cases hz8
 obtain rfl:=ez8 _ rfl
 refine ⟨nofun,C5 W<|T0 ?_⟩
 exact ⟨_,(),W,(E8 W W)⟩
 refine A9<|D9<|B9<|sv W<|sv W<|sv W<|sv W<|sv W<|A1<|E1 ?_
 cases hz8
 exact ⟨W,(),(E8 W W)⟩
 rintro _ ⟨y4,g7,rfl,q1⟩
 rw [wB]at hz6
 refine D9<|B5 q1<|B9<|sv W<|sv W<|sv W<|A1<|E1 ?_
 cases hz6
 exact ⟨W,(),(E8 W W)⟩
 refine C7 W ?_
 cases hz6
 obtain rfl:=ez6 _ rfl
 refine ⟨nofun,C5 W<|T0 ?_⟩
 exact ⟨_,(),W,(E8 W W)⟩
 rintro _ ⟨y3,g5,rfl,q2⟩
 rw [wB]at hz4
 refine D9<|B5 q2<|B9<|sv W<|sv W<|sv W<|A1<|E1 ?_
 cases hz4
 exact ⟨W,(),(E8 W W)⟩
 refine C7 W ?_
 cases hz4
 obtain rfl:=ez4 _ rfl
 refine ⟨nofun,C5 W<|T0 ?_⟩
 exact ⟨_,(),W,(E8 W W)⟩
 rintro _ ⟨y2,g3,rfl,q3⟩
 rw [wB]at hz2
 refine D9<|B5 q3<|B9<|sv W<|sv W<|sv W<|A1<|E1 ?_
 cases hz2
 exact ⟨W,(),(E8 W W)⟩
 refine C7 W ?_
 cases hz2
 obtain rfl:=ez2 _ rfl
 refine ⟨nofun,C5 W<|T0 ?_⟩
 exact ⟨_,(),W,(E8 W W)⟩
 rintro _ ⟨y1,g1,rfl,q4⟩
 rw [wB]at h
 refine B5 q4<|B1<|sv W<|sq W<|sl W (gq W) W (sd W (D6 W)<|sv W<|sv W<|gp W (K6 W) (fun _=>W) (gt W (vl W (gq W) W)<|gp W (K6 W) (fun _=>W) (gt W (vl W G_hit W)<|gt W (fun w61=>(L6 (A3 w61) (A3 w61) W))<|sa W W W<|sv W<|bs h fun v21 hv21 h=>L9 _ (bo v21) (K6 W) (fun w62=>⟨_,_,_,_,W,W,A2,AX _<|C1 w62 hv21,(.inl W)⟩) (sa W W W<|sv W<|A1<|B2 ?_))))
 cases h
 exact A6 (.inr W) (B6 (B3 W) C0) (.refl _)
end
end Go.Abs.World
