/-
  The functions, part 5.
-/
import Derived.Test.YtgjdiioennhoeaaGreatFns4
set_option maxRecDepth 20000
set_option maxHeartbeats 4000000
set_option linter.unusedVariables false
namespace Go.Abs.World
noncomputable section
open Go Go.Abs Go.Proofs Tryz
attribute [local irreducible] L4 Em Cv
def Ld [Lp](p1:Spot)(p2:Spot)(p3:Spot)(p4:Spot):Option Bool:=
  (Cm [p1,p2,p3,p4]).bind fun v1=>cond (!v1) (some false) ((Ki p1 p2 p3).bind fun v2=>(Ki p1 p2 p4).bind fun v3=>(Ki p3 p4 p1).bind fun v4=>(Ki p3 p4 p2).bind fun v5=>cond ((decide ((D8 (v2*v3))<0))&& (decide ((D8 (v4*v5))<0))) (some true) (((cond (v2==0) (Dk p1 p2 p3) (some default))).bind fun v6=>((cond ((!((v2==0)&&v6))&& (v3==0)) (Dk p1 p2 p4) (some default))).bind fun v7=>((cond ((!(((v2==0)&&v6)||((v3==0)&&v7)))&& (v4==0)) (Dk p3 p4 p1) (some default))).bind fun v8=>((cond ((!((((v2==0)&&v6)||((v3==0)&&v7))||((v4==0)&&v8)))&& (v5==0)) (Dk p3 p4 p2) (some default))).bind fun v9=>some (((((v2==0)&&v6)||((v3==0)&&v7))||((v4==0)&&v8))||((v5==0)&&v9))))
theorem Xo(p1 p2 p3 p4 r)(h:Ld p1 p2 p3 p4=some r):PCall prog 233 [(.agg [(i64 p1.X),(i64 p1.Y)]),(.agg [(i64 p2.X),(i64 p2.Y)]),(.agg [(i64 p3.X),(i64 p3.Y)]),(.agg [(i64 p4.X),(i64 p4.Y)])] (bo r):=by
 refine C2 (fk func233 ntmps233 (fun r=>if r==1 then [1004]else []) (by with_unfolding_all rfl)) (nl W) ?_
 unfold Ld at h
 refine B4 (s0:=⟨T [(0,(.d _)),(1,(.d _)),(2,(.d _)),(3,(.d _))],G []⟩) (E6 W W) ?_
 refine B1<|sm W<|sn W W<|sm W<|sn W W<|sv W<|A1<|A4<|B1<|sd W (A7 W (gq W) W W)<|sd W (A7 W (gq W) W W)<|sd W (A7 W (gq W) W W)<|sd W (A7 W G_hit W W)<|B8 (dl X1 [p1,p2,p3,p4]) W W (bs h fun v1 hv1 h=>B0 W W A3 (Lr _ _ hv1) (.inl W) (B8 (.d (bo (!v1))) W W (A1<|cc W h (fun c1 h=> ?_)<|fun c1 h=> ?_)))
 refine B1<|sv W<|A1<|B2 ?_
 cases h
 exact A6 (.inr W) (B6 (B3 W) C1) (.refl _)
 refine A9<|A4<|E0 W<|sd W (A7 W (gq W) W W)<|sd W (A7 W (gq W) W W)<|sd W (A7 W (gq W) W W)<|bs h fun _ hv2 h=>B0 W W A3 (Qc _ _ _ _ hv2) (.inl W) (sd W (A7 W (gq W) W W)<|sd W (A7 W (gq W) W W)<|sd W (A7 W G_hit W W)<|bs h fun _ hv3 h=>B0 W W A3 (Qc _ _ _ _ hv3) (.inl W) (sd W (A7 W (gq W) W W)<|sd W (A7 W G_hit W W)<|sd W (A7 W (gq W) W W)<|bs h fun _ hv4 h=>B0 W W A3 (Qc _ _ _ _ hv4) (.inl W) (sd W (A7 W (gq W) W W)<|sd W (A7 W G_hit W W)<|sd W (A7 W (gq W) W W)<|bs h fun _ hv5 h=>B0 W W A3 (Qc _ _ _ _ hv5) (.inl W) (sv W<|sv W<|sv W<|sv W<|A1<|A4<|B1<|sv W<|sv W<|sv W<|sv W<|sv W<|gt W (fun _=>W)<|gt W (fun _=>W)<|gt W (fun w3=>(L6 (A2 w3) (A2 w3) W))<|gt W (vb W W W)<|sa W W W<|A1<|cc W h (fun c2 h=> ?_)<|fun c2 h=> ?_))))
 refine B1<|sv W<|A1<|B2 ?_
 cases h
 exact A6 (.inr W) (B6 (B3 W) C1) (.refl _)
 refine A9<|B1<|sv W<|sv W<|sv W<|gt W (fun _=>(A7 W (gq W) W W))<|gt W (fun _=>(A7 W (gq W) W W))<|gt W (fun _=>(A7 W (gq W) W W))<|bs h fun v6 hv6 h=> ?_
 refine M2 _ (bo v6) (K2 W) (fun w8=>⟨_,[(.d (.agg [(i64 p1.X),(i64 p1.Y)])),(.d (.agg [(i64 p2.X),(i64 p2.Y)])),(.d (.agg [(i64 p3.X),(i64 p3.Y)]))],_,_,(by simp only [A2 w8];rfl),W,A3,Lc _ _ _ _<|B9 w8 hv6,(.inl W)⟩) ?_
 refine sa W W W<|sv W<|gf W (fun _=>W)<|gf W (vb W W W)<|gf W (fun w11=>(EO<|A2 w11))<|gv W (L7 W) (fun _=>(A7 W (gq W) W W)) (gv W (L7 W) (fun _=>(A7 W (gq W) W W)) (gv W (L7 W) (fun _=>(A7 W G_hit W W)) (bs h fun v7 hv7 h=> ?_)))
 refine M2 _ (bo v7) (L7 W) (fun w15=>⟨_,[(.d (.agg [(i64 p1.X),(i64 p1.Y)])),(.d (.agg [(i64 p2.X),(i64 p2.Y)])),(.d (.agg [(i64 p4.X),(i64 p4.Y)]))],_,_,(by simp only [A2 w15];rfl),W,A3,Lc _ _ _ _<|B9 w15 hv7,(.inl W)⟩) ?_
 refine gf W (fun w16=>(Vm (A2 w16) (fun hc=>A2<|Ul w16 hc) W))<|sd W (N9 W W<|fun hc=>A2<|J2 hc)<|sv W<|gf W (fun _=>W)<|gf W (vb W W W)<|gf W (fun w19=>(EO<|A2 w19))<|gv W (L7 W) (fun _=>(A7 W (gq W) W W)) (gv W (L7 W) (fun _=>(A7 W G_hit W W)) (gv W (L7 W) (fun _=>(A7 W (gq W) W W)) (bs h fun v8 hv8 h=> ?_)))
 refine M2 _ (bo v8) (L7 W) (fun w23=>⟨_,[(.d (.agg [(i64 p3.X),(i64 p3.Y)])),(.d (.agg [(i64 p4.X),(i64 p4.Y)])),(.d (.agg [(i64 p1.X),(i64 p1.Y)]))],_,_,(by simp only [A2 w23];rfl),W,A3,Lc _ _ _ _<|B9 w23 hv8,(.inl W)⟩) ?_
 refine gf W (fun w24=>(Vm (A2 w24) (fun hc=>A2<|Ul w24 hc) W))<|sd W (N9 W W<|fun hc=>A2<|J2 hc)<|sv W<|gf W (fun _=>W)<|gf W (vb W W W)<|gf W (fun w27=>(EO<|A2 w27))<|gv W (L7 W) (fun _=>(A7 W (gq W) W W)) (gv W (L7 W) (fun _=>(A7 W G_hit W W)) (gv W (L7 W) (fun _=>(A7 W (gq W) W W)) (bs h fun v9 hv9 h=> ?_)))
 refine M2 _ (bo v9) (L7 W) (fun w31=>⟨_,[(.d (.agg [(i64 p3.X),(i64 p3.Y)])),(.d (.agg [(i64 p4.X),(i64 p4.Y)])),(.d (.agg [(i64 p2.X),(i64 p2.Y)]))],_,_,(by simp only [A2 w31];rfl),W,A3,Lc _ _ _ _<|B9 w31 hv9,(.inl W)⟩) ?_
 refine gf W (fun w32=>(Vm (A2 w32) (fun hc=>A2<|Ul w32 hc) W))<|sd W (N9 W W<|fun hc=>A2<|J2 hc)<|sv W<|A1<|B2 ?_
 cases h
 exact A6 (.inr W) (B6 (B3 W) C1) (.refl _)
def X6 [Lp](p1:WorldLooks)(p2:Span)(v3:Spot)(x2:Int):Option (Stp Int (Sum Unit Bool)):=
  cond (decide (x2< (p1.bars.length:Int))) ((C3 p1.bars x2).bind fun v10=>(C3 p1.bodies x2).bind fun v11=>(Tq v11 p2).bind fun v12=>((cond (!v12.2) (Ld p1.eye v3 v10.front v10.rear) (some default))).bind fun v13=>cond ((!v12.2)&&v13) (some (.out (.inr false))) (some (.go (D8 (x2+1))))) (some (.out (.inl ())))
def X7 [Lp](p1:WorldLooks)(p2:Span)(v2:Spot)(x1:Int):Option (Stp Int (Sum Unit Bool)):=
  cond (decide (x1< (p1.bars.length:Int))) ((C3 p1.bars x1).bind fun v5=>(C3 p1.bodies x1).bind fun v6=>(Tq v6 p2).bind fun v7=>((cond (!v7.2) (Ld p1.eye v2 v5.front v5.rear) (some default))).bind fun v8=>cond ((!v7.2)&&v8) (some (.out (.inr false))) (some (.go (D8 (x1+1))))) (some (.out (.inl ())))
def Eb [Lp](p1:WorldLooks)(p2:Span):Option Bool:=
  (C3 p1.m.Lanes p2.Lane_).bind fun v1=>(Kh v1.Curve_ p2.From).bind fun v2=>(Kh v1.Curve_ p2.To).bind fun v3=>thenS ((Pq p1.eye v2 p1.view).bind fun v4=>cond (!v4) (some (.inr false)) (thenS (loop (X7 p1 p2 v2) 0) (fun _=>(Pq p1.eye v3 p1.view).bind fun v9=>cond (!v9) (some (.inr false)) (thenS (loop (X6 p1 p2 v3) 0) (fun _=>some (.inl ())) (fun r=>some (.inr r)))) (fun r=>some (.inr r)))) (fun _=>some true) (fun r=>some r)
theorem Yf(p1 p2 r)(h:Eb p1 p2=some r):PCall prog 194 [(.bp (Qm p1) 0),(.agg (Q7 p2))] (bo r):=by
 refine C2 (fk func194 ntmps194 m0 (by with_unfolding_all rfl)) (nl W) ?_
 unfold Eb at h
 refine B4 (s0:=⟨T [(0,(.d _)),(1,(.d _))],G []⟩) (E6 W W) ?_
 refine lr<|fun u1 _=>sm W<|sv W<|A1<|A4<|E0 W<|sv W<|sv W<|sv W<|sv W<|sv W<|sq W<|sl W G_hit W<|bs h fun v1 hv1 h=>sd W (C4 W W hv1 W)<|sv W<|sd W (D1 W hv1 W W)<|sm W<|R4 W G_hit [(dl X1 v1.Curve_.Pts)] W (A1<|A4<|A4<|E0 W<|sd W (A7 W G_hit W W)<|sq W<|sl W (gq W) W (bs h fun v2 hv2 h=>B0 W W A3 (Zw _ _ _ hv2) (.inl W) (sd W (A7 W G_hit W W)<|sq W<|sl W (gq W) W (bs h fun v3 hv3 h=>B0 W W A3 (Zw _ _ _ hv3) (.inl W) (sv W<|sv W<|A1<|js h fun z1 hz1 h=>D4 (fun s=> ∃(y1:Unit) (g1:Unit),z1= .inl y1∧Sb ⟨T [],G []⟩ s) ?_ ?_)))))
 refine A8<|Ss<|B1<|sv W<|A1<|A4<|Uk W<|A9<|A4<|A8<|lr<|fun u5 _=>sv W<|sm W<|R4 W G_hit [(di v2.X),(di v2.Y)] W (A1<|A4<|A4<|E0 W<|sv W<|sv W<|sv W<|sv W<|sd W (A7 W G_hit W W)<|sv W<|sv W<|sv W<|sv W<|bs hz1 fun v4 hv4 hz1=>B0 W W A3 (CC _ _ _ _ hv4) (.inl W) (B8 (.d (bo (!v4))) W W (A1<|cc W hz1 (fun c1 hz1=> ?_)<|fun c1 hz1=> ?_)))
 refine B1<|sv W<|A1<|B2 ?_
 cases hz1
 rw [wA]at h
 cases h
 exact A6 (.inr W) (B6 (B3 W) C1) (.refl _)
 refine A9<|B1<|sv W<|sv W<|sv W<|sv W<|sd W (D6 W)<|sv W<|A1<|js hz1 fun z2 hz2 hz1=>D4 (fun s=> ∃(y2:Unit) (g2:Unit),z2= .inl y2∧Sb ⟨T [(0,(.d (.bp (Qm p1) 0))),(3,(.ptr (3,u1) 0)),(30,(.d (.agg [(i64 v2.X),(i64 v2.Y),(i64 v3.X),(i64 v3.Y)]))),(31,(di 0))],G [((3,u1),some<|.box 93 (OS p2))]⟩ s) ?_ ?_
 refine A8<|E2 (X7 p1 p2 v2) (fun (x1:Int) (g3:Unit)=>⟨T [(0,(.d (.bp (Qm p1) 0))),(3,(.ptr (3,u1) 0)),(7,(.ptr (7,u5) 0)),(30,(.d (.agg [(i64 v2.X),(i64 v2.Y),(i64 v3.X),(i64 v3.Y)]))),(31,(di 0)),(48,(dl Cc p1.bars)),(49,(di (p1.bars.length:Int))),(50,(di x1))],G [((3,u1),some<|.box 93 (OS p2)),((7,u5),some<|.box 104 [(di v2.X),(di v2.Y)])]⟩) 0 () _ hz2 (E6 W W) ?_
 intro x1 g3 z3 hz3 ez3
 unfold X7 at hz3
 refine B1<|sv W<|A1<|A4<|cc W hz3 (fun c2 hz3=> ?_)<|fun c2 hz3=> ?_
 refine A9<|A4<|A8<|B1<|sv W<|bs hz3 fun v5 hv5 hz3=>sd W (C4 W W hv5 W)<|sd W (D1 W hv5 W W)<|sm W<|sv W<|R4 W G_hit (OQ v5) W (A1<|A4<|E0 W<|sv W<|sv W<|sv W<|sv W<|sv W<|bs hz3 fun _ hv6 hz3=>sd W (C4 W W hv6 W)<|sd W (C7 W hv6 W)<|sd W (A7 W (gq W) W W)<|bs hz3 fun v7 hv7 hz3=>B0 W W A3 (HQ _ _ _ hv7) (.inl W) (sv W<|sv W<|sv W<|sm W<|R4 W G_hit [(di v7.1.from_),(di v7.1.to)] W (sv W<|A1<|A4<|E0 W<|sv W<|B8 (.d (bo (!v7.2))) W W (sv W<|gt W (fun _=>W) ?_))))
 refine gt W (fun w2=>(by simp only [A2 w2];rfl)) ?_
 refine gt W (fun w3=>(by simp only [A2 w3];rfl)) ?_
 refine gt W (fun w4=>(by simp only [A2 w4];rfl)) ?_
 refine gt W (fun _=>(A7 W (gq W) W W))<|gp W (K2 W) (fun _=>W) (gt W (fun w7=>(A7 (A2 w7) (gq W) W W))<|gp W (K2 W) (fun _=>W) (gt W (fun w9=>(A7 (A2 w9) (gq W) W W))<|bs hz3 fun v8 hv8 hz3=> ?_))
 refine M2 _ (bo v8) (K2 W) (fun w10=>⟨_,[(.d (.agg [(i64 p1.eye.X),(i64 p1.eye.Y)])),(.d (.agg [(i64 v2.X),(i64 v2.Y)])),(.d (.agg [(i64 v5.front.X),(i64 v5.front.Y)])),(.d (.agg [(i64 v5.rear.X),(i64 v5.rear.Y)]))],_,_,(by simp only [A2 w10];rfl),W,A3,Xo _ _ _ _ _<|B9 w10 hv8,(.inl W)⟩) ?_
 refine sa W W W<|A1<|cc W hz3 (fun c3 hz3=> ?_)<|fun c3 hz3=> ?_
 refine B1<|sv W<|A1<|B2 ?_
 cases hz3
 obtain rfl:=ez3 _ rfl
 refine ⟨nofun,F1 ?_⟩
 rw [wA]at hz1
 cases hz1
 rw [wA]at h
 cases h
 exact A6 (.inr W) (B6 (B3 W) C1) (.refl _)
 refine A9<|D9<|C0<|sv W<|sv W<|A1<|E1 ?_
 cases hz3
 exact ⟨W,(),(E6 W W)⟩
 refine C6 W ?_
 cases hz3
 obtain rfl:=ez3 _ rfl
 refine ⟨nofun,C5 W<|T3 ?_⟩
 exact ⟨_,(),W,(E6 W W)⟩
 rintro _ ⟨y2,g2,rfl,q1⟩
 rw [bZ]at hz1
 refine D9<|B4 q1<|C0<|sv W<|sv W<|A1<|Ss<|B1<|sv W<|A1<|A4<|Uk W<|A9<|A4<|A8<|lr<|fun u17 _=>sv W<|sm W<|R4 W G_hit [(di v3.X),(di v3.Y)] W (A1<|A4<|A4<|E0 W<|sv W<|sv W<|sv W<|sv W<|sd W (A7 W G_hit W W)<|sv W<|sv W<|sv W<|sv W<|bs hz1 fun v9 hv9 hz1=>B0 W W A3 (CC _ _ _ _ hv9) (.inl W) (B8 (.d (bo (!v9))) W W (A1<|cc W hz1 (fun c4 hz1=> ?_)<|fun c4 hz1=> ?_)))
 refine B1<|sv W<|A1<|B2 ?_
 cases hz1
 rw [wA]at h
 cases h
 exact A6 (.inr W) (B6 (B3 W) C1) (.refl _)
 refine A9<|B1<|sv W<|sv W<|sv W<|sv W<|sd W (D6 W)<|sv W<|A1<|js hz1 fun z4 hz4 hz1=>D4 (fun s=> ∃(y3:Unit) (g4:Unit),z4= .inl y3∧Sb ⟨T [(0,(.d (.bp (Qm p1) 0))),(3,(.ptr (3,u1) 0)),(30,(.d (.agg [(i64 v2.X),(i64 v2.Y),(i64 v3.X),(i64 v3.Y)]))),(31,(di 1))],G [((3,u1),some<|.box 93 (OS p2))]⟩ s) ?_ ?_
 refine A8<|E2 (X6 p1 p2 v3) (fun (x2:Int) (g5:Unit)=>⟨T [(0,(.d (.bp (Qm p1) 0))),(3,(.ptr (3,u1) 0)),(7,(.ptr (7,u17) 0)),(30,(.d (.agg [(i64 v2.X),(i64 v2.Y),(i64 v3.X),(i64 v3.Y)]))),(31,(di 1)),(48,(dl Cc p1.bars)),(49,(di (p1.bars.length:Int))),(50,(di x2))],G [((3,u1),some<|.box 93 (OS p2)),((7,u17),some<|.box 104 [(di v3.X),(di v3.Y)])]⟩) 0 () _ hz4 (E6 W W) ?_
 intro x2 g5 z5 hz5 ez5
 unfold X6 at hz5
 refine B1<|sv W<|A1<|A4<|cc W hz5 (fun c5 hz5=> ?_)<|fun c5 hz5=> ?_
 refine A9<|A4<|A8<|B1<|sv W<|bs hz5 fun v10 hv10 hz5=>sd W (C4 W W hv10 W)<|sd W (D1 W hv10 W W)<|sm W<|sv W<|R4 W G_hit (OQ v10) W (A1<|A4<|E0 W<|sv W<|sv W<|sv W<|sv W<|sv W<|bs hz5 fun _ hv11 hz5=>sd W (C4 W W hv11 W)<|sd W (C7 W hv11 W)<|sd W (A7 W (gq W) W W)<|bs hz5 fun v12 hv12 hz5=>B0 W W A3 (HQ _ _ _ hv12) (.inl W) (sv W<|sv W<|sv W<|sm W<|R4 W G_hit [(di v12.1.from_),(di v12.1.to)] W (sv W<|A1<|A4<|E0 W<|sv W<|B8 (.d (bo (!v12.2))) W W (sv W<|gt W (fun _=>W) ?_))))
 refine gt W (fun w12=>(by simp only [A2 w12];rfl)) ?_
 refine gt W (fun w13=>(by simp only [A2 w13];rfl)) ?_
 refine gt W (fun w14=>(by simp only [A2 w14];rfl)) ?_
 refine gt W (fun _=>(A7 W (gq W) W W))<|gp W (K2 W) (fun _=>W) (gt W (fun w17=>(A7 (A2 w17) (gq W) W W))<|gp W (K2 W) (fun _=>W) (gt W (fun w19=>(A7 (A2 w19) (gq W) W W))<|bs hz5 fun v13 hv13 hz5=> ?_))
 refine M2 _ (bo v13) (K2 W) (fun w20=>⟨_,[(.d (.agg [(i64 p1.eye.X),(i64 p1.eye.Y)])),(.d (.agg [(i64 v3.X),(i64 v3.Y)])),(.d (.agg [(i64 v10.front.X),(i64 v10.front.Y)])),(.d (.agg [(i64 v10.rear.X),(i64 v10.rear.Y)]))],_,_,(by simp only [A2 w20];rfl),W,A3,Xo _ _ _ _ _<|B9 w20 hv13,(.inl W)⟩) ?_
 refine sa W W W<|A1<|cc W hz5 (fun c6 hz5=> ?_)<|fun c6 hz5=> ?_
 refine B1<|sv W<|A1<|B2 ?_
 cases hz5
 obtain rfl:=ez5 _ rfl
 refine ⟨nofun,F1 ?_⟩
 rw [wA]at hz1
 cases hz1
 rw [wA]at h
 cases h
 exact A6 (.inr W) (B6 (B3 W) C1) (.refl _)
 refine A9<|D9<|C0<|sv W<|sv W<|A1<|E1 ?_
 cases hz5
 exact ⟨W,(),(E6 W W)⟩
 refine C6 W ?_
 cases hz5
 obtain rfl:=ez5 _ rfl
 refine ⟨nofun,C5 W<|T3 ?_⟩
 exact ⟨_,(),W,(E6 W W)⟩
 rintro _ ⟨y3,g4,rfl,q2⟩
 rw [bZ]at hz1
 refine D9<|B4 q2<|C0<|sv W<|sv W<|A1<|Ss<|B1<|sv W<|A1<|A4<|Rt W<|Sr W ?_
 cases hz1
 exact T3 ⟨_,(),W,(E6 W W)⟩
 rintro _ ⟨y1,g1,rfl,q3⟩
 rw [bZ]at h
 refine B4 q3<|B1<|sv W<|A1<|B2 ?_
 cases h
 exact A6 (.inr W) (B6 (B3 W) C1) (.refl _)
def Dl [Lp](y1:WorldLooks)(x2:((List Span)×Int))(v12:Int)(x3:((List Span)×Int)):Option (Stp ((List Span)×Int) (List Span)):=
  cond (decide (x3.2<v12)) ((Eb y1 (Span.mk x2.2 x3.2 (Ov false (D8 (x3.2+1000)) v12))).bind fun v13=>cond (!v13) (some (.go (x3.1,(D8 (x3.2+1000))))) (((cond (decide ((x3.1.length:Int)>0)) (C3 x3.1 (D8 ((x3.1.length:Int) - 1))) (some default))).bind fun v14=>cond ((decide ((x3.1.length:Int)>0))&& (v14.To==x3.2)) ((C3 x3.1 (D8 ((x3.1.length:Int) - 1))).bind fun v15=>some (.go ((Nk x3.1 (D8 ((x3.1.length:Int) - 1)) (Span.mk v15.Lane_ v15.From (Ov false (D8 (x3.2+1000)) v12))),(D8 (x3.2+1000))))) ((Am x3.1 [(Span.mk x2.2 x3.2 (Ov false (D8 (x3.2+1000)) v12))]).bind fun v16=>some (.go (v16,(D8 (x3.2+1000))))))) (some (.out x3.1))
def Vc [Lp](y1:WorldLooks)(x2:((List Span)×Int)):Option (List Span):=
  (Ai y1.m x2.2).bind fun v12=>(loop (Dl y1 x2 v12) ([],0)).bind fun y5=>some y5
def Mc [Lp](p1:Map)(y1:WorldLooks)(x2:((List Span)×Int)):Option (Stp ((List Span)×Int) (List Span)):=
  cond (decide (x2.2< (p1.Lanes.length:Int))) ((Vc y1 x2).bind fun y4=>(Am x2.1 y4).bind fun v17=>some (.go (v17,(D8 (x2.2+1))))) (some (.out x2.1))
def Jj [Lp](p1:Map)(p2:State)(x1:(Int× ((List (List Span))× (List WorldBar)))):Option (Stp (Int× ((List (List Span))× (List WorldBar))) ((List (List Span))× (List WorldBar))):=
  cond (decide (x1.1< (p2.Agents.length:Int))) ((C3 p2.Agents x1.1).bind fun v5=>((cond (decide (x1.1>0)) (Fb p2 x1.1) (some default))).bind fun v6=>cond ((decide (x1.1>0))&&v6) ((Ft p1 v5).bind fun v7=>(Am x1.2.1 [v7]).bind fun v8=>(Qv p1 v5.Route v5.S).bind fun v9=>(Qv p1 v5.Route (D8 (v5.S - v5.Len))).bind fun v10=>(Am x1.2.2 [(WorldBar.mk v9 v10)]).bind fun v11=>some (.go ((D8 (x1.1+1)),(v8,v11)))) (some (.go ((D8 (x1.1+1)),x1.2)))) (some (.out x1.2))
def Md [Lp](p1:Map)(p2:State)(p3:Int):Option WorldLooks:=
  (C3 p2.Agents 0).bind fun v2=>(C3 p2.Agents 0).bind fun v3=>(Qv p1 v2.Route v3.S).bind fun v4=>(loop (Jj p1 p2) (0,([],[]))).bind fun y2=>some (WorldLooks.mk p1 v4 p3 y2.1 y2.2)
def Pr [Lp](p1:Map)(p2:State)(p3:Int):Option (List Span):=
  (Tp p1 p2 p3).bind fun v1=>cond (!v1) (some []) ((Md p1 p2 p3).bind fun y1=>(loop (Mc p1 y1) ([],0)).bind fun y3=>some y3)
theorem CD(p1 p2 p3 r)(h:Pr p1 p2 p3=some r):PCall prog 57 [(.agg (P1 p1)),(.agg (Y8 p2)),(i64 p3)] (.list (List.map Q7 r)):=by
 refine C2 (fk func57 ntmps57 (fun r=>if r==4 then [3]else if r==8 then [3]else []) (by with_unfolding_all rfl)) (nl W) ?_
 unfold Pr at h
 refine B4 (s0:=⟨T [(0,(.d _)),(1,(.d _)),(2,(.d _))],G []⟩) (E6 W W) ?_
 refine lr<|fun u1 _=>sm W<|sm W<|sv W<|A1<|A4<|B1<|sd W (A7 W (gq W) W W)<|sd W (A7 W G_hit W W)<|sv W<|bs h fun v1 hv1 h=>B0 W W A3 (NL _ _ _ _ hv1) (.inl W) (B8 (.d (bo (!v1))) W W (A1<|cc W h (fun c1 h=> ?_)<|fun c1 h=> ?_))
 refine B1<|sv W<|A1<|B2 ?_
 cases h
 exact A6 (.inr W) (B6 (B3 W) C1) DLe.nil
 refine A9<|B1<|sv W<|A1<|B1<|sd W (A7 W (gq W) W W)<|sd W (A7 W G_hit W W)<|sv W<|bs h fun y1 hy1 h=>Wk (fk func123 ntmps123 (fun r=>if r==6 then [1008]else if r==7 then [1021]else []) (by with_unfolding_all rfl)) (fun (g1:(Nat×Nat×Nat))=> [(3,(.ptr (3,u1) 0)),(7,(.d .nilS)),(18,(.ptr (25,g1.2.2) 0))]) (fun (g1:(Nat×Nat×Nat))=> [((3,u1),some<|.box 33 (K8 p1)),((50,g1.1),oB 90 1 Mi y1.bodies),((75,g1.2.1),oB 248 4 Cc y1.bars),((25,g1.2.2),some<|.box 246 (((My y1).set 8 (oS y1.bodies (50,g1.1))).set 9 (oS y1.bars (75,g1.2.1))))]) W (nl W) ?_ ?_
 unfold Md at hy1
 refine B4 (s0:=⟨T [(0,(.d _)),(1,(.d _)),(2,(.d _))],G [((3,u1),some<|.box 33 _)]⟩) (E6 W W) ?_
 refine lr<|fun u6 hu6=>sm W<|sm W<|sv W<|A1<|A4<|Jr W fun u7 _=>sd W (A7 W (gq W) W W)<|sv W<|sd W (A7 W (gq W) W W)<|sq W<|sl W G_hit W<|bs hy1 fun _ hv2 hy1=>sd W (C4 W W hv2 W)<|sv W<|sd W (C7 W hv2 W)<|sq W<|sl W G_hit W<|bs hy1 fun _ hv3 hy1=>sd W (C4 W W hv3 W)<|sv W<|sd W (C7 W hv3 W)<|bs hy1 fun v4 hv4 hy1=>B0 W W A3 (Zx _ _ _ _ hv4) (.inl W) (sv W<|sm W<|sq W<|A1<|A4<|B1<|sq W<|sl W (gq W) W (sd W (D6 W)<|sv W<|A1<|bs hy1 fun y2 hy2 hy1=>D4 (fun s=> ∃g2:(Nat×Nat),Sb ⟨T [(7,(.ptr (25,u7) 0))],G [((25,u7),some<|.box 246 ((K8 p1)++ [(di v4.X),(di v4.Y),(di p3),(oS y2.1 (50,g2.1)),(oS y2.2 (75,g2.2))])),((3,u1),some<|.box 33 (K8 p1)),((50,g2.1),oB 90 1 Mi y2.1),((75,g2.2),oB 248 4 Cc y2.2)]⟩ s) ?_ ?_))
 refine A8<|E2 (Jj p1 p2) (fun (x1:(Int× ((List<|List Span)× (List WorldBar)))) (g3:(Nat×Nat))=>⟨T [(3,(.ptr (3,u6) 0)),(4,(.ptr (4,u6) 0)),(7,(.ptr (25,u7) 0)),(27,(dl C8 p2.Agents)),(28,(di (p2.Agents.length:Int))),(29,(di x1.1))],G [((3,u6),some<|.box 33 (K8 p1)),((4,u6),some<|.box 25 (K4 p2)),((25,u7),some<|.box 246 ((K8 p1)++ [(di v4.X),(di v4.Y),(di p3),(oS x1.2.1 (50,g3.1)),(oS x1.2.2 (75,g3.2))])),((3,u1),some<|.box 33 (K8 p1)),((50,g3.1),oB 90 1 Mi x1.2.1),((75,g3.2),oB 248 4 Cc x1.2.2)]⟩) (0,([],[])) (0,0) _ hy2 (D5 (X3 W)<|sg W<|sg W<|B5 G_hit (.of W)<|B5 (Vo 2 W<|W1 (Vl hu6 G_hit) G_hit) (.of W) (P4<|P4 trivial)) ?_
 intro x1 g3 z1 hz1 ez1
 unfold Jj at hz1
 refine B1<|sv W<|A1<|A4<|cc W hz1 (fun c2 hz1=> ?_)<|fun c2 hz1=> ?_
 refine A9<|A4<|A8<|B1<|sv W<|bs hz1 fun v5 hv5 hz1=>sd W (C4 W W hv5 W)<|sd W (D1 W hv5 W W)<|sm W<|sv W<|R4 W G_hit (T4 v5) W (A1<|B1<|sv W<|sv W<|sv W<|gt W (fun _=>(A7 W (gq W) W W))<|gt W (fun _=>W)<|bs hz1 fun v6 hv6 hz1=> ?_)
 refine M2 _ (bo v6) (K2 W) (fun w3=>⟨_,[(.d (.agg (Y8 p2))),(di x1.1)],_,_,(by simp only [A2 w3];rfl),W,A3,Jv _ _ _<|B9 w3 hv6,(.inl W)⟩) ?_
 refine sa W W W<|A1<|cc W hz1 (fun c3 hz1=> ?_)<|fun c3 hz1=> ?_
 refine A4<|Jr W fun u12 _=>sq W<|sq W<|sp W W<|sq W<|B8 (oS x1.2.1 (50,g3.1)) W (O4 W (gq W) W) (sd W (A7 W (gq W) W W)<|sd W (A7 W G_hit W W)<|bs hz1 fun v7 hv7 hz1=>B0 W W A3 (Ux _ _ _ hv7) (.inl W) (B8 (dl Mi [v7]) W W (bs hz1 fun _ hv8 hz1=>N8 Mi (50,g3.1) x1.2.1 v7 [] _ (K1<|fun _=>W) W (gq W) hv8 (sq W<|sp W W<|R4 W (gq W) ((K8 p1)++ [(di v4.X),(di v4.Y),(di p3),(.sl (50,u12)),(oS x1.2.2 (75,g3.2))]) W (A1<|Jr W fun u13 _=>sq W<|sq W<|sp W W<|sq W<|B8 (oS x1.2.2 (75,g3.2)) W (O4 W G_hit W) (sd W (A7 W (gq W) W W)<|sq W<|sl W (gq W) W (sq W<|sl W (gq W) W (bs hz1 fun v9 hv9 hz1=>B0 W W A3 (Zx _ _ _ _ hv9) (.inl W) (sd W (A7 W (gq W) W W)<|sq W<|sl W (gq W) W (sq W<|sl W (gq W) W (sq W<|sl W (gq W) W (sv W<|bs hz1 fun v10 hv10 hz1=>B0 W W A3 (Zx _ _ _ _ hv10) (.inl W) (sv W<|B8 (dl Cc [(WorldBar.mk v9 v10)]) W W (bs hz1 fun _ hv11 hz1=>N8 Cc (75,g3.2) x1.2.2 (WorldBar.mk v9 v10) [] _ (K1<|fun _=>W) W (gq W) hv11 (sq W<|sp W W<|R4 W (gq W) ((K8 p1)++ [(di v4.X),(di v4.Y),(di p3),(.sl (50,u12)),(.sl (75,u13))]) W (A1<|D9<|C0<|sv W<|sv W<|A1<|E1 ?_))))))))))))))))
 cases hz1
 exact ⟨W,(u12,u13),(D5 (X3 W)<|sg W<|sg W<|B5 G_hit (.box (cv<|cv<|cv<|cv<|cv<|cv<|cv<|cv<|.cons (.of (S6<|T0 hv8).symm) (.cons (.of (S6<|T0 hv11).symm) .nil)))<|B5 (Vo 8 W<|W1 (Vl hu6 G_hit)<|gq W) (.of W) (M6 (gq W)<|M6 (gq W) trivial))⟩
 refine A9<|D9<|C0<|sv W<|sv W<|A1<|E1 ?_
 cases hz1
 exact ⟨W,(g3.1,g3.2),(D5 (X3 W)<|sg W<|sg W<|sg W<|B5 (Vo 2 W<|W1 (Vl hu6 G_hit)<|gq W) (.of W) (B7 (gq W)<|B7 (gq W) trivial))⟩
 refine C6 W ?_
 cases hz1
 obtain rfl:=ez1 _ rfl
 refine ⟨nofun,C5 W<|T3 ?_⟩
 exact ⟨(g3.1,g3.2),(D5 ⟨.of W,trivial⟩<|sg W<|B5 (W1 (Vl hu6 G_hit)<|gq W) (.of W) (B7 (gq W)<|B7 (gq W) trivial))⟩
 rintro _ ⟨g2,q1⟩
 refine B4 q1<|B1<|sq W<|sp W W<|A1<|B2 ?_
 cases hy1
 exact EU (.inr W) (KR<|B3 W) (g2.1,g2.2,u7) (X3 W) (sg W<|B7 (gq W)<|B7 (gq W)<|B5 G_hit (.of W) trivial)
 intro g1
 intro u17 hu17
 refine sp W W<|A1<|A4<|B1<|sq W<|sl W G_hit W<|sd W (D6 W)<|sv W<|A1<|bs h fun y3 hy3 h=>D4 (fun s=> ∃g4:Nat,Sb ⟨T [(7,(oS y3 (29,g4)))],G [((29,g4),oB 93 3 Q7 y3)]⟩ s) ?_ ?_
 refine A8<|E2 (Mc p1 y1) (fun (x2:((List Span)×Int)) (g5:Nat)=>⟨T [(7,(oS x2.1 (29,g5))),(8,(.ptr (25,g1.2.2) 0)),(21,(di (p1.Lanes.length:Int))),(22,(di x2.2))],G [((25,g1.2.2),some<|.box 246 (((My y1).set 8 (oS y1.bodies (50,g1.1))).set 9 (oS y1.bars (75,g1.2.1)))),((50,g1.1),oB 90 1 Mi y1.bodies),((75,g1.2.1),oB 248 4 Cc y1.bars),((29,g5),oB 93 3 Q7 x2.1)]⟩) ([],0) 0 _ hy3 (D5 (X3 W)<|sg W<|B7 (gq W)<|B7 (gq W)<|P4 trivial) ?_
 intro x2 g5 z2 hz2 ez2
 unfold Mc at hz2
 refine B1<|sv W<|A1<|A4<|cc W hz2 (fun c4 hz2=> ?_)<|fun c4 hz2=> ?_
 refine A9<|A4<|A8<|B1<|sv W<|sv W<|A1<|C0<|B8 (oS x2.1 (29,g5)) W W (sq W<|sv W<|bs hz2 fun y4 hy4 hz2=>Wk (fk func124 ntmps124 (fun r=>if r==11 then [1002]else []) (by with_unfolding_all rfl)) (fun (g6:Nat)=> [(8,(.ptr (25,g1.2.2) 0)),(21,(di (p1.Lanes.length:Int))),(22,(di x2.2)),(25,(oS x2.1 (29,g5))),(28,(oS y4 (56,g6)))]) (fun (g6:Nat)=> [((25,g1.2.2),some<|.box 246 (((My y1).set 8 (oS y1.bodies (50,g1.1))).set 9 (oS y1.bars (75,g1.2.1)))),((29,g5),oB 93 3 Q7 x2.1),((50,g1.1),oB 90 1 Mi y1.bodies),((75,g1.2.1),oB 248 4 Cc y1.bars),((56,g6),oB 93 3 Q7 y4)]) W (nl W) ?_ ?_)
 unfold Vc at hy4
 refine B4 (s0:=⟨T [(0,(.ptr (25,g1.2.2) 0)),(1,(di x2.2))],G [((25,g1.2.2),some<|.box 246 (((My y1).set 8 (oS y1.bodies (50,g1.1))).set 9 (oS y1.bars (75,g1.2.1)))),((50,g1.1),oB 90 1 Mi y1.bodies),((75,g1.2.1),oB 248 4 Cc y1.bars),((29,g5),oB 93 3 Q7 x2.1)]⟩) (D5 (X3 W)<|B5 G_hit (.of W)<|B7 (gq W)<|B7 (gq W)<|B7 (gq W) trivial) ?_
 refine B1<|sv W<|A1<|B1<|sv W<|A1<|B1<|sq W<|sp W W<|sq W<|sd W (A7 W G_hit W W)<|sv W<|bs hy4 fun v12 hv12 hy4=>B0 W W A3 (Ml _ _ _ hv12) (.inl W) (sv W<|A1<|A4<|B1<|sv W<|A1<|bs hy4 fun y5 hy5 hy4=>D4 (fun s=> ∃g7:Nat,Sb ⟨T [(5,(oS y5 (56,g7)))],G [((25,g1.2.2),some<|.box 246 (((My y1).set 8 (oS y1.bodies (50,g1.1))).set 9 (oS y1.bars (75,g1.2.1)))),((29,g5),oB 93 3 Q7 x2.1),((50,g1.1),oB 90 1 Mi y1.bodies),((75,g1.2.1),oB 248 4 Cc y1.bars),((56,g7),oB 93 3 Q7 y5)]⟩ s) ?_ ?_)
 refine A8<|E2 (Dl y1 x2 v12) (fun (x3:((List Span)×Int)) (g8:Nat)=>⟨T [(0,(.ptr (25,g1.2.2) 0)),(1,(di x2.2)),(5,(oS x3.1 (56,g8))),(6,(di v12)),(7,(di x3.2))],G [((25,g1.2.2),some<|.box 246 (((My y1).set 8 (oS y1.bodies (50,g1.1))).set 9 (oS y1.bars (75,g1.2.1)))),((29,g5),oB 93 3 Q7 x2.1),((50,g1.1),oB 90 1 Mi y1.bodies),((75,g1.2.1),oB 248 4 Cc y1.bars),((56,g8),oB 93 3 Q7 x3.1)]⟩) ([],0) 0 _ hy5 (D5 (X3 W)<|B5 G_hit (.of W)<|B7 (gq W)<|B7 (gq W)<|B7 (gq W)<|P4 trivial) ?_
 intro x3 g8 z3 hz3 ez3
 unfold Dl at hz3
 refine A4<|B1<|sv W<|sv W<|sv W<|A1<|cc W hz3 (fun c5 hz3=> ?_)<|fun c5 hz3=> ?_
 refine A9<|A4<|A8<|B1<|sv W<|sv W<|sv W<|sv W<|sv W<|sv W<|sv W<|sm W<|R4 W G_hit [(di x2.2),(di x3.2),(di<|Ov false (D8 (x3.2+1000)) v12)] W (A1<|A4<|B1<|sq W<|sd W (A7 W G_hit W W)<|bs hz3 fun v13 hv13 hz3=>B0 W (E4 (Ax (gq W)<|rD<|rD<|rD<|rD<|rD<|rD<|rD<|rD<|E4 (R9<|gq W)<|E4 (R9<|gq W) F6)<|rD F6) (.cons (DLe.bp<|ca W<|ca W<|ca W<|ca W<|ca W<|ca W<|ca W<|ca W<|.cons ⟨R8,W⟩ (.cons ⟨R8,W⟩ .nil)) A3) (Yf _ _ _ hv13) (.inr W) (B8 (.d (bo (!v13))) W W (A1<|cc W hz3 (fun c6 hz3=> ?_)<|fun c6 hz3=> ?_)))
 refine Sr W<|C0<|sv W<|sv W<|sv W<|A1<|E1 ?_
 cases hz3
 exact ⟨W,g8,(D5 (X3 W)<|sg W<|B7 (gq W)<|B7 (gq W)<|B7 (gq W)<|B7 (gq W) trivial)⟩
 refine A9<|B1<|B8 (oS x3.1 (56,g8)) W W (sd W (WF (f:=Q7) W (gq W))<|sv W<|A1<|B1<|sv W<|sv W<|sv W<|M3 _ (oS x3.1 (56,g8)) W (K2 W) (fun _=>W) (gt W (fun _=>W)<|gt W (vb W W W)<|bs hz3 fun _ hv14 hz3=>M3 _ (.aptr _ _ _ _) W (K2 W) (fun w7=>(Nr (A2 w7) (A2 w7) (gq W) (B9 w7 hv14))) ?_))
 refine M3 _ (.aptr _ _ _ _) W (K2 W) (fun w8=>(by simp only [A2 w8];rfl)) ?_
 refine gt W (fun w9=>(Ns (A2 w9) (Eu (gq W)<|Az<|B9 w9 hv14) (B9 w9 hv14) W))<|gt W (fun _=>W)<|gt W (fun w11=>(L6 (A2 w11) (A2 w11) W))<|sa W W W<|A1<|cc W hz3 (fun c7 hz3=> ?_)<|fun c7 hz3=> ?_
 refine C0<|B8 (oS x3.1 (56,g8)) W W (sv W<|sv W<|sq W<|sl W G_hit W<|bs hz3 fun v15 hv15 hz3=>B8 (.aptr _ _ _ _) W (Nr W W (gq W) hv15) (B8 (.aptr _ _ _ _) W W ?_))
 rw [S6 (Az hv15)]
 refine Np Q7 _ _ _ ((D8 ((x3.1.length:Int) - 1))) _ (Span.mk v15.Lane_ v15.From<|Ov false (D8 (x3.2+1000)) v12) [(i64<|Ov false (D8 (x3.2+1000)) v12)] W W W (Eu (gq W)<|Az hv15) hv15 (nl W) W (A1<|D9<|C0<|sv W<|sv W<|sv W<|A1<|E1 ?_)
 cases hz3
 exact ⟨W,g8,(D5 ⟨.of W, .of W,(.of (S6<|Wf<|Az hv15).symm), .of W, .of W,trivial⟩<|sg W<|B7 (gq W)<|B7 (gq W)<|B7 (gq W)<|M6 G_hit trivial)⟩
 refine Ba fun u34 _=>B8 (oS x3.1 (56,g8)) W W (sd W (A7 W G_hit W W)<|B8 (dl Q7 [(Span.mk x2.2 x3.2<|Ov false (D8 (x3.2+1000)) v12)]) W W (bs hz3 fun _ hv16 hz3=>N8 Q7 (56,g8) x3.1 (Span.mk x2.2 x3.2<|Ov false (D8 (x3.2+1000)) v12) [] _ (K1<|fun _=>W) W (gq W) hv16 (ss W<|A1<|D9<|C0<|sv W<|sv W<|sv W<|A1<|E1 ?_)))
 cases hz3
 exact ⟨W,u34,(D5 ⟨.of W, .of W,(.of (S6<|T0 hv16).symm), .of W, .of W,trivial⟩<|sg W<|B7 (gq W)<|B7 (gq W)<|B7 (gq W)<|M6 G_hit trivial)⟩
 refine C6 W ?_
 cases hz3
 obtain rfl:=ez3 _ rfl
 refine ⟨nofun,C5 W<|T3 ?_⟩
 exact ⟨g8,(D5 ⟨.of W,trivial⟩<|B5 G_hit (.of W)<|B7 (gq W)<|B7 (gq W)<|B7 (gq W)<|B7 (gq W) trivial)⟩
 rintro _ ⟨g7,q2⟩
 refine B4 q2<|B1<|B8 (oS y5 (56,g7)) W W (B8 (oS y5 (56,g7)) W W (A1<|B2 ?_))
 obtain rfl:=(lD hy4)
 exact EU (.inr W) (KR<|B3 W) g7 (X3 W) (B5 G_hit (.of W)<|B7 (gq W)<|B7 (gq W)<|B7 (gq W)<|B7 (gq W) trivial)
 intro g6
 intro u37 hu37
 refine bs hz2 fun v17 hv17 hz2=>ON Q7 (29,g5) x2.1 y4 _ (jU<|gq W) W (gq W) hv17 (Wg hu37) (B8 (oS v17 (29,u37)) W W (A1<|D9<|C0<|sv W<|sv W<|A1<|E1 ?_))
 cases hz2
 exact ⟨W,u37,(D5 (X3 W)<|sg W<|B7 (gq W)<|B7 (gq W)<|B7 G_hit trivial)⟩
 refine C6 W ?_
 cases hz2
 obtain rfl:=ez2 _ rfl
 refine ⟨nofun,C5 W<|T3 ?_⟩
 exact ⟨g5,(D5 ⟨.of W,trivial⟩<|B7 (gq W) trivial)⟩
 rintro _ ⟨g4,q3⟩
 refine B4 q3<|B1<|B8 (oS y3 (29,g4)) W W (B8 (oS y3 (29,g4)) W W (A1<|B2 ?_))
 cases h
 exact A6 (.inr W) (B6 (B3 W)<|R9 G_hit) R8
def Z1 (v5:(List Span))(v7:(List Span))(x1:Int)(x2:(Bool×Int)):Option (Stp (Bool×Int) Bool):=
  cond (decide (x2.2< (v7.length:Int))) (((cond (!x2.1) (C3 v5 x1) (some default))).bind fun v8=>((cond (!x2.1) (C3 v7 x2.2) (some default))).bind fun v9=>((cond ((!x2.1)&& (v8.Lane_==v9.Lane_)) (C3 v7 x2.2) (some default))).bind fun v10=>((cond ((!x2.1)&& (v8.Lane_==v9.Lane_)) (C3 v5 x1) (some default))).bind fun v11=>((cond ((!x2.1)&& ((v8.Lane_==v9.Lane_)&& (decide (v10.From≤v11.From)))) (C3 v5 x1) (some default))).bind fun v12=>((cond ((!x2.1)&& ((v8.Lane_==v9.Lane_)&& (decide (v10.From≤v11.From)))) (C3 v7 x2.2) (some default))).bind fun v13=>some (.go ((x2.1||(((v8.Lane_==v9.Lane_)&& (decide (v10.From≤v11.From)))&& (decide (v12.To≤v13.To)))),(D8 (x2.2+1))))) (some (.out x2.1))
def Bi [Lp](v5:(List Span))(v7:(List Span))(x1:Int):Option (Stp Int (Sum Unit Bool)):=
  cond (decide (x1< (v5.length:Int))) ((loop (Z1 v5 v7 x1) (false,0)).bind fun y2=>((cond (!(!y2)) (C3 v5 x1) (some default))).bind fun v14=>((cond (!(!y2)) (C3 v5 x1) (some default))).bind fun v15=>cond ((!y2)||(decide (v14.From>v15.To))) (some (.out (.inr false))) (some (.go (D8 (x1+1))))) (some (.out (.inl ())))
def Mn [Lp](p1:Int)(p2:(List KitActor))(p3:Int)(p4:Int):Option Bool:=
  cond (decide ((p2.length:Int)>7)) ((Hl).bind fun v1=>some v1) ((AZ p1).bind fun v2=>(Si v2 p2).bind fun v3=>(Lb p3 80001).bind fun v4=>(Pr v2 v3 v4).bind fun v5=>(Lb p4 40000).bind fun v6=>(Pr v2 v3 (D8 (v4+v6))).bind fun v7=>thenS (loop (Bi v5 v7) 0) (fun _=>(Hl).bind fun v16=>some v16) (fun r=>some r))
theorem DI(p1 p2 p3 p4 r)(h:Mn p1 p2 p3 p4=some r):PCall prog 16 [(i64 p1),(.list (List.map Pd p2)),(i64 p3),(i64 p4)] (bo r):=by
 refine C2 (fk func16 ntmps16 m0 (by with_unfolding_all rfl)) (nl W) ?_
 unfold Mn at h
 refine B4 (s0:=⟨T [(0,(.d _)),(1,(.d _)),(2,(.d _)),(3,(.d _))],G []⟩) (E6 W W) ?_
 refine B1<|sv W<|A1<|A4<|B1<|sv W<|sd W (D6 W)<|sv W<|A1<|cc W h (fun c1 h=> ?_)<|fun c1 h=> ?_
 refine B1<|bs h fun _ hv1 h=>B0 W W A3 (Zs _ hv1) (.inl W) (sv W<|A1<|B2 ?_)
 cases h
 exact A6 (.inr W) (B6 (B3 W) C1) (.refl _)
 refine A9<|B1<|sv W<|bs h fun v2 hv2 h=>B0 W W A3 (WK _ _ hv2) (.inl W) (sm W<|R4 W G_hit (K8 v2) W (A1<|B1<|sd W (A7 W G_hit W W)<|sv W<|bs h fun v3 hv3 h=>B0 W W A3 (QX _ _ _ hv3) (.inl W) (sm W<|R4 W G_hit (K4 v3) W (A1<|B1<|sv W<|bs h fun _ hv4 h=>B0 W W A3 (Ok _ _ _ hv4) (.inl W) (sv W<|A1<|A4<|E0 W<|sd W (A7 W (gq W) W W)<|sd W (A7 W G_hit W W)<|sv W<|bs h fun v5 hv5 h=>B0 W W A3 (CD _ _ _ _ hv5) (.inl W) (sd W (A7 W (gq W) W W)<|sd W (A7 W G_hit W W)<|sv W<|sv W<|bs h fun _ hv6 h=>B0 W W A3 (Ok _ _ _ hv6) (.inl W) (sv W<|bs h fun v7 hv7 h=>B0 W W A3 (CD _ _ _ _ hv7) (.inl W) (sv W<|sv W<|A1<|A4<|B1<|sv W<|A1<|js h fun z1 hz1 h=>D4 (fun s=> ∃(y1:Unit) (g1:Unit),z1= .inl y1∧Sb ⟨T [],G []⟩ s) ?_ ?_))))))))
 refine A8<|E2 (Bi v5 v7) (fun (x1:Int) (g2:Unit)=>⟨T [(11,(dl Q7 v5)),(12,(dl Q7 v7)),(13,(di x1))],G []⟩) 0 () _ hz1 (E6 W W) ?_
 intro x1 g2 z2 hz2 ez2
 unfold Bi at hz2
 refine A4<|B1<|sv W<|sv W<|sd W (D6 W)<|sv W<|A1<|cc W hz2 (fun c2 hz2=> ?_)<|fun c2 hz2=> ?_
 refine A9<|A4<|A8<|B1<|sv W<|A1<|A4<|B1<|sv W<|A1<|bs hz2 fun y2 hy2 hz2=>D4 (fun s=> ∃g3:Unit,Sb ⟨T [(11,(dl Q7 v5)),(12,(dl Q7 v7)),(13,(di x1)),(14,(.d (bo y2)))],G []⟩ s) ?_ ?_
 refine A8<|E2 (Z1 v5 v7 x1) (fun (x2:(Bool×Int)) (g4:Unit)=>⟨T [(11,(dl Q7 v5)),(12,(dl Q7 v7)),(13,(di x1)),(14,(.d (bo x2.1))),(15,(di x2.2))],G []⟩) (false,0) () _ hy2 (E6 W W) ?_
 intro x2 g4 z3 hz3 ez3
 unfold Z1 at hz3
 refine A4<|B1<|sv W<|sv W<|sd W (D6 W)<|sv W<|A1<|cc W hz3 (fun c3 hz3=> ?_)<|fun c3 hz3=> ?_
 refine A9<|A4<|A8<|E0 W<|sv W<|sv W<|gf W (fun _=>W)<|gf W (fun _=>W)<|bs hz3 fun _ hv8 hz3=>gf W (fun w3=>(C4 (A2 w3) (A2 w3) (B9 w3 hv8) W)) ?_
 refine gf W (fun w4=>(by simp only [A2 w4];rfl)) ?_
 refine gf W (fun w5=>(C7 (A2 w5) (B9 w5 hv8) W))<|gf W (fun _=>W)<|gf W (fun _=>W)<|bs hz3 fun _ hv9 hz3=>gf W (fun w8=>(C4 (A2 w8) (A2 w8) (B9 w8 hv9) W)) ?_
 refine gf W (fun w9=>(by simp only [A2 w9];rfl)) ?_
 refine gf W (fun w10=>(C7 (A2 w10) (B9 w10 hv9) W))<|gf W (fun w11=>(L6 (A2 w11) (A2 w11) W))<|gf W (fun w12=>(EO<|A2 w12))<|gv W (L7 W) (fun _=>W) (gv W (L7 W) (fun _=>W) (bs hz3 fun _ hv10 hz3=>gv W (L7 W) (fun w15=>(C4 (A2 w15) (A2 w15) (B9 w15 hv10) W)) ?_))
 refine gv W (L7 W) (fun w16=>(by simp only [A2 w16];rfl)) ?_
 refine gv W (L7 W) (fun w17=>(C7 (A2 w17) (B9 w17 hv10) W)) (gv W (L7 W) (fun _=>W) (gv W (L7 W) (fun _=>W) (bs hz3 fun _ hv11 hz3=>gv W (L7 W) (fun w20=>(C4 (A2 w20) (A2 w20) (B9 w20 hv11) W)) ?_)))
 refine gv W (L7 W) (fun w21=>(by simp only [A2 w21];rfl)) ?_
 refine gv W (L7 W) (fun w22=>(C7 (A2 w22) (B9 w22 hv11) W)) (gv W (L7 W) (fun w23=>(L6 (A2 w23) (A2 w23) W)) (gf W (fun w24=>(Vm (A2 w24) (fun hc=>A2<|Ul w24 hc) W))<|gf W (fun w25=>(EO<|A2 w25))<|gv W (L7 W) (fun _=>W) (gv W (L7 W) (fun _=>W) (bs hz3 fun _ hv12 hz3=>gv W (L7 W) (fun w28=>(C4 (A2 w28) (A2 w28) (B9 w28 hv12) W)) ?_))))
 refine gv W (L7 W) (fun w29=>(by simp only [A2 w29];rfl)) ?_
 refine gv W (L7 W) (fun w30=>(C7 (A2 w30) (B9 w30 hv12) W)) (gv W (L7 W) (fun _=>W) (gv W (L7 W) (fun _=>W) (bs hz3 fun _ hv13 hz3=>gv W (L7 W) (fun w33=>(C4 (A2 w33) (A2 w33) (B9 w33 hv13) W)) ?_)))
 refine gv W (L7 W) (fun w34=>(by simp only [A2 w34];rfl)) ?_
 refine gv W (L7 W) (fun w35=>(C7 (A2 w35) (B9 w35 hv13) W)) (gv W (L7 W) (fun w36=>(L6 (A2 w36) (A2 w36) W)) (gf W (fun w37=>(Vm (A2 w37) (fun hc=>A2<|Ul w37 hc) W))<|sd W (N9 W W<|fun hc=>A2<|J2 hc)<|sv W<|A1<|D9<|C0<|sv W<|sv W<|sv W<|A1<|E1 ?_))
 cases hz3
 exact ⟨W,(),(E6 W W)⟩
 refine C6 W ?_
 cases hz3
 obtain rfl:=ez3 _ rfl
 refine ⟨nofun,C5 W<|T3 ?_⟩
 exact ⟨(),(E6 W W)⟩
 rintro _ ⟨g3,q1⟩
 refine B4 q1<|A4<|E0 W<|sv W<|B8 (.d (bo (!y2))) W W (sv W<|gf W (fun _=>W)<|gf W (fun _=>W)<|bs hz2 fun _ hv14 hz2=>gf W (fun w40=>(C4 (A2 w40) (A2 w40) (B9 w40 hv14) W)) ?_)
 refine gf W (fun w41=>(by simp only [A2 w41];rfl)) ?_
 refine gf W (fun w42=>(C7 (A2 w42) (B9 w42 hv14) W))<|gf W (fun _=>W)<|gf W (fun _=>W)<|bs hz2 fun _ hv15 hz2=>gf W (fun w45=>(C4 (A2 w45) (A2 w45) (B9 w45 hv15) W)) ?_
 refine gf W (fun w46=>(by simp only [A2 w46];rfl)) ?_
 refine gf W (fun w47=>(C7 (A2 w47) (B9 w47 hv15) W))<|gf W (fun w48=>(L6 (A2 w48) (A2 w48) W))<|sd W (N9 W W<|fun hc=>A2<|J2 hc)<|A1<|cc W hz2 (fun c4 hz2=> ?_)<|fun c4 hz2=> ?_
 refine B1<|sv W<|A1<|B2 ?_
 cases hz2
 obtain rfl:=ez2 _ rfl
 refine ⟨nofun,F1 ?_⟩
 rw [wA]at h
 cases h
 exact A6 (.inr W) (B6 (B3 W) C1) (.refl _)
 refine A9<|D9<|C0<|sv W<|sv W<|sv W<|A1<|E1 ?_
 cases hz2
 exact ⟨W,(),(E6 W W)⟩
 refine C6 W ?_
 cases hz2
 obtain rfl:=ez2 _ rfl
 refine ⟨nofun,C5 W<|T3 ?_⟩
 exact ⟨_,(),W,(E6 W W)⟩
 rintro _ ⟨y1,g1,rfl,q2⟩
 rw [bZ]at h
 refine B4 q2<|B1<|bs h fun _ hv16 h=>B0 W W A3 (Zs _ hv16) (.inl W) (sv W<|A1<|B2 ?_)
 cases h
 exact A6 (.inr W) (B6 (B3 W) C1) (.refl _)
end
end Go.Abs.World
