/-
  The functions, part 3.
-/
import Derived.Test.YtgjdiioennhoeaaGreatFns2
set_option maxRecDepth 20000
set_option maxHeartbeats 4000000
set_option linter.unusedVariables false
namespace Go.Abs.World
noncomputable section
open Go Go.Abs Go.Proofs Tryz
attribute [local irreducible] L3 Lm Cq
def Gw [Lp](p1:Map)(p2:Int)(p3:Int)(p4:Int):Option Bool:=
  ((cond (((decide (p4≥0))&& (decide (p2≥0)))&& (decide (p2< (p1.Signals.length:Int)))) (Ki p1 p3) (some default))).bind fun v1=>((cond ((((decide (p4≥0))&& (decide (p2≥0)))&& (decide (p2< (p1.Signals.length:Int))))&&v1) (B8 p1.Signals p2) (some default))).bind fun v2=>((cond ((((decide (p4≥0))&& (decide (p2≥0)))&& (decide (p2< (p1.Signals.length:Int))))&&v1) (Ez v2 p3 p4) (some default))).bind fun v3=>some (((((decide (p4≥0))&& (decide (p2≥0)))&& (decide (p2< (p1.Signals.length:Int))))&&v1)&&v3)
theorem HW(p1 p2 p3 p4 r)(h:Gw p1 p2 p3 p4=some r):PCall prog 219 [(.agg (V1 p1)),(i64 p2),(i64 p3),(i64 p4)] (bo r):=by
 refine C3 (fk func219 ntmps219 m0 (by with_unfolding_all rfl)) (nl W) ?_
 unfold Gw at h
 refine B4 (s0:=⟨T [(0,(.d _)),(1,(.d _)),(2,(.d _)),(3,(.d _))],G []⟩) (G9 W W) ?_
 refine B1<|sm W<|sv W<|A2<|B1<|sv W<|sv W<|sv W<|gt W (fun _=>W)<|gt W (vb W W W)<|sa W W W<|sv W<|gt W (fun _=>W)<|gp W (O5 W) (fun _=>W) (gt W (vl W G_hit W)<|gt W (fun w6=>(E8<|A5 w6))<|gt W (fun w7=>(S9 (A5 w7) (A5 w7) W))<|sa W W W<|sv W<|gt W (fun _=>(B7 W G_hit W W))<|gt W (fun _=>W)<|bs h fun v1 hv1 h=> ?_)
 refine P3 _ (bo v1) (O5 W) (fun w10=>⟨_,[(.d (.agg (V1 p1))),(di p3)],_,_,(by simp only [A5 w10];rfl),W,A3,Ws _ _ _<|D3 w10 hv1,(.inl W)⟩) ?_
 refine sa W W W<|sv W<|gp W (O5 W) (fun _=>W) (gt W (vl W G_hit W)<|gt W (fun _=>W)<|bs h fun v2 hv2 h=>gt W (fun w14=>(E2 (A5 w14) (A5 w14) (D3 w14 hv2) W))<|gt W (fun w15=>(E4 (A5 w15) (D3 w15 hv2) W W))<|gt W (fun _=>W)<|gt W (fun _=>W)<|bs h fun v3 hv3 h=> ?_)
 refine P3 _ (bo v3) (O5 W) (fun w18=>⟨_,[(.d (.agg [(i64 v2.Offset),(.list (List.map Eb v2.Phases))])),(di p3),(di p4)],_,_,(by simp only [A5 w18];rfl),W,A3,Wt _ _ _ _<|D3 w18 hv3,(.inl W)⟩) ?_
 refine sa W W W<|sv W<|A2<|B2 ?_
 cases h
 exact A7 (.inr W) (B6 (B3 W) C1) (.refl _)
def Mc (p1:Part)(p2:Int):Option Bool:=
  some (p1.Lane_==p2)
theorem CD(p1 p2 r)(h:Mc p1 p2=some r):PCall prog 221 [(.agg (Df p1)),(.bp [(i64 p2)] 0)] (bo r):=by
 refine C3 (fk func221 ntmps221 m0 (by with_unfolding_all rfl)) (nl W) ?_
 unfold Mc at h
 refine B4 (s0:=⟨T [(0,(.d _)),(1,(.d _))],G []⟩) (G9 W W) ?_
 refine B1<|sm W<|sv W<|A2<|B1<|sq W<|sl W G_hit W<|sv W<|sv W<|sv W<|A2<|B2 ?_
 cases h
 exact A7 (.inr W) (B6 (B3 W) C1) (.refl _)
def L9 (p1:(List Part))(p2:Int)(x1:Int):Option (Stp Int (Sum Unit Int)):=
  cond (decide (x1< (p1.length:Int))) ((B8 p1 x1).bind fun v1=>(Mc v1 p2).bind fun v2=>cond v2 (some (.out (.inr x1))) (some (.go (D2 (x1+1))))) (some (.out (.inl ())))
def I9 [Lp](p1:(List Part))(p2:Int):Option Int:=
  thenS (loop (L9 p1 p2) 0) (fun _=>some (-1)) (fun r=>some r)
theorem Gs(p1 p2 r)(h:I9 p1 p2=some r):PCall prog 220 [(.list (List.map Df p1)),(.fn (.func 221) [] [(.bp [(i64 p2)] 0)])] (i64 r):=by
 refine C3 (fk func220 ntmps220 m0 (by with_unfolding_all rfl)) (nl W) ?_
 unfold I9 at h
 refine B4 (s0:=⟨T [(0,(.d _)),(1,(.d _))],G []⟩) (G9 W W) ?_
 refine B1<|sv W<|A2<|A6<|B1<|sv W<|sd W (E8 W)<|sv W<|A2<|js h fun z1 hz1 h=>E7 (fun s=> ∃(y1:Unit) (g1:Unit),z1= .inl y1∧Sb ⟨T [],G []⟩ s) ?_ ?_
 refine A8<|G6 (L9 p1 p2) (fun (x1:Int) (g2:Unit)=>⟨T [(0,(dl Df p1)),(1,(.d (.fn (.func 221) [] [(.bp [(i64 p2)] 0)]))),(7,(di (p1.length:Int))),(8,(di x1))],G []⟩) 0 () _ hz1 (G9 W W) ?_
 intro x1 g2 z2 hz2 ez2
 unfold L9 at hz2
 refine B1<|sv W<|A2<|A6<|cc W hz2 (fun c1 hz2=> ?_)<|fun c1 hz2=> ?_
 refine A9<|A6<|A8<|B1<|sv W<|sv W<|A2<|B1<|sv W<|sv W<|sv W<|bs hz2 fun _ hv1 hz2=>sd W (E2 W W hv1 W)<|sd W (E4 W hv1 W W)<|bs hz2 fun _ hv2 hz2=>B0 W W A3 (CD _ _ _ hv2) (.inl W) (A2<|cc W hz2 (fun c2 hz2=> ?_)<|fun c2 hz2=> ?_)
 refine B1<|sv W<|sv W<|A2<|B2 ?_
 cases hz2
 obtain rfl:=ez2 _ rfl
 refine ⟨nofun,H4 ?_⟩
 rw [wE]at h
 cases h
 exact A7 (.inr W) (B6 (B3 W) C1) (.refl _)
 refine A9<|F9<|C6<|sv W<|sv W<|A2<|G5 ?_
 cases hz2
 exact ⟨W,(),(G9 W W)⟩
 refine D5 W ?_
 cases hz2
 obtain rfl:=ez2 _ rfl
 refine ⟨nofun,D4 W<|X2 ?_⟩
 exact ⟨_,(),W,(G9 W W)⟩
 rintro _ ⟨y1,g1,rfl,q1⟩
 rw [wD]at h
 refine B4 q1<|B1<|sv W<|A2<|B2 ?_
 cases h
 exact A7 (.inr W) (B6 (B3 W) C1) (.refl _)
def Fl [Lp](p1:Map)(p2:Agent)(p3:Int)(p4:Int):Option Int:=
  (Cv p1 p2.Route p3).bind fun v1=>cond (decide (v1<0)) (some 0) ((B8 p1.Zones p3).bind fun v2=>((cond (decide (v2.Signal_>0)) (Gw p1 (D2 (v2.Signal_ - 1)) v1 p4) (some default))).bind fun v3=>cond ((decide (v2.Signal_>0))&&v3) (some 2) (cond (decide (v2.Signal_>0)) (some 0) ((I9 v2.Parts v1).bind fun v4=>(B8 v2.Parts v4).bind fun v5=>some v5.Rank)))
theorem Yz(p1 p2 p3 p4 r)(h:Fl p1 p2 p3 p4=some r):PCall prog 173 [(.agg (V1 p1)),(.agg (E5 p2)),(i64 p3),(i64 p4)] (i64 r):=by
 refine C3 (fk func173 ntmps173 m0 (by with_unfolding_all rfl)) (nl W) ?_
 unfold Fl at h
 refine B4 (s0:=⟨T [(0,(.d _)),(1,(.d _)),(2,(.d _)),(3,(.d _))],G []⟩) (G9 W W) ?_
 refine B1<|sm W<|sn W W<|sv W<|A2<|B1<|sd W (B7 W (gq W) W W)<|sq W<|sl W G_hit W<|sv W<|bs h fun v1 hv1 h=>B0 W W A3 (Pz _ _ _ _ hv1) (.inl W) (sm W<|V5 W G_hit [(di v1)] W (A2<|A6<|B1<|sl W G_hit W<|sv W<|A2<|cc W h (fun c1 h=> ?_)<|fun c1 h=> ?_))
 refine B1<|sv W<|A2<|B2 ?_
 cases h
 exact A7 (.inr W) (B6 (B3 W) C1) (.refl _)
 refine A9<|B1<|sq W<|sl W (gq W) W (sv W<|bs h fun v2 hv2 h=>sd W (E2 W W hv2 W)<|sd W (E4 W hv2 W W)<|sm W<|V5 W G_hit [(dl Df v2.Parts),(di v2.Signal_)] W (A2<|A6<|A8<|B1<|sq W<|sl W G_hit W<|sv W<|sv W<|gt W (fun _=>(B7 W (gq W) W W))<|gp W (O5 W) (fun _=>W) (gt W (vl W G_hit W)<|gt W (vb W W W)<|gt W (fun _=>(U5 W (gq W) W))<|gt W (fun _=>W)<|bs h fun v3 hv3 h=> ?_)))
 refine P3 _ (bo v3) (O5 W) (fun w7=>⟨_,[(.d (.agg (V1 p1))),(di<|D2 (v2.Signal_ - 1)),(di v1),(di p4)],_,_,(by simp only [A5 w7];rfl),W,A3,HW _ _ _ _ _<|D3 w7 hv3,(.inl W)⟩) ?_
 refine sa W W W<|sv W<|A2<|cc W h (fun c2 h=> ?_)<|fun c2 h=> ?_
 refine B1<|sv W<|A2<|B2 ?_
 cases h
 exact A7 (.inr W) (B6 (B3 W) C1) (.refl _)
 refine B1<|sq W<|sl W G_hit W<|sv W<|sv W<|A2<|cc W h (fun c3 h=> ?_)<|fun c3 h=> ?_
 refine B1<|sv W<|A2<|B2 ?_
 cases h
 exact A7 (.inr W) (B6 (B3 W) C1) (.refl _)
 refine A9<|F9<|A6<|J0 W<|sq W<|sl W G_hit W<|sq W<|sl W G_hit W<|C0 (.fn _ _ _) W W (bs h fun _ hv4 h=>B0 W (rD<|E3 (Yq G2<|E3 (An (gq W)<|rD G2) G2) G2) A3 (Gs _ _ _ hv4) (.inr W) (bs h fun _ hv5 h=>sd W (E2 W W hv5 W)<|sv W<|sd W (H5 W hv5 W)<|sv W<|A2<|B2 ?_))
 cases h
 exact A7 (.inr W) (B6 (B3 W) C1) (.refl _)
def O4 [Lp](p1:WorldScene)(x1:(Int× (List Stay)))(v1:Agent)(x2:(Int× (List Stay))):Option (Stp (Int× (List Stay)) (List Stay)):=
  cond (decide (x2.1< (p1.m.Zones.length:Int))) ((N0 (WorldScene.mk p1.m p1.before (State.mk p1.after.Tick p1.after.Agents x2.2) p1.acts p1.crashes) x1.1 x2.1).bind fun v2=>cond (!v2) (some (.go ((D2 (x2.1+1)),x2.2))) ((C7 p1.before.In (Stay.mk x1.1 x2.1 p1.before.Tick 0)).bind fun v3=>(cond v3.2 ((B8 p1.before.In v3.1).bind fun v4=>some v4) ((Fl p1.m v1 x2.1 p1.before.Tick).bind fun v5=>some (Stay.mk x1.1 x2.1 p1.before.Tick v5))).bind fun y2=>(Bj x2.2 [y2]).bind fun v6=>some (.go ((D2 (x2.1+1)),v6)))) (some (.out x2.2))
def Q7 [Lp](p1:WorldScene)(x1:(Int× (List Stay))):Option (Stp (Int× (List Stay)) WorldScene):=
  cond (decide (x1.1< (p1.before.Agents.length:Int))) ((B8 p1.before.Agents x1.1).bind fun v1=>(loop (O4 p1 x1 v1) (0,x1.2)).bind fun y1=>some (.go ((D2 (x1.1+1)),y1))) (some (.out ((WorldScene.mk p1.m p1.before (State.mk p1.after.Tick p1.after.Agents x1.2) p1.acts p1.crashes))))
def T7 [Lp](p1:WorldScene):Option WorldScene:=
  loop (Q7 p1) (0,[])
theorem Tw(p1 r)(h:T7 p1=some r):MCall prog 80 [(.ptr (900000,0) 0)] [(.box 135 (V0 p1))] (.d (.tup [])) [some (.box 135 (V0 r))] []:=by
 refine Tp (fk func80 ntmps80 (fun r=>if r==13 then [1007]else []) (by with_unfolding_all rfl)) W (nl W) ?_
 unfold T7 at h
 refine B4 (s0:=⟨T [(0,(.ptr _ _))],G [((900000,0),some<|.box 135 _)]⟩) (G9 W W) ?_
 refine B1<|sq W<|sp W W<|sq W<|sp W W<|V5 W G_hit ((V0 p1).set 10 (.d .nilS)) W (A2<|B1<|sq W<|sp W W<|sq W<|sp W W<|sl W G_hit W<|sd W (E8 W)<|sv W<|A2<|A8<|G6 (Q7 p1) (fun (x1:(Int× (List Stay))) (g1:Nat)=>⟨T [(0,(.ptr (900000,0) 0)),(16,(dl E5 p1.before.Agents)),(17,(di (p1.before.Agents.length:Int))),(18,(di x1.1))],G [((900000,0),some<|.box 135 ((V0 p1).set 10 (oS x1.2 (85,g1)))),((85,g1),oB 127 4 K7 x1.2)]⟩) (0,[]) 0 _ h (F6 (Dv W)<|B5 G_hit (.of W)<|T8 trivial) ?_)
 intro x1 g1 z1 hz1 ez1
 unfold Q7 at hz1
 refine B1<|sv W<|A2<|A6<|cc W hz1 (fun c1 hz1=> ?_)<|fun c1 hz1=> ?_
 refine A9<|A6<|A8<|lr<|fun u4 _=>sv W<|bs hz1 fun v1 hv1 hz1=>sd W (E2 W W hv1 W)<|sd W (E4 W hv1 W W)<|sm W<|sv W<|V5 W G_hit (X5 v1) W (A2<|B1<|sq W<|sp W W<|sq W<|sp W W<|sl W (gq W) W (sd W (E8 W)<|sv W<|A2<|bs hz1 fun y1 hy1 hz1=>E7 (fun s=> ∃g2:Nat,Sb ⟨T [(0,(.ptr (900000,0) 0)),(16,(dl E5 p1.before.Agents)),(17,(di (p1.before.Agents.length:Int))),(18,(di x1.1))],G [((900000,0),some<|.box 135 ((V0 p1).set 10 (oS y1 (85,g2)))),((85,g2),oB 127 4 K7 y1)]⟩ s) ?_ ?_))
 refine A8<|G6 (O4 p1 x1 v1) (fun (x2:(Int× (List Stay))) (g3:Nat)=>⟨T [(0,(.ptr (900000,0) 0)),(2,(di x1.1)),(3,(.ptr (3,u4) 0)),(16,(dl E5 p1.before.Agents)),(17,(di (p1.before.Agents.length:Int))),(18,(di x1.1)),(28,(di (p1.m.Zones.length:Int))),(29,(di x2.1))],G [((900000,0),some<|.box 135 ((V0 p1).set 10 (oS x2.2 (85,g3)))),((3,u4),some<|.box 45 (X5 v1)),((85,g3),oB 127 4 K7 x2.2)]⟩) (0,x1.2) g1 _ hy1 (F6 (Dv W)<|sg W<|B5 G_hit (.of W)<|C2 (gq W) trivial) ?_
 intro x2 g3 z2 hz2 ez2
 unfold O4 at hz2
 refine B1<|sv W<|A2<|A6<|cc W hz2 (fun c2 hz2=> ?_)<|fun c2 hz2=> ?_
 refine A9<|A6<|A8<|B1<|sv W<|sv W<|A2<|A6<|B1<|sq W<|sv W<|sv W<|bs hz2 fun v2 hv2 hz2=>B0 W (E3 (An G_hit<|rD<|rD<|rD<|rD<|rD<|rD<|rD<|rD<|rD<|rD<|E3 (X4<|gq W)<|rD<|rD G2)<|rD<|rD G2) (.cons (DLe.bp<|ca W<|ca W<|ca W<|ca W<|ca W<|ca W<|ca W<|ca W<|ca W<|ca W<|.cons ⟨X3,W⟩ (cz W)) (.cons (.refl _) A3)) (Ba _ _ _ _ hv2) (.inr W) (C0 (.d (bo (!v2))) W W (A2<|cc W hz2 (fun c3 hz2=> ?_)<|fun c3 hz2=> ?_))
 refine Zu W<|C6<|sv W<|sv W<|A2<|G5 ?_
 cases hz2
 exact ⟨W,g3,(F6 (Dv W)<|B5 G_hit (.of W)<|sg W<|C2 (gq W) trivial)⟩
 refine A9<|lr<|fun u10 _=>sv W<|sv W<|sq W<|sp W W<|sq W<|sp W W<|sl W G_hit W<|sv W<|sm W<|V5 W G_hit [(di x1.1),(di x2.1),(di p1.before.Tick),(di 0)] W (A2<|A6<|A6<|J0 W<|sq W<|sq W<|sp W W<|sq W<|sl W (gq W) W (sd W (B7 W G_hit W W)<|bs hz2 fun _ hv3 hz2=>B0 W W A3 (O1 _ _ _ hv3) (.inl W) (sv W<|sv W<|sv W<|sv W<|sv W<|A2<|B1<|sv W<|A2<|bs hz2 fun y2 hy2 hz2=>E7 (fun s=> ∃g4:Unit,Sb ⟨T [(0,(.ptr (900000,0) 0)),(2,(di x1.1)),(3,(.ptr (3,u4) 0)),(5,(.ptr (5,u10) 0)),(16,(dl E5 p1.before.Agents)),(17,(di (p1.before.Agents.length:Int))),(18,(di x1.1)),(28,(di (p1.m.Zones.length:Int))),(29,(di x2.1))],G [((900000,0),some<|.box 135 ((V0 p1).set 10 (oS x2.2 (85,g3)))),((3,u4),some<|.box 45 (X5 v1)),((5,u10),some<|.box 127 (Ys y2)),((85,g3),oB 127 4 K7 x2.2)]⟩ s) ?_ ?_)))
 refine cc W hy2 (fun c4 hy2=> ?_)<|fun c4 hy2=> ?_
 refine C6<|sq W<|sq W<|sp W W<|sq W<|sl W (gq W) W (sv W<|bs hy2 fun v4 hv4 hy2=>sd W (E2 W W hv4 W)<|sd W (E4 W hv4 W W)<|V5 W G_hit (Ys v4) W (A2 ?_))
 obtain rfl:=(lD hy2)
 exact X2 ⟨(),(F6 (Dv W)<|sg W<|sg W<|B5 G_hit (.of W)<|C2 (gq W) trivial)⟩
 refine J0 W<|sq W<|sq W<|sp W W<|sd W (B7 W (gq W) W W)<|sd W (B7 W (gq W) W W)<|sv W<|sq W<|sp W W<|sq W<|sp W W<|sl W (gq W) W (bs hy2 fun v5 hv5 hy2=>B0 W W A3 (Yz _ _ _ _ _ hv5) (.inl W) (sq W<|V5 W G_hit [(di x1.1),(di x2.1),(di p1.before.Tick),(di v5)] W (A2 ?_)))
 cases hy2
 exact X2 ⟨(),(F6 (Dv W)<|sg W<|sg W<|B5 G_hit (.of W)<|C2 (gq W) trivial)⟩
 rintro _ ⟨g4,q1⟩
 refine B4 q1<|Mz W fun u15 _=>sq W<|sq W<|sp W W<|sq W<|sp W W<|C0 (oS x2.2 (85,g3)) W (U5 W G_hit W) (sd W (B7 W (gq W) W W)<|C0 (dl K7 [y2]) W W (bs hz2 fun _ hv6 hz2=>U7 K7 (85,g3) x2.2 y2 [] _ (P0<|fun _=>W) W (gq W) hv6 (sq W<|sp W W<|sq W<|V5 W (gq W) ((V0 p1).set 10 (.sl (85,u15))) W (A2<|F9<|C6<|sv W<|sv W<|A2<|G5 ?_))))
 cases hz2
 exact ⟨W,u15,(F6 (Dv W)<|B5 G_hit (.box (cv<|cv<|cv<|cv<|cv<|cv<|cv<|cv<|cv<|cv<|.cons (.of (X1<|Aj hv6).symm) cw))<|sg W<|O8 (gq W) trivial)⟩
 refine D5 W ?_
 cases hz2
 obtain rfl:=ez2 _ rfl
 refine ⟨nofun,D4 W<|X2 ?_⟩
 exact ⟨g3,(F6 (Dv W)<|B5 G_hit (.of W)<|C2 (gq W) trivial)⟩
 rintro _ ⟨g2,q2⟩
 refine F9<|B4 q2<|C6<|sv W<|sv W<|A2<|G5 ?_
 cases hz1
 exact ⟨W,g2,(F6 (Dv W)<|B5 G_hit (.of W)<|C2 (gq W) trivial)⟩
 refine D5 W ?_
 cases hz1
 obtain rfl:=ez1 _ rfl
 refine ⟨nofun,D4 W<|G5 ?_⟩
 exact Zv (.inl W) [(85,g1)] Zw (.refl _) ⟨⟨_,_,_,G_hit,(WU W Ff),(rD<|rD<|rD<|rD<|rD<|rD<|rD<|rD<|rD<|rD<|E3 (X4<|mI (.head _)<|gq W)<|rD<|rD G2),(.cons (.refl _) (.cons (.refl _) (.cons (.refl _) (.cons (.refl _) (.cons (.refl _) (.cons (.refl _) (.cons (.refl _) (.cons (.refl _) (.cons (.refl _) (.cons (.refl _) (.cons X3 (.cons (.refl _) A3)))))))))))),W⟩,trivial⟩
def Wu (s:State)(i:Nat):Nat→Nat→Option (List (Int×Int))
  |0,_=>some []
  |k+1,j=>(Gu s i).bind fun a=>(Gu s j).bind fun b=>(Wu s i k (j+1)).bind fun l=>some (cond (a&&b) (((i:Int),(j:Int))::l) l)
def AG (s:State)(n:Nat):Nat→Nat→Option (List (Int×Int))
  |0,_=>some []
  |k+1,i=>(Wu s i (n - (i+1)) (i+1)).bind fun a=>(AG s n k (i+1)).bind fun b=>some (a++b)
def DO (s:State):Option (List (Int×Int)):=if s.Agents.length≤1000000 then AG s s.Agents.length s.Agents.length 0 else none
abbrev HX (a:Int×Int):List D:= [i64 a.1,i64 a.2]
def Tx (kb ks:F8)(s:State)(h:E0):Prop:=h kb=some (.box 133 [.ptr ks 0])∧∃c0 c1 c2 c3 c4 c8 c9 c10 c11 c12,h ks=some (.box 135 [c0,c1,c2,c3,c4, .d (i64 s.Tick), .d (.list (List.map E5 s.Agents)), .d (.list (List.map K7 s.In)),c8,c9,c10,c11,c12])
theorem HY {s:State}{L:List (Int×Int)}(h:DO s=some L)(kb ks:F8):iT prog (.fn (.func 174) [] [.ptr kb 0]) (Tx kb ks s) (L.map HX):=by
  unfold DO at h
  split at h
  case isFalse=>cases h
  rename_i hlen
  refine ⟨174,[],[.ptr kb 0],W,?_⟩
  intro k h0 Inv Stop hi0 hcan hy
  refine HH (fk func174 ntmps174 (fun r=>if r==6 then [18]else []) (by with_unfolding_all rfl)) (by simp) (fH ?_)
  obtain ⟨g0,S0,i0,c0⟩:=hcan 0 h0 hi0
  have hLm:(L.map HX).length=L.length:=lS ..
  rw [hLm]
  refine B4 (s0:=⟨T [(0, .yld k),(1, .ptr kb 0)],g0⟩) ⟨fun i=> ?_,S0.h⟩ ?_
  ·match i with
   |0=>exact .refl _
   |1=>exact .refl _
   |n+2=>exact .any _
  have c0':=c0
  obtain ⟨e1,a0,a1,a2,a3,a4,a8,a9,a10,a11,a12,e2⟩:=c0'
  refine A6 ?_
  refine Rp fun u hu=> ?_
  refine F5 (.ptr ks 0) W (U5 W e1 W) ?_
  refine F5 (.ptr ks 0) W W ?_
  refine F5 (.ptr ks 5) W W ?_
  refine F5 (.ptr ks 6) W W ?_
  refine F5 (.d (.list (List.map E5 s.Agents))) W (U5 W e2 W) ?_
  refine F5 (.d (i64 s.Agents.length)) W (E8 (f:=E5) W) ?_
  refine F5 (.d (i64 0)) W W ?_
  refine Am ?_
  refine A8 ?_
  refine VJ (α:=Nat×Nat×E0) (fun x=>⟨T [(0, .yld k),(1, .ptr kb 0),(10, .d (i64 s.Agents.length)),(11, .d (i64 (x.1:Int)))],x.2.2⟩) (fun x=>s.Agents.length - x.1)
    (fun x=>Inv x.2.1 x.2.2∧Tx kb ks s x.2.2∧x.1≤s.Agents.length∧x.2.1≤L.length∧AG s s.Agents.length (s.Agents.length - x.1) x.1=some (L.drop x.2.1)) (0,0,g0) ⟨i0,c0,wI _,wI _,h⟩ (Wb ⟨rfl,rfl,rfl,rfl,trivial⟩ fun _ _ h=>h) ?_
  rintro ⟨i,pos,hh⟩ ⟨hinv,hrq,hi,hpos,hgo⟩
  dsimp only at hinv hrq hi hpos hgo ⊢
  refine A6 ?_
  refine Rp fun u hu=> ?_
  refine F5 (.d (bo<|decide ((i:Int)< (s.Agents.length:Int)))) W W ?_
  refine Am ?_
  refine A6 ?_
  refine SU (decide ((i:Int)< (s.Agents.length:Int))) W (fun hlt=> ?_) (fun hlt=> ?_)
  ·refine A9 ?_
   have hlt:i<s.Agents.length:=by simpa using hlt
   have hw1: ∀n:Nat,n≤1000000→IntKind.i64.wrap ((n:Int)+1)=((n+1:Nat):Int):=fun n _=>(Go.IntWalk.i64_in _ (by omega)).trans (by omega)
   obtain ⟨m,hm⟩: ∃m,s.Agents.length - i=m+1:=⟨s.Agents.length - i - 1,by omega⟩
   rw [hm,AG]at hgo
   obtain ⟨l1,hl1,hgo⟩:=bind_some hgo
   obtain ⟨l2,hl2,hgo⟩:=bind_some hgo
   have hgo:l1++l2=L.drop pos:=lD hgo
   refine A6 ?_
   refine A8 ?_
   refine A6 ?_
   refine Rp fun u hu=> ?_
   refine F5 (.d (i64 i)) W W ?_
   refine F5 (.d (i64 i)) W W ?_
   refine Am ?_
   refine A6 ?_
   refine Rp fun u hu=> ?_
   refine F5 (.d (i64 i)) W W ?_
   refine F5 (.d (i64 ((i+1:Nat):Int))) W (by rw [← hw1 i (by omega)];rfl) ?_
   refine F5 (.d (i64 ((i+1:Nat):Int))) W W ?_
   refine Am ?_
   refine A8 ?_
   refine VJ (α:=Nat×Nat×E0) (fun x=>⟨T [(0, .yld k),(1, .ptr kb 0),(3, .d (i64 (i:Int))),(4, .d (i64 (x.1:Int))),(10, .d (i64 s.Agents.length)),(11, .d (i64 (i:Int)))],x.2.2⟩) (fun x=>s.Agents.length - x.1)
     (fun x=>Inv x.2.1 x.2.2∧Tx kb ks s x.2.2∧x.1≤s.Agents.length∧x.2.1≤L.length∧∃l,Wu s i (s.Agents.length - x.1) x.1=some l∧l++l2=L.drop x.2.1) (i+1,pos,hh) ⟨hinv,hrq,hlt,hpos,l1,hl1,hgo⟩ (Wb ⟨rfl,rfl,rfl,rfl,rfl,rfl,trivial⟩ fun _ _ h=>h) ?_
   rintro ⟨j,pos,hh⟩ ⟨hinv,hrq,hj,hpos,l,hl,hgo⟩
   dsimp only at hinv hrq hj hpos hl hgo ⊢
   have hrq':=hrq
   obtain ⟨e1,a0,a1,a2,a3,a4,a8,a9,a10,a11,a12,e2⟩:=hrq'
   refine A6 ?_
   refine A6 ?_
   refine Rp fun u hu=> ?_
   refine F5 (.d (i64 j)) W W ?_
   refine F5 (.ptr ks 0) W (U5 W e1 W) ?_
   refine F5 (.ptr ks 0) W W ?_
   refine F5 (.ptr ks 5) W W ?_
   refine F5 (.ptr ks 6) W W ?_
   refine F5 (.d (.list (List.map E5 s.Agents))) W (U5 W e2 W) ?_
   refine F5 (.d (i64 s.Agents.length)) W (E8 (f:=E5) W) ?_
   refine F5 (.d (bo<|decide ((j:Int)< (s.Agents.length:Int)))) W W ?_
   refine Am ?_
   refine SU (decide ((j:Int)< (s.Agents.length:Int))) W (fun hjl=> ?_) (fun hjl=> ?_)
   ·refine A9 ?_
    have hjl:j<s.Agents.length:=by simpa using hjl
    obtain ⟨m',hm'⟩: ∃m',s.Agents.length - j=m'+1:=⟨s.Agents.length - j - 1,by omega⟩
    rw [hm',Wu]at hl
    obtain ⟨a,ha,hl⟩:=bind_some hl
    obtain ⟨b,hb,hl⟩:=bind_some hl
    obtain ⟨l',hl',hl⟩:=bind_some hl
    have hl:cond (a&&b) (((i:Int),(j:Int))::l') l'=l:=lD hl
    have hm1:s.Agents.length - (j+1)=m':=by omega
    -- what a round leaves
    have hend: ∀(p':Nat) (h':E0),Inv p' h'→Tx kb ks s h'→p'≤L.length→l'++l2=L.drop p'→∃y:Nat×Nat×E0,(Inv y.2.1 y.2.2∧Tx kb ks s y.2.2∧y.1≤s.Agents.length∧y.2.1≤L.length∧∃l,Wu s i (s.Agents.length - y.1) y.1=some l∧l++l2=L.drop y.2.1)∧s.Agents.length - y.1<s.Agents.length - j∧y=(j+1,p',h'):=fun p' h' q1 q2 q3 q4=>⟨(j+1,p',h'),⟨q1,q2,hjl,q3,l',by dsimp only;rw [hm1];exact hl',q4⟩,by dsimp only;omega,rfl⟩
    refine A6 ?_
    refine A8 ?_
    refine A6 ?_
    refine Rp fun u hu=> ?_
    refine F5 (.ptr ks 0) W (U5 W e1 W) ?_
    refine F5 (.ptr ks 0) W W ?_
    refine F5 (.ptr ks 5) W W ?_
    refine F5 (.d (.agg [i64 s.Tick, .list (List.map E5 s.Agents), .list (List.map K7 s.In)])) W (B7 W e2 W W) ?_
    refine F5 (.d (i64 i)) W W ?_
    refine Xt W W (Ma s i _ ha) (.inl W) ?_
    refine F5 (.d (bo a)) W W ?_
    cases a with
    |false=>
     iterate 6 (refine TD rfl rfl ?_)
     refine F5 (.d (bo false)) W W ?_
     refine F5 (.d (bo false)) W W ?_
     iterate 5 (refine TD rfl rfl ?_)
     refine F5 (.d (bo false)) W W ?_
     refine Am ?_
     refine Qy W<|A9<|F9 ?_
     refine Rp fun u hu=> ?_
     refine F5 (.d (i64 j)) W W ?_
     refine F5 (.d (i64 ((j+1:Nat):Int))) W (by rw [← hw1 j (by omega)];rfl) ?_
     refine F5 (.d (i64 ((j+1:Nat):Int))) W W ?_
     refine Am ?_
     obtain ⟨y,y1,y2,rfl⟩:=hend pos hh hinv hrq hpos (by rw [← hgo,← hl];rfl)
     exact G5 ⟨_,y1,y2,Wb ⟨W,W,W,W,W,W,trivial⟩ fun _ _ h=>h⟩
    |true=>
     refine Us W ?_
     refine F5 (.ptr ks 0) W (U5 W e1 W) ?_
     refine Us W ?_
     refine F5 (.ptr ks 0) W W ?_
     refine Us W ?_
     refine F5 (.ptr ks 5) W W ?_
     refine Us W ?_
     refine F5 (.d (.agg [i64 s.Tick, .list (List.map E5 s.Agents), .list (List.map K7 s.In)])) W (B7 W e2 W W) ?_
     refine Us W ?_
     refine F5 (.d (i64 j)) W W ?_
     refine Us W ?_
     refine Xt W W (Ma s j _ hb) (.inl W) ?_
     refine F5 (.d (bo b)) W W ?_
     refine F5 (.d (bo b)) W W ?_
     cases b with
     |false=>
      iterate 5 (refine TD rfl rfl ?_)
      refine F5 (.d (bo false)) W W ?_
      refine Am ?_
      refine Qy W<|A9<|F9 ?_
      refine Rp fun u hu=> ?_
      refine F5 (.d (i64 j)) W W ?_
      refine F5 (.d (i64 ((j+1:Nat):Int))) W (by rw [← hw1 j (by omega)];rfl) ?_
      refine F5 (.d (i64 ((j+1:Nat):Int))) W W ?_
      refine Am ?_
      obtain ⟨y,y1,y2,rfl⟩:=hend pos hh hinv hrq hpos (by rw [← hgo,← hl];rfl)
      exact G5 ⟨_,y1,y2,Wb ⟨W,W,W,W,W,W,trivial⟩ fun _ _ h=>h⟩
     |true=>
      have hcons:((i:Int),(j:Int))::(l'++l2)=L.drop pos:=by rw [← hgo,← hl];rfl
      have hLi:(L.map HX)[pos]? =some (HX ((i:Int),(j:Int))):=by
        have:=congrArg (fun z=>z[0]?) hcons
        rw [lK]
        simp at this
        rw [← this];rfl
      have hLd:L.drop (pos+1)=l'++l2:=by
        have:=congrArg (fun z=>z.drop 1) hcons
        simpa using this.symm
      have hplt:pos+1≤L.length:=by
        have:=congrArg List.length hcons
        simp at this
        omega
      refine Us W ?_
      refine F5 (.yld k) W W ?_
      refine Us W ?_
      refine F5 (.d (i64 i)) W W ?_
      refine Us W ?_
      refine F5 (.d (i64 j)) W W ?_
      refine Us W ?_
      refine WW k ((HX ((i:Int),(j:Int))).map .d) W W ?_
      refine (hy pos hh _ hLi hinv).mono ?_
      rintro v' h' (⟨rfl,hin⟩|⟨rfl,hst⟩)
      ·obtain ⟨h1,S1,i1,q1⟩:=hcan _ _ hin
       refine ⟨h1,S1,fun u4 hu4=> ?_⟩
       refine Us W ?_
       refine F5 (.d (bo false)) W W ?_
       refine F5 (.d (bo false)) W W ?_
       refine Am ?_
       refine Qy W<|A9<|F9 ?_
       refine Rp fun u hu=> ?_
       refine F5 (.d (i64 j)) W W ?_
       refine F5 (.d (i64 ((j+1:Nat):Int))) W (by rw [← hw1 j (by omega)];rfl) ?_
       refine F5 (.d (i64 ((j+1:Nat):Int))) W W ?_
       refine Am ?_
       obtain ⟨y,y1,y2,rfl⟩:=hend (pos+1) h1 i1 q1 hplt hLd.symm
       exact G5 ⟨_,y1,y2,Wb ⟨W,W,W,W,W,W,trivial⟩ fun _ _ h=>h⟩
      ·refine ⟨h',Sb.refl _,fun u4 hu4=> ?_⟩
       refine Us W ?_
       refine F5 (.d (bo true)) W W ?_
       refine F5 (.d (bo true)) W W ?_
       refine Am ?_
       refine Xu W ?_
       refine B2<|H4<|H4 ?_
       exact ⟨Or.inr W,AV.tup [],W,Or.inr hst⟩
   ·refine D5 rfl ?_
    have hjn:j=s.Agents.length:=by
      have: ¬((j:Int)< (s.Agents.length:Int)):=by simpa using hjl
      omega
    subst hjn
    rw [Nat.sub_self,Wu]at hl
    cases hl
    refine D4 (r':= [.b 1, .c _]) W (F9 ?_)
    refine Rp fun u hu=> ?_
    refine F5 (.d (i64 ((i+1:Nat):Int))) W (by rw [← hw1 i (by omega)];rfl) ?_
    refine F5 (.d (i64 ((i+1:Nat):Int))) W W ?_
    refine Am ?_
    refine G5 ⟨(i+1,pos,hh),⟨hinv,hrq,hlt,hpos,?_⟩,by dsimp only;omega,Wb ⟨rfl,rfl,rfl,rfl,trivial⟩ fun _ _ h=>h⟩
    dsimp only
    rw [show s.Agents.length - (i+1)=m by omega,hl2]
    exact congrArg some hgo
  ·refine D5 rfl ?_
   have hin:i=s.Agents.length:=by
     have: ¬((i:Int)< (s.Agents.length:Int)):=by simpa using hlt
     omega
   subst hin
   rw [Nat.sub_self,AG]at hgo
   have h1:L.drop pos= []:=(lD hgo).symm
   have h2:=List.drop_eq_nil_iff.1 h1
   have h3:pos=L.length:=by omega
   subst h3
   refine D4 (r':= []) W (G5 ?_)
   exact ⟨.inl W,AV.tup [],W, .inl hinv⟩
def W9 (p1:WorldSpan)(p2:Int):Option WorldSpan:=
  some (WorldSpan.mk (D2 (p1.from_ - p2)) (D2 (p1.to - p2)))
theorem Hf(p1 p2 r)(h:W9 p1 p2=some r):PCall prog 141 [(.agg [(i64 p1.from_),(i64 p1.to)]),(i64 p2)] (.agg [(i64 r.from_),(i64 r.to)]):=by
 refine C3 (fk func141 ntmps141 m0 (by with_unfolding_all rfl)) (nl W) ?_
 unfold W9 at h
 refine B4 (s0:=⟨T [(0,(.d _)),(1,(.d _))],G []⟩) (G9 W W) ?_
 refine B1<|sm W<|sn W W<|A2<|B1<|sq W<|sl W (gq W) W (sv W<|sv W<|sq W<|sl W (gq W) W (sv W<|sv W<|sv W<|V5 W G_hit [(di<|D2 (p1.from_ - p2)),(di<|D2 (p1.to - p2))] W (A2<|B2 ?_)))
 cases h
 exact A7 (.inr W) (B6 (M1 W G_hit (nl W) W) C1) (.refl _)
def Bb [Lp](p1:Map)(p2:Int):Option Int:=
  (Ki p1 p2).bind fun v1=>cond (!v1) (some 0) ((Ca p1 p2).bind fun v2=>some v2)
theorem Oi(p1 p2 r)(h:Bb p1 p2=some r):PCall prog 143 [(.agg (V1 p1)),(i64 p2)] (i64 r):=by
 refine C3 (fk func143 ntmps143 m0 (by with_unfolding_all rfl)) (nl W) ?_
 unfold Bb at h
 refine B4 (s0:=⟨T [(0,(.d _)),(1,(.d _))],G []⟩) (G9 W W) ?_
 refine B1<|sm W<|sv W<|A2<|A6<|B1<|sd W (B7 W G_hit W W)<|sv W<|bs h fun v1 hv1 h=>B0 W W A3 (Ws _ _ _ hv1) (.inl W) (C0 (.d (bo (!v1))) W W (A2<|cc W h (fun c1 h=> ?_)<|fun c1 h=> ?_))
 refine B1<|sv W<|A2<|B2 ?_
 cases h
 exact A7 (.inr W) (B6 (B3 W) C1) (.refl _)
 refine A9<|B1<|sd W (B7 W G_hit W W)<|sv W<|bs h fun _ hv2 h=>B0 W W A3 (No _ _ _ hv2) (.inl W) (sv W<|A2<|B2 ?_)
 cases h
 exact A7 (.inr W) (B6 (B3 W) C1) (.refl _)
def Gj (p1:WorldSpan)(p2:WorldSpan):Option WorldSpan:=
  some (WorldSpan.mk (Ln true p1.from_ p2.from_) (Ln false p1.to p2.to))
theorem Rc(p1 p2 r)(h:Gj p1 p2=some r):PCall prog 142 [(.agg [(i64 p1.from_),(i64 p1.to)]),(.agg [(i64 p2.from_),(i64 p2.to)])] (.agg [(i64 r.from_),(i64 r.to)]):=by
 refine C3 (fk func142 ntmps142 m0 (by with_unfolding_all rfl)) (nl W) ?_
 unfold Gj at h
 refine B4 (s0:=⟨T [(0,(.d _)),(1,(.d _))],G []⟩) (G9 W W) ?_
 refine B1<|sm W<|sn W W<|sm W<|A2<|B1<|sq W<|sl W (gq W) W (sq W<|sl W (gq W) W (sv W<|sq W<|sl W (gq W) W (sq W<|sl W (gq W) W (sv W<|sv W<|V5 W G_hit [(di<|Ln true p1.from_ p2.from_),(di<|Ln false p1.to p2.to)] W (A2<|B2 ?_)))))
 cases h
 exact A7 (.inr W) (B6 (M1 W G_hit (nl W) W) C1) (.refl _)
def Db (p1:WorldSpan):Option Bool:=
  some (decide (p1.from_>p1.to))
theorem Ou(p1 r)(h:Db p1=some r):PCall prog 144 [(.agg [(i64 p1.from_),(i64 p1.to)])] (bo r):=by
 refine C3 (fk func144 ntmps144 m0 (by with_unfolding_all rfl)) (nl W) ?_
 unfold Db at h
 refine B4 (s0:=⟨T [(0,(.d _))],G []⟩) (G9 W W) ?_
 refine B1<|sm W<|sv W<|A2<|B1<|sq W<|sl W G_hit W<|sq W<|sl W G_hit W<|sv W<|sv W<|A2<|B2 ?_
 cases h
 exact A7 (.inr W) (B6 (B3 W) C1) (.refl _)
def Bc [Lp](p1:Map)(p2:Agent)(v2:(List Int))(x1:((List Span)×Int)):Option (Stp ((List Span)×Int) (List Span)):=
  cond (decide (x1.2< (v2.length:Int))) ((B8 v2 x1.2).bind fun v3=>(B8 p2.Route x1.2).bind fun v4=>(Z3 p2).bind fun v5=>(W9 v5 v3).bind fun v6=>(Bb p1 v4).bind fun v7=>(Gj v6 (WorldSpan.mk 0 v7)).bind fun v8=>(Db v8).bind fun v9=>cond (!v9) ((Bj x1.1 [(Span.mk v4 v8.from_ v8.to)]).bind fun v10=>some (.go (v10,(D2 (x1.2+1))))) (some (.go (x1.1,(D2 (x1.2+1)))))) (some (.out x1.1))
def Hg [Lp](p1:Map)(p2:Agent):Option (List Span):=
  (Kv p2).bind fun v1=>cond (!v1) (some []) ((Az p1 p2.Route).bind fun v2=>(loop (Bc p1 p2 v2) ([],0)).bind fun y1=>some y1)
theorem Za(p1 p2 r)(h:Hg p1 p2=some r):PCall prog 67 [(.agg (V1 p1)),(.agg (E5 p2))] (.list (List.map Jt r)):=by
 refine C3 (fk func67 ntmps67 (fun r=>if r==10 then [1007]else []) (by with_unfolding_all rfl)) (nl W) ?_
 unfold Hg at h
 refine B4 (s0:=⟨T [(0,(.d _)),(1,(.d _))],G []⟩) (G9 W W) ?_
 refine lr<|fun u1 _=>sm W<|sm W<|sv W<|A2<|A6<|B1<|sd W (B7 W G_hit W W)<|bs h fun v1 hv1 h=>B0 W W A3 (Ru _ _ hv1) (.inl W) (C0 (.d (bo (!v1))) W W (A2<|cc W h (fun c1 h=> ?_)<|fun c1 h=> ?_))
 refine B1<|sv W<|A2<|B2 ?_
 cases h
 exact A7 (.inr W) (B6 (B3 W) C1) DLe.nil
 refine A9<|B1<|sv W<|A2<|A6<|B1<|sd W (B7 W (gq W) W W)<|sq W<|sl W G_hit W<|bs h fun v2 hv2 h=>B0 W W A3 (Oh _ _ _ hv2) (.inl W) (sd W (E8 W)<|sv W<|A2<|bs h fun y1 hy1 h=>E7 (fun s=> ∃g1:Nat,Sb ⟨T [(5,(oS y1 (48,g1)))],G [((48,g1),oB 93 3 Jt y1)]⟩ s) ?_ ?_)
 refine A8<|G6 (Bc p1 p2 v2) (fun (x1:((List Span)×Int)) (g2:Nat)=>⟨T [(2,(.ptr (2,u1) 0)),(3,(.ptr (3,u1) 0)),(5,(oS x1.1 (48,g2))),(16,(dl A4 v2)),(17,(di (v2.length:Int))),(18,(di x1.2))],G [((2,u1),some<|.box 33 (N4 p1)),((3,u1),some<|.box 45 (X5 p2)),((48,g2),oB 93 3 Jt x1.1)]⟩) ([],0) 0 _ hy1 (F6 (Dv W)<|sg W<|B5 G_hit (.of W)<|T8 trivial) ?_
 intro x1 g2 z1 hz1 ez1
 unfold Bc at hz1
 refine B1<|sv W<|A2<|A6<|cc W hz1 (fun c2 hz1=> ?_)<|fun c2 hz1=> ?_
 refine A9<|A6<|A8<|B1<|sv W<|bs hz1 fun _ hv3 hz1=>sd W (E2 W W hv3 W)<|sd W (H5 W hv3 W)<|sv W<|sv W<|A2<|B1<|sq W<|sl W (gq W) W (sv W<|bs hz1 fun v4 hv4 hz1=>sd W (E2 W W hv4 W)<|sd W (H5 W hv4 W)<|sv W<|A2<|A6<|J0 W<|sd W (B7 W (gq W) W W)<|bs hz1 fun _ hv5 hz1=>B0 W W A3 (If _ _ hv5) (.inl W) (sv W<|bs hz1 fun _ hv6 hz1=>B0 W W A3 (Hf _ _ _ hv6) (.inl W) (sd W (B7 W G_hit W W)<|sv W<|bs hz1 fun _ hv7 hz1=>B0 W W A3 (Oi _ _ _ hv7) (.inl W) (sv W<|bs hz1 fun v8 hv8 hz1=>B0 W W A3 (Rc _ _ _ hv8) (.inl W) (sm W<|V5 W G_hit [(di v8.from_),(di v8.to)] W (A2<|B1<|sd W (B7 W G_hit W W)<|bs hz1 fun v9 hv9 hz1=>B0 W W A3 (Ou _ _ hv9) (.inl W) (C0 (.d (bo (!v9))) W W (A2<|cc W hz1 (fun c3 hz1=> ?_)<|fun c3 hz1=> ?_))))))))
 refine Cd fun u11 _=>C0 (oS x1.1 (48,g2)) W W (sv W<|sq W<|sl W G_hit W<|sq W<|sl W G_hit W<|sv W<|C0 (dl Jt [(Span.mk v4 v8.from_ v8.to)]) W W (bs hz1 fun _ hv10 hz1=>U7 Jt (48,g2) x1.1 (Span.mk v4 v8.from_ v8.to) [] _ (P0<|fun _=>W) W (gq W) hv10 (ss W<|A2<|F9<|C6<|sv W<|sv W<|A2<|G5 ?_)))
 cases hz1
 exact ⟨W,u11,(F6 ⟨.of W, .of W,(.of (X1<|Aj hv10).symm), .of W, .of W, .of W,trivial⟩<|sg W<|sg W<|O8 G_hit trivial)⟩
 refine A9<|F9<|C6<|sv W<|sv W<|A2<|G5 ?_
 cases hz1
 exact ⟨W,g2,(F6 (Dv W)<|sg W<|sg W<|C2 (gq W) trivial)⟩
 refine D5 W ?_
 cases hz1
 obtain rfl:=ez1 _ rfl
 refine ⟨nofun,D4 W<|X2 ?_⟩
 exact ⟨g2,(F6 ⟨.of W,trivial⟩<|C2 (gq W) trivial)⟩
 rintro _ ⟨g1,q1⟩
 refine B4 q1<|B1<|C0 (oS y1 (48,g1)) W W (C0 (oS y1 (48,g1)) W W (A2<|B2 ?_))
 cases h
 exact A7 (.inr W) (B6 (B3 W)<|X4 G_hit) X3
def Fa (p1:Span)(p2:Span):Option Bool:=
  ((cond (p2.Lane_==p1.Lane_) (Gj (WorldSpan.mk p2.From p2.To) (WorldSpan.mk p1.From p1.To)) (some default))).bind fun v1=>((cond (p2.Lane_==p1.Lane_) (Db v1) (some default))).bind fun v2=>some ((p2.Lane_==p1.Lane_)&& (!v2))
theorem Sp(p1 p2 r)(h:Fa p1 p2=some r):PCall prog 147 [(.agg (Jt p1)),(.bp (Jt p2) 0)] (bo r):=by
 refine C3 (fk func147 ntmps147 m0 (by with_unfolding_all rfl)) (nl W) ?_
 unfold Fa at h
 refine B4 (s0:=⟨T [(0,(.d _)),(1,(.d _))],G []⟩) (G9 W W) ?_
 refine B1<|sm W<|sv W<|A2<|B1<|sv W<|sv W<|sq W<|sl W G_hit W<|sv W<|sv W<|gt W (fun _=>W) ?_
 refine gt W (fun w2=>(by simp only [A5 w2];rfl)) ?_
 refine gt W (fun _=>W) ?_
 refine gt W (fun w4=>(by simp only [A5 w4];rfl)) ?_
 refine gt W (fun w5=>(by simp only [A5 w5];rfl)) ?_
 refine gp W (O5 W) (fun _=>W) (gt W (vl W G_hit W)<|gp W (O5 W) (fun _=>W) (gt W (vl W G_hit W) ?_))
 refine gt W (fun w10=>(by simp only [A5 w10];rfl)) ?_
 refine bs h fun v1 hv1 h=> ?_
 refine P3 _ (.agg [(i64 v1.from_),(i64 v1.to)]) (O5 W) (fun w11=>⟨_,[(.d (.agg [(i64 p2.From),(i64 p2.To)])),(.d (.agg [(i64 p1.From),(i64 p1.To)]))],_,_,(by simp only [A5 w11];rfl),W,A3,Rc _ _ _<|D3 w11 hv1,(.inl W)⟩) ?_
 refine bs h fun v2 hv2 h=> ?_
 refine P3 _ (bo v2) (O5 W) (fun w12=>⟨_,[(.d (.agg [(i64 v1.from_),(i64 v1.to)]))],_,_,(by simp only [A5 w12];rfl),W,A3,Ou _ _<|D3 w12 hv2,(.inl W)⟩) ?_
 refine U8 _ (.d (bo (!v2))) W (O5 W) (fun w13=>(by simp only [A5 w13];rfl)) ?_
 refine sa W W W<|sv W<|A2<|B2 ?_
 cases h
 exact A7 (.inr W) (B6 (B3 W) C1) (.refl _)
def K5 (p1:(List Span))(p2:Span)(x1:Int):Option (Stp Int (Sum Unit Int)):=
  cond (decide (x1< (p1.length:Int))) ((B8 p1 x1).bind fun v1=>(Fa v1 p2).bind fun v2=>cond v2 (some (.out (.inr x1))) (some (.go (D2 (x1+1))))) (some (.out (.inl ())))
def I3 [Lp](p1:(List Span))(p2:Span):Option Int:=
  thenS (loop (K5 p1 p2) 0) (fun _=>some (-1)) (fun r=>some r)
theorem Dw(p1 p2 r)(h:I3 p1 p2=some r):PCall prog 208 [(.list (List.map Jt p1)),(.fn (.func 147) [] [(.bp (Jt p2) 0)])] (i64 r):=by
 refine C3 (fk func208 ntmps208 m0 (by with_unfolding_all rfl)) (nl W) ?_
 unfold I3 at h
 refine B4 (s0:=⟨T [(0,(.d _)),(1,(.d _))],G []⟩) (G9 W W) ?_
 refine B1<|sv W<|A2<|A6<|B1<|sv W<|sd W (E8 W)<|sv W<|A2<|js h fun z1 hz1 h=>E7 (fun s=> ∃(y1:Unit) (g1:Unit),z1= .inl y1∧Sb ⟨T [],G []⟩ s) ?_ ?_
 refine A8<|G6 (K5 p1 p2) (fun (x1:Int) (g2:Unit)=>⟨T [(0,(dl Jt p1)),(1,(.d (.fn (.func 147) [] [(.bp (Jt p2) 0)]))),(7,(di (p1.length:Int))),(8,(di x1))],G []⟩) 0 () _ hz1 (G9 W W) ?_
 intro x1 g2 z2 hz2 ez2
 unfold K5 at hz2
 refine B1<|sv W<|A2<|A6<|cc W hz2 (fun c1 hz2=> ?_)<|fun c1 hz2=> ?_
 refine A9<|A6<|A8<|B1<|sv W<|sv W<|A2<|B1<|sv W<|sv W<|sv W<|bs hz2 fun _ hv1 hz2=>sd W (E2 W W hv1 W)<|sd W (E4 W hv1 W W)<|bs hz2 fun _ hv2 hz2=>B0 W W A3 (Sp _ _ _ hv2) (.inl W) (A2<|cc W hz2 (fun c2 hz2=> ?_)<|fun c2 hz2=> ?_)
 refine B1<|sv W<|sv W<|A2<|B2 ?_
 cases hz2
 obtain rfl:=ez2 _ rfl
 refine ⟨nofun,H4 ?_⟩
 rw [wE]at h
 cases h
 exact A7 (.inr W) (B6 (B3 W) C1) (.refl _)
 refine A9<|F9<|C6<|sv W<|sv W<|A2<|G5 ?_
 cases hz2
 exact ⟨W,(),(G9 W W)⟩
 refine D5 W ?_
 cases hz2
 obtain rfl:=ez2 _ rfl
 refine ⟨nofun,D4 W<|X2 ?_⟩
 exact ⟨_,(),W,(G9 W W)⟩
 rintro _ ⟨y1,g1,rfl,q1⟩
 rw [wD]at h
 refine B4 q1<|B1<|sv W<|A2<|B2 ?_
 cases h
 exact A7 (.inr W) (B6 (B3 W) C1) (.refl _)
def E6 [Lp](p1:(List Span))(p2:Span):Option Bool:=
  (I3 p1 p2).bind fun v1=>some (decide (v1≥0))
theorem Cl(p1 p2 r)(h:E6 p1 p2=some r):PCall prog 145 [(.list (List.map Jt p1)),(.fn (.func 147) [] [(.bp (Jt p2) 0)])] (bo r):=by
 refine C3 (fk func145 ntmps145 m0 (by with_unfolding_all rfl)) (nl W) ?_
 unfold E6 at h
 refine B4 (s0:=⟨T [(0,(.d _)),(1,(.d _))],G []⟩) (G9 W W) ?_
 refine B1<|sv W<|A2<|B1<|sv W<|sv W<|bs h fun _ hv1 h=>B0 W W A3 (Dw _ _ _ hv1) (.inl W) (sv W<|sv W<|A2<|B2 ?_)
 cases h
 exact A7 (.inr W) (B6 (B3 W) C1) (.refl _)
def X6 [Lp](p1:Span)(p2:(List Span)):Option Bool:=
  (E6 p2 p1).bind fun v1=>some v1
theorem Vg(p1 p2 r)(h:X6 p1 p2=some r):PCall prog 146 [(.agg (Jt p1)),(.bp [(.list (List.map Jt p2))] 0)] (bo r):=by
 refine C3 (fk func146 ntmps146 m0 (by with_unfolding_all rfl)) (nl W) ?_
 unfold X6 at h
 refine B4 (s0:=⟨T [(0,(.d _)),(1,(.d _))],G []⟩) (G9 W W) ?_
 refine B1<|sm W<|sv W<|A2<|B1<|sv W<|C0 (.fn _ _ _) W W (bs h fun _ hv1 h=>B0 W (rD<|E3 (Yq G2<|E3 (An G_hit<|rD<|rD<|rD G2) G2) G2) A3 (Cl _ _ _ hv1) (.inr W) (sv W<|A2<|B2 ?_))
 cases h
 exact A7 (.inr W) (B6 (B3 W) C1) (.refl _)
def F3 [Lp](p1:(List Span))(p2:(List Span))(x1:Int):Option (Stp Int (Sum Unit Int)):=
  cond (decide (x1< (p1.length:Int))) ((B8 p1 x1).bind fun v1=>(X6 v1 p2).bind fun v2=>cond v2 (some (.out (.inr x1))) (some (.go (D2 (x1+1))))) (some (.out (.inl ())))
def J2 [Lp](p1:(List Span))(p2:(List Span)):Option Int:=
  thenS (loop (F3 p1 p2) 0) (fun _=>some (-1)) (fun r=>some r)
theorem Fb(p1 p2 r)(h:J2 p1 p2=some r):PCall prog 208 [(.list (List.map Jt p1)),(.fn (.func 146) [] [(.bp [(.list (List.map Jt p2))] 0)])] (i64 r):=by
 refine C3 (fk func208 ntmps208 m0 (by with_unfolding_all rfl)) (nl W) ?_
 unfold J2 at h
 refine B4 (s0:=⟨T [(0,(.d _)),(1,(.d _))],G []⟩) (G9 W W) ?_
 refine B1<|sv W<|A2<|A6<|B1<|sv W<|sd W (E8 W)<|sv W<|A2<|js h fun z1 hz1 h=>E7 (fun s=> ∃(y1:Unit) (g1:Unit),z1= .inl y1∧Sb ⟨T [],G []⟩ s) ?_ ?_
 refine A8<|G6 (F3 p1 p2) (fun (x1:Int) (g2:Unit)=>⟨T [(0,(dl Jt p1)),(1,(.d (.fn (.func 146) [] [(.bp [(.list (List.map Jt p2))] 0)]))),(7,(di (p1.length:Int))),(8,(di x1))],G []⟩) 0 () _ hz1 (G9 W W) ?_
 intro x1 g2 z2 hz2 ez2
 unfold F3 at hz2
 refine B1<|sv W<|A2<|A6<|cc W hz2 (fun c1 hz2=> ?_)<|fun c1 hz2=> ?_
 refine A9<|A6<|A8<|B1<|sv W<|sv W<|A2<|B1<|sv W<|sv W<|sv W<|bs hz2 fun _ hv1 hz2=>sd W (E2 W W hv1 W)<|sd W (E4 W hv1 W W)<|bs hz2 fun _ hv2 hz2=>B0 W W A3 (Vg _ _ _ hv2) (.inl W) (A2<|cc W hz2 (fun c2 hz2=> ?_)<|fun c2 hz2=> ?_)
 refine B1<|sv W<|sv W<|A2<|B2 ?_
 cases hz2
 obtain rfl:=ez2 _ rfl
 refine ⟨nofun,H4 ?_⟩
 rw [wE]at h
 cases h
 exact A7 (.inr W) (B6 (B3 W) C1) (.refl _)
 refine A9<|F9<|C6<|sv W<|sv W<|A2<|G5 ?_
 cases hz2
 exact ⟨W,(),(G9 W W)⟩
 refine D5 W ?_
 cases hz2
 obtain rfl:=ez2 _ rfl
 refine ⟨nofun,D4 W<|X2 ?_⟩
 exact ⟨_,(),W,(G9 W W)⟩
 rintro _ ⟨y1,g1,rfl,q1⟩
 rw [wD]at h
 refine B4 q1<|B1<|sv W<|A2<|B2 ?_
 cases h
 exact A7 (.inr W) (B6 (B3 W) C1) (.refl _)
def F4 [Lp](p1:(List Span))(p2:(List Span)):Option Bool:=
  (J2 p1 p2).bind fun v1=>some (decide (v1≥0))
theorem Dn(p1 p2 r)(h:F4 p1 p2=some r):PCall prog 145 [(.list (List.map Jt p1)),(.fn (.func 146) [] [(.bp [(.list (List.map Jt p2))] 0)])] (bo r):=by
 refine C3 (fk func145 ntmps145 m0 (by with_unfolding_all rfl)) (nl W) ?_
 unfold F4 at h
 refine B4 (s0:=⟨T [(0,(.d _)),(1,(.d _))],G []⟩) (G9 W W) ?_
 refine B1<|sv W<|A2<|B1<|sv W<|sv W<|bs h fun _ hv1 h=>B0 W W A3 (Fb _ _ _ hv1) (.inl W) (sv W<|sv W<|A2<|B2 ?_)
 cases h
 exact A7 (.inr W) (B6 (B3 W) C1) (.refl _)
def Bo [Lp](p1:Map)(p2:Agent)(p3:Agent):Option Bool:=
  (Hg p1 p3).bind fun v1=>(Hg p1 p2).bind fun v2=>(F4 v2 v1).bind fun v3=>some v3
theorem CE(p1 p2 p3 r)(h:Bo p1 p2 p3=some r):PCall prog 68 [(.agg (V1 p1)),(.agg (E5 p2)),(.agg (E5 p3))] (bo r):=by
 refine C3 (fk func68 ntmps68 m0 (by with_unfolding_all rfl)) (nl W) ?_
 unfold Bo at h
 refine B4 (s0:=⟨T [(0,(.d _)),(1,(.d _)),(2,(.d _))],G []⟩) (G9 W W) ?_
 refine B1<|sm W<|sn W W<|sm W<|sv W<|A2<|B1<|sd W (B7 W (gq W) W W)<|sd W (B7 W G_hit W W)<|bs h fun v1 hv1 h=>B0 W W A3 (Za _ _ _ hv1) (.inl W) (sm W<|V5 W G_hit [(dl Jt v1)] W (A2<|B1<|sd W (B7 W (gq W) W W)<|sd W (B7 W (gq W) W W)<|bs h fun _ hv2 h=>B0 W W A3 (Za _ _ _ hv2) (.inl W) (C0 (.fn _ _ _) W W (bs h fun _ hv3 h=>B0 W (rD<|E3 (Yq G2<|E3 (An G_hit<|rD G2) G2) G2) A3 (Dn _ _ _ hv3) (.inr W) (sv W<|A2<|B2 ?_)))))
 cases h
 exact A7 (.inr W) (B6 (B3 W) C1) (.refl _)
def R5 [Lp](p1:WorldScene)(p2:Int)(p3:Int)(p4:Int):Option Bool:=
  (N0 p1 p2 p4).bind fun v1=>((cond v1 (N0 p1 p3 p4) (some default))).bind fun v2=>((cond (v1&&v2) (B8 p1.before.Agents p2) (some default))).bind fun v3=>((cond (v1&&v2) (Cv p1.m v3.Route p4) (some default))).bind fun v4=>((cond (v1&&v2) (B8 p1.before.Agents p3) (some default))).bind fun v5=>((cond (v1&&v2) (Cv p1.m v5.Route p4) (some default))).bind fun v6=>some ((v1&&v2)&& (v4 !=v6))
theorem Md(p1 p2 p3 p4 r)(h:R5 p1 p2 p3 p4=some r):PCall prog 82 [(.bp (Nv p1) 0),(i64 p2),(i64 p3),(i64 p4)] (bo r):=by
 refine C3 (fk func82 ntmps82 m0 (by with_unfolding_all rfl)) (nl W) ?_
 unfold R5 at h
 refine B4 (s0:=⟨T [(0,(.d _)),(1,(.d _)),(2,(.d _)),(3,(.d _))],G []⟩) (G9 W W) ?_
 refine B1<|sv W<|A2<|A6<|J0 W<|sv W<|sv W<|sv W<|bs h fun v1 hv1 h=>B0 W W A3 (Ba _ _ _ _ hv1) (.inl W) (sv W<|gt W (fun _=>W)<|gt W (fun _=>W)<|gt W (fun _=>W)<|bs h fun v2 hv2 h=> ?_)
 refine P3 v1 (bo v2) (O5 W) (fun w4=>⟨_,[(.d (.bp (Nv p1) 0)),(di p3),(di p4)],_,_,(by simp only [A5 w4];rfl),W,A3,Ba _ _ _ _<|D3 w4 hv2,(.inl W)⟩) ?_
 refine sa W W W<|sv W<|gt W (fun _=>W) ?_
 refine gt W (fun w6=>(by simp only [A5 w6];rfl)) ?_
 refine gt W (fun w7=>(by simp only [A5 w7];rfl)) ?_
 refine gt W (fun w8=>(by simp only [A5 w8];rfl)) ?_
 refine gt W (fun _=>W) ?_
 refine gt W (fun w10=>(by simp only [A5 w10];rfl)) ?_
 refine gt W (fun w11=>(by simp only [A5 w11];rfl)) ?_
 refine gt W (fun w12=>(by simp only [A5 w12];rfl)) ?_
 refine gt W (fun w13=>(by simp only [A5 w13];rfl)) ?_
 refine gt W (fun _=>W)<|bs h fun v3 hv3 h=>gt W (fun w15=>(E2 (A5 w15) (A5 w15) (D3 w15 hv3) W)) ?_
 refine gt W (fun w16=>(by simp only [A5 w16];rfl)) ?_
 refine gt W (fun w17=>(H5 (A5 w17) (D3 w17 hv3) W))<|gt W (fun _=>W)<|bs h fun v4 hv4 h=> ?_
 refine P3 _ (i64 v4) (O5 W) (fun w19=>⟨_,[(.d (.agg (V1 p1.m))),(dl A4 v3.Route),(di p4)],_,_,(by simp only [A5 w19];rfl),W,A3,Pz _ _ _ _<|D3 w19 hv4,(.inl W)⟩) ?_
 refine gt W (fun _=>W) ?_
 refine gt W (fun w21=>(by simp only [A5 w21];rfl)) ?_
 refine gt W (fun w22=>(by simp only [A5 w22];rfl)) ?_
 refine gt W (fun w23=>(by simp only [A5 w23];rfl)) ?_
 refine gt W (fun _=>W) ?_
 refine gt W (fun w25=>(by simp only [A5 w25];rfl)) ?_
 refine gt W (fun w26=>(by simp only [A5 w26];rfl)) ?_
 refine gt W (fun w27=>(by simp only [A5 w27];rfl)) ?_
 refine gt W (fun w28=>(by simp only [A5 w28];rfl)) ?_
 refine gt W (fun _=>W)<|bs h fun v5 hv5 h=>gt W (fun w30=>(E2 (A5 w30) (A5 w30) (D3 w30 hv5) W)) ?_
 refine gt W (fun w31=>(by simp only [A5 w31];rfl)) ?_
 refine gt W (fun w32=>(H5 (A5 w32) (D3 w32 hv5) W))<|gt W (fun _=>W)<|bs h fun v6 hv6 h=> ?_
 refine P3 _ (i64 v6) (O5 W) (fun w34=>⟨_,[(.d (.agg (V1 p1.m))),(dl A4 v5.Route),(di p4)],_,_,(by simp only [A5 w34];rfl),W,A3,Pz _ _ _ _<|D3 w34 hv6,(.inl W)⟩) ?_
 refine gt W (fun w35=>(S9 (A5 w35) (A5 w35) W))<|sa W W W<|sv W<|A2<|B2 ?_
 cases h
 exact A7 (.inr W) (B6 (B3 W) C1) (.refl _)
def Cm [Lp](p1:Map)(v5:WorldScene)(a1:(Int×Int))(x2:Int):Option (Stp Int (Sum Unit (State×Int))):=
  cond (decide (x2< (p1.Zones.length:Int))) ((R5 v5 a1.1 a1.2 x2).bind fun v10=>cond v10 (some (.out (.inr ((State.mk 0 [] []),12)))) (some (.go (D2 (x2+1))))) (some (.out (.inl ())))
def Fc [Lp](p1:Map)(p2:(List Agent))(v5:WorldScene)(x1:Unit)(a1:(Int×Int)):Option (Stp Unit (Sum Unit (State×Int))):=
  (B8 p2 a1.1).bind fun v7=>(B8 p2 a1.2).bind fun v8=>(Bo p1 v7 v8).bind fun v9=>cond v9 (some (.out (.inr ((State.mk 0 [] []),12)))) (thenS (loop (Cm p1 v5 a1) 0) (fun _=>some (.go ())) (fun r=>some (.out (.inr r))))
def Ty:Option Unit:=
  some ()
def Jl [Lp](p1:Map)(p2:(List Agent)):Option (State×Int):=
  (Hb (State.mk 0 p2 [])).bind fun v1=>(Ct p1 v1).bind fun v2=>cond (v2 !=0) (some ((State.mk 0 [] []),v2)) ((H6 p2).bind fun v3=>cond v3 (some ((State.mk 0 [] []),10)) ((Hb v1).bind fun v4=>(T7 (WorldScene.mk p1 v1 v4 [] [])).bind fun v5=>(Ty).bind fun y1=>thenS ((DO v5.before).bind fun v6=>loopL (Fc p1 p2 v5) (fun (x1:Unit)=> .inl ()) v6 ()) (fun _=>some (v5.after,0)) (fun r=>some r)))
theorem CF(p1 p2 r)(h:Jl p1 p2=some r):PCall prog 27 [(.agg (V1 p1)),(.list (List.map E5 p2))] (.tup [(.agg (Ku r.1)),(i64 r.2)]):=by
 refine C3 (fk func27 ntmps27 (fun r=>if r==8 then [1008001]else if r==9 then [1]else []) (by with_unfolding_all rfl)) (nl W) ?_
 unfold Jl at h
 refine B4 (s0:=⟨T [(0,(.d _)),(1,(.d _))],G []⟩) (G9 W W) ?_
 refine lr<|fun u1 _=>sm W<|sm W<|sn W W<|sm W<|A2<|B1<|sl W (gq W) W (sv W<|bs h fun v1 hv1 h=>B0 W W (.cons (.agg (ca W<|ca W<|.cons ⟨DLe.nil,W⟩ .nil)) .nil) (Yu _ _ hv1) (.inl W) (sm W<|V5 W G_hit (O7 v1) W (A2<|A6<|B1<|sd W (B7 W (gq W) W W)<|sd W (B7 W G_hit W W)<|bs h fun v2 hv2 h=>B0 W W A3 (Py _ _ _ hv2) (.inl W) (sv W<|A2<|B1<|sv W<|sv W<|A2<|cc W h (fun c1 h=> ?_)<|fun c1 h=> ?_))))
 refine B1<|sv W<|sv W<|V5 W (gq W) [(di 0),(.d .nilS),(.d .nilS)] W (V5 W (gq W) [(di v2)] W (A2<|B2 ?_))
 cases h
 exact A7 (.inr W) (Sg (M1 W (gq W) (nl W) W) (Wc W G_hit W) C1 C1) (.tup (.cons (.agg (ca W<|.cons ⟨DLe.nil,W⟩ (.cons ⟨DLe.nil,W⟩ .nil))) A3))
 refine A9<|A6<|B1<|sl W (gq W) W (bs h fun _ hv3 h=>B0 W W A3 (Fk _ _ hv3) (.inl W) (A2<|cc W h (fun c2 h=> ?_)<|fun c2 h=> ?_))
 refine B1<|sv W<|V5 W (gq W) [(di 0),(.d .nilS),(.d .nilS)] W (V5 W (gq W) [(di 10)] W (A2<|B2 ?_))
 cases h
 exact A7 (.inr W) (Sg (M1 W (gq W) (nl W) W) (Wc W G_hit W) C1 C1) (.tup (.cons (.agg (ca W<|.cons ⟨DLe.nil,W⟩ (.cons ⟨DLe.nil,W⟩ .nil))) A3))
 refine A9<|A6<|Mz W fun u8 _=>sd W (B7 W (gq W) W W)<|sd W (B7 W G_hit W W)<|sd W (B7 W G_hit W W)<|bs h fun _ hv4 h=>B0 W W A3 (Yu _ _ hv4) (.inl W) (sv W<|sm W<|sn W W<|V5 W G_hit [(.ptr (30,u8) 0)] W (A2<|B1<|sp W (U5 W G_hit W)<|bs h fun v5 hv5 h=>FD (v:= .d (.tup [])) (us:= [(30,u8)]) (JY (Tw _ _ hv5) [(30,u8)] [(30,u8)] _ (((30,u8),some<|.box 135 (V0 v5))::_) W Ls (Y9 (jU (G3 W<|G3 W G_hit) W) Tn) (Jg (G3 W<|G3 W G_hit) Iq) ⟨⟨_,(G3 W<|G3 W G_hit), .box (.cons (.of W) (.cons (.of W) (.cons (.of W) (.cons (.of W) (.cons (.of W) (.cons (.of W) (.cons (.of W) (.cons (.of W) (.cons (.of W) (.cons (.of W) (.cons (.of W) (.cons (DLe.d DLe.nil) (.cons (DLe.d DLe.nil) .nil)))))))))))))⟩,trivial⟩ (fun _ h=>h) nd1 W W W) (A2<|A6<|B1<|sp W (U5 W (gq W) W)<|bs h fun _ hy1 h=>Zz (fk func81 ntmps81 m0 (by with_unfolding_all rfl)) (fun (g1:Nat)=> [(2,(.ptr (2,u1) 0)),(3,(.ptr (3,u1) 0)),(4,(.ptr (4,u1) 0)),(5,(.ptr (5,u1) 0)),(8,(.ptr (8,u8) 0)),(34,(.fn (.func 174) [] [(.ptr (1,g1) 0)]))]) (fun (g1:Nat)=> [((2,u1),some<|.box 33 (N4 p1)),((3,u1),some<|.box 22 [(dl E5 p2)]),((4,u1),some<|.box 25 [(di 0),(.d .nilS),(.d .nilS)]),((5,u1),some<|.box 36 [(di 0)]),((8,u8),some<|.box 133 [(.ptr (30,u8) 0)]),((30,u8),some<|.box 135 (V0 v5)),((1,g1),some<|.box 133 [(.ptr (30,u8) 0)])]) W (nl W) ?_ ?_)))
 unfold Ty at hy1
 refine B4 (s0:=⟨T [(0,(.ptr _ _))],G [((30,u8),some<|.box 135 _),((2,u1),some<|.box 33 _),((3,u1),some<|.box 22 _),((4,u1),some<|.box 25 _),((5,u1),some<|.box 36 _),((8,u8),some<|.box 133 _)]⟩) (G9 W W) ?_
 refine lr<|fun u11 _=>sm W<|sv W<|A2<|B1<|C0 (.fn _ _ _) W W (C0 (.fn _ _ _) W W (A2<|B2 ?_))
 cases hy1
 exact NI (.inr W) (VF<|B3 W) u11 (Dv W) (sg W<|sg W<|sg W<|sg W<|sg W<|sg W<|B5 G_hit (.of W) trivial)
 intro g1
 intro u13 hu13
 refine A2<|js h fun z1 hz1 h=>E7 (fun s=> ∃(y2:Unit) (g2:Unit),z1= .inl y2∧Sb ⟨T [(4,(.ptr (4,u1) 0)),(5,(.ptr (5,u1) 0)),(8,(.ptr (8,u8) 0))],G [((4,u1),some<|.box 25 [(di 0),(.d .nilS),(.d .nilS)]),((5,u1),some<|.box 36 [(di 0)]),((8,u8),some<|.box 133 [(.ptr (30,u8) 0)]),((30,u8),some<|.box 135 (V0 v5))]⟩ s) ?_ ?_
 refine A8<|bs hz1 fun v6 hv6 hz1=>B4 (s0:=⟨T [(2,(.ptr _ _)),(3,(.ptr _ _)),(4,(.ptr _ _)),(5,(.ptr _ _)),(8,(.ptr _ _)),(34,(.fn _ _ _))],G [((2,u1),some<|.box 33 _),((3,u1),some<|.box 22 _),((4,u1),some<|.box 25 _),((5,u1),some<|.box 36 _),((8,u8),some<|.box 133 _),((30,u8),some<|.box 135 _),((1,g1),some<|.box 133 _)]⟩) (G9 W W) ?_
 refine PW (.fn (.func 174) [] [(.ptr (1,g1) 0)]) (Tx (1,g1) (30,u8) v5.before) HX v6 (Fc p1 p2 v5) (fun (x1:Unit)=>(.inl ():Sum Unit (State×Int))) (fun (x1:Unit) (g3:Unit)=> [((2,u1),some<|.box 33 (N4 p1)),((3,u1),some<|.box 22 [(dl E5 p2)]),((4,u1),some<|.box 25 [(di 0),(.d .nilS),(.d .nilS)]),((5,u1),some<|.box 36 [(di 0)]),((8,u8),some<|.box 133 [(.ptr (30,u8) 0)]),((1,g1),some<|.box 133 [(.ptr (30,u8) 0)]),((30,u8),some<|.box 135 (V0 v5))]) () () _ W (HY hv6 _ _) (fun x1 g3 _ _=>⟨G3 W<|gq W,_,_,_,_,_,_,_,_,_,_,G3 W<|gq W⟩) (fun _=>W) hz1 (G9 W W) nofun ?_ ?_
 intro u15 hu15 hku15
 refine ⟨fun x1 g3=>(G3 W<|G3 W<|G3 W<|G3 W<|G3 W<|G3 W<|G3 W W),?_⟩
 intro r1 x1 g3 a1 z2 hrr1 hz2 ez2
 unfold Fc at hz2
 show Cq _ _ _ _ _ _ ⟨T [(36,(di a1.2)),(35,(di a1.1)),(2,(.ptr (2,u1) 0)),(3,(.ptr (3,u1) 0)),(4,(.ptr (4,u1) 0)),(5,(.ptr (5,u1) 0)),(8,(.ptr (8,u8) 0)),(34,(.fn (.func 174) [] [(.ptr (1,g1) 0)]))],G [((1000000,u15),some (.obj (T [(2,(.ptr (2,u1) 0)),(3,(.ptr (3,u1) 0)),(4,(.ptr (4,u1) 0)),(5,(.ptr (5,u1) 0)),(8,(.ptr (8,u8) 0)),(34,(.fn (.func 174) [] [(.ptr (1,g1) 0)]))]) r1)),((2,u1),some (.box 33 (N4 p1))),((3,u1),some (.box 22 [(dl E5 p2)])),((4,u1),some (.box 25 [(di 0),(.d .nilS),(.d .nilS)])),((5,u1),some (.box 36 [(di 0)])),((8,u8),some (.box 133 [(.ptr (30,u8) 0)])),((1,g1),some (.box 133 [(.ptr (30,u8) 0)])),((30,u8),some (.box 135 (V0 v5)))]⟩
 refine B1<|sv W<|A2<|C6<|sv W<|A2<|X2<|SX G_hit ?_
 refine A8<|A6<|A6<|J0 W<|sd W (B7 W (gq W) W W)<|sl W (gq W) W (sv W<|bs hz2 fun _ hv7 hz2=>sd W (E2 W W hv7 W)<|sd W (E4 W hv7 W W)<|sl W (gq W) W (sv W<|bs hz2 fun _ hv8 hz2=>sd W (E2 W W hv8 W)<|sd W (E4 W hv8 W W)<|bs hz2 fun _ hv9 hz2=>B0 W W A3 (CE _ _ _ _ hv9) (.inl W) (A2<|cc W hz2 (fun c3 hz2=> ?_)<|fun c3 hz2=> ?_)))
 refine B1<|sv W<|V5 W (gq W) [(di 0),(.d .nilS),(.d .nilS)] W (V5 W (gq W) [(di 12)] W (A2<|B2 ?_))
 cases hz2
 obtain rfl:=ez2 _ rfl
 refine UV (gq W) nofun (H4 ?_)
 rw [wE]at h
 cases h
 exact A7 (.inr W) (Sg (M1 W (gq W) (nl W) W) (Wc W (gq W) W) C1 C1) (.tup (.cons (.agg (ca W<|.cons ⟨DLe.nil,W⟩ (.cons ⟨DLe.nil,W⟩ .nil))) A3))
 refine A9<|B1<|sq W<|sl W (gq W) W (sd W (E8 W)<|sv W<|A2<|js hz2 fun z3 hz3 hz2=>E7 (fun s=> ∃(y3:Unit) (g4:Unit),z3= .inl y3∧Sb ⟨T [],G [((2,u1),some<|.box 33 (N4 p1)),((3,u1),some<|.box 22 [(dl E5 p2)]),((4,u1),some<|.box 25 [(di 0),(.d .nilS),(.d .nilS)]),((5,u1),some<|.box 36 [(di 0)]),((8,u8),some<|.box 133 [(.ptr (30,u8) 0)]),((1,g1),some<|.box 133 [(.ptr (30,u8) 0)]),((1000000,u15),some<|.obj (T [(2,(.ptr (2,u1) 0)),(3,(.ptr (3,u1) 0)),(4,(.ptr (4,u1) 0)),(5,(.ptr (5,u1) 0)),(8,(.ptr (8,u8) 0)),(34,(.fn (.func 174) [] [(.ptr (1,g1) 0)]))]) {r1 with state:= .busy}),((30,u8),some<|.box 135 (V0 v5))]⟩ s) ?_ ?_)
 refine A8<|G6 (Cm p1 v5 a1) (fun (x2:Int) (g5:Unit)=>⟨T [(4,(.ptr (4,u1) 0)),(5,(.ptr (5,u1) 0)),(8,(.ptr (8,u8) 0)),(9,(di a1.1)),(10,(di a1.2)),(50,(di (p1.Zones.length:Int))),(51,(di x2))],G [((4,u1),some<|.box 25 [(di 0),(.d .nilS),(.d .nilS)]),((5,u1),some<|.box 36 [(di 0)]),((8,u8),some<|.box 133 [(.ptr (30,u8) 0)]),((2,u1),some<|.box 33 (N4 p1)),((3,u1),some<|.box 22 [(dl E5 p2)]),((1,g1),some<|.box 133 [(.ptr (30,u8) 0)]),((1000000,u15),some<|.obj (T [(2,(.ptr (2,u1) 0)),(3,(.ptr (3,u1) 0)),(4,(.ptr (4,u1) 0)),(5,(.ptr (5,u1) 0)),(8,(.ptr (8,u8) 0)),(34,(.fn (.func 174) [] [(.ptr (1,g1) 0)]))]) {r1 with state:= .busy}),((30,u8),some<|.box 135 (V0 v5))]⟩) 0 () _ hz3 (G9 W W) ?_
 intro x2 g5 z4 hz4 ez4
 unfold Cm at hz4
 refine B1<|sv W<|A2<|A6<|cc W hz4 (fun c4 hz4=> ?_)<|fun c4 hz4=> ?_
 refine A9<|A6<|A8<|B1<|sv W<|sv W<|A2<|B1<|sp W (U5 W (gq W) W)<|sv W<|sv W<|sv W<|bs hz4 fun _ hv10 hz4=>B0 W (E3 (An (gq W)<|rD<|rD<|rD<|rD<|rD<|rD<|rD<|rD<|rD<|rD<|rD<|rD<|rD G2)<|rD<|rD<|rD G2) A3 (Md _ _ _ _ _ hv10) (.inr W) (A2<|cc W hz4 (fun c5 hz4=> ?_)<|fun c5 hz4=> ?_)
 refine B1<|sv W<|V5 W G_hit [(di 0),(.d .nilS),(.d .nilS)] W (V5 W (gq W) [(di 12)] W (A2<|B2 ?_))
 cases hz4
 obtain rfl:=ez4 _ rfl
 refine ⟨nofun,H4 ?_⟩
 rw [wE]at hz2
 cases hz2
 obtain rfl:=ez2 _ rfl
 refine UV (gq W) nofun (H4 ?_)
 rw [wE]at h
 cases h
 exact A7 (.inr W) (Sg (M1 W (gq W) (nl W) W) (Wc W (gq W) W) C1 C1) (.tup (.cons (.agg (ca W<|.cons ⟨DLe.nil,W⟩ (.cons ⟨DLe.nil,W⟩ .nil))) A3))
 refine A9<|F9<|C6<|sv W<|sv W<|A2<|G5 ?_
 cases hz4
 exact ⟨W,(),(G9 W W)⟩
 refine D5 W ?_
 cases hz4
 obtain rfl:=ez4 _ rfl
 refine ⟨nofun,D4 W<|X2 ?_⟩
 exact ⟨_,(),W,(G9 W W)⟩
 rintro _ ⟨y3,g4,rfl,q1⟩
 rw [wD]at hz2
 refine F9<|G5 ?_
 cases hz2
 exact fJ q1 (gq W) () (B5 G_hit (.of W)<|sg W<|sg W<|sg W<|sg W<|sg W<|sg W trivial)
 rintro x1 g3 _ rfl qx1
 refine F9<|X2 ?_
 exact ⟨_,(),W,(Sb.after qx1<|G9 W W)⟩
 rintro _ ⟨y2,g2,rfl,q2⟩
 rw [wD]at h
 refine B4 q2<|B1<|sp W (U5 W (gq W) W)<|sq W<|sp W W<|sd W (B7 W (gq W) W W)<|V5 W G_hit (O7 v5.after) W (V5 W (gq W) [(di 0)] W (A2<|B2 ?_))
 cases h
 exact A7 (.inr W) (Sg (M1 W (gq W) (nl W) W) (Wc W G_hit W) C1 C1) (.refl _)
def Nh (p1:Agent):Option Int:=
  some (D2 (p1.S - p1.Len))
theorem Zb(p1 r)(h:Nh p1=some r):PCall prog 43 [(.agg (E5 p1))] (i64 r):=by
 refine C3 (fk func43 ntmps43 m0 (by with_unfolding_all rfl)) (nl W) ?_
 unfold Nh at h
 refine B4 (s0:=⟨T [(0,(.d _))],G []⟩) (G9 W W) ?_
 refine B1<|sm W<|sv W<|A2<|B1<|sq W<|sl W G_hit W<|sq W<|sl W G_hit W<|sv W<|sv W<|A2<|B2 ?_
 cases h
 exact A7 (.inr W) (B6 (B3 W) C1) (.refl _)
def Pj [Lp]:Option Map:=
  (T0 1 1500 [] [0,0,100000,0]).bind fun v1=>(T0 1 1500 [] [50000,(-50000),50000,50000]).bind fun v2=>some (Map.mk 0 [v1,v2] [(Zone.mk [(Part.mk 0 48000 52000 1),(Part.mk 1 48000 52000 0)] 0)] [] [])
theorem NK(r)(h:Pj=some r):PCall prog 65 [] (.agg (V1 r)):=by
 refine C3 (fk func65 ntmps65 (fun r=>if r==1 then [1000,1002,1004,1007,1009]else []) (by with_unfolding_all rfl)) (nl W) ?_
 unfold Pj at h
 refine B4 (s0:=⟨T [],G []⟩) (G9 W W) ?_
 refine B1<|sm W<|A2<|B1<|C0 (dl A4 [0,0,100000,0]) W W (bs h fun v1 hv1 h=>B0 W W (.cons (.refl _) (.cons (.refl _) (.cons DLe.nil A3))) (R3 _ _ _ _ _ hv1) (.inl W) (C0 (dl A4 [50000,(-50000),50000,50000]) W W (bs h fun v2 hv2 h=>B0 W W (.cons (.refl _) (.cons (.refl _) (.cons DLe.nil A3))) (R3 _ _ _ _ _ hv2) (.inl W) (C0 (dl Ft [v1,v2]) W (Xx Ft ([v1,v2]:List Lane) (fun _=>W) W W ⟨W,W,W,W,W,W,trivial⟩ (fun _=>W)) (sv W<|sv W<|C0 (dl Df [(Part.mk 0 48000 52000 1),(Part.mk 1 48000 52000 0)]) W W (sv W<|C0 (dl Fu [(Zone.mk [(Part.mk 0 48000 52000 1),(Part.mk 1 48000 52000 0)] 0)]) W W (sv W<|V5 W G_hit [(di 0),(dl Ft [v1,v2]),(dl Fu [(Zone.mk [(Part.mk 0 48000 52000 1),(Part.mk 1 48000 52000 0)] 0)]),(.d .nilS),(.d .nilS)] W (A2<|B2 ?_))))))))
 cases h
 exact A7 (.inr W) (B6 (M1 W G_hit (nl W) W) C1) (.agg (ca W<|ca W<|ca W<|.cons ⟨DLe.nil,W⟩ (.cons ⟨DLe.nil,W⟩ .nil)))
def Re (p1:Int)(p2:Int)(p3:Int):Option Agent:=
  some (Agent.mk [p1] p2 p3 4000 0 false false)
theorem Wv(p1 p2 p3 r)(h:Re p1 p2 p3=some r):PCall prog 66 [(i64 p1),(i64 p2),(i64 p3)] (.agg (E5 r)):=by
 refine C3 (fk func66 ntmps66 (fun r=>if r==1 then [1001]else []) (by with_unfolding_all rfl)) (nl W) ?_
 unfold Re at h
 refine B4 (s0:=⟨T [(0,(.d _)),(1,(.d _)),(2,(.d _))],G []⟩) (G9 W W) ?_
 refine B1<|sm W<|A2<|B1<|sv W<|C0 (dl A4 [p1]) W W (sv W<|sv W<|sv W<|V5 W G_hit [(dl A4 [p1]),(di p2),(di p3),(di 4000),(di 0),(.d (bo false)),(.d (bo false))] W (A2<|B2 ?_))
 cases h
 exact A7 (.inr W) (B6 (M1 W G_hit (nl W) W) C1) (.refl _)
def Oj (p1:Int):Option Int:=
  (cond (decide (p1≥4294967296)) (some ((p1.fdiv (2^ (min (32:Int).toNat (IntKind.bits .u64)))),32)) (some (p1,0))).bind fun y1=>(cond (decide (y1.1≥65536)) (some ((y1.1.fdiv (2^ (min (16:Int).toNat (IntKind.bits .u64)))),(D2 (y1.2+16)))) (some (y1.1,y1.2))).bind fun y2=>cond (decide (y2.1≥256)) ((fV (ByteArray.mk #[0,1,2,2,3,3,3,3,4,4,4,4,4,4,4,4,5,5,5,5,5,5,5,5,5,5,5,5,5,5,5,5,6,6,6,6,6,6,6,6,6,6,6,6,6,6,6,6,6,6,6,6,6,6,6,6,6,6,6,6,6,6,6,6,7,7,7,7,7,7,7,7,7,7,7,7,7,7,7,7,7,7,7,7,7,7,7,7,7,7,7,7,7,7,7,7,7,7,7,7,7,7,7,7,7,7,7,7,7,7,7,7,7,7,7,7,7,7,7,7,7,7,7,7,7,7,7,7,8,8,8,8,8,8,8,8,8,8,8,8,8,8,8,8,8,8,8,8,8,8,8,8,8,8,8,8,8,8,8,8,8,8,8,8,8,8,8,8,8,8,8,8,8,8,8,8,8,8,8,8,8,8,8,8,8,8,8,8,8,8,8,8,8,8,8,8,8,8,8,8,8,8,8,8,8,8,8,8,8,8,8,8,8,8,8,8,8,8,8,8,8,8,8,8,8,8,8,8,8,8,8,8,8,8,8,8,8,8,8,8,8,8,8,8,8,8,8,8,8,8,8,8,8,8,8,8]) (IntKind.wrap .u8 (y2.1.fdiv (2^ (min (8:Int).toNat (IntKind.bits .u64)))))).bind fun v1=>some (D2 ((D2 (y2.2+8))+ (D2 v1)))) ((fV (ByteArray.mk #[0,1,2,2,3,3,3,3,4,4,4,4,4,4,4,4,5,5,5,5,5,5,5,5,5,5,5,5,5,5,5,5,6,6,6,6,6,6,6,6,6,6,6,6,6,6,6,6,6,6,6,6,6,6,6,6,6,6,6,6,6,6,6,6,7,7,7,7,7,7,7,7,7,7,7,7,7,7,7,7,7,7,7,7,7,7,7,7,7,7,7,7,7,7,7,7,7,7,7,7,7,7,7,7,7,7,7,7,7,7,7,7,7,7,7,7,7,7,7,7,7,7,7,7,7,7,7,7,8,8,8,8,8,8,8,8,8,8,8,8,8,8,8,8,8,8,8,8,8,8,8,8,8,8,8,8,8,8,8,8,8,8,8,8,8,8,8,8,8,8,8,8,8,8,8,8,8,8,8,8,8,8,8,8,8,8,8,8,8,8,8,8,8,8,8,8,8,8,8,8,8,8,8,8,8,8,8,8,8,8,8,8,8,8,8,8,8,8,8,8,8,8,8,8,8,8,8,8,8,8,8,8,8,8,8,8,8,8,8,8,8,8,8,8,8,8,8,8,8,8,8,8,8,8,8,8]) (IntKind.wrap .u8 y2.1)).bind fun v2=>some (D2 (y2.2+ (D2 v2))))
theorem AH(p1 r)(h:Oj p1=some r):PCall prog 281 [(.v (.int .u64 p1))] (i64 r):=by
 refine C3 (fk func281 ntmps281 m0 (by with_unfolding_all rfl)) (nl W) ?_
 unfold Oj at h
 refine B4 (s0:=⟨T [(0,(.d _))],G []⟩) (G9 W W) ?_
 refine B1<|sv W<|A2<|A6<|B1<|sv W<|sv W<|A2<|bs h fun y1 hy1 h=>E7 (fun s=> ∃g1:Unit,Sb ⟨T [(0,(.d (.v (.int .u64 y1.1)))),(2,(di y1.2))],G []⟩ s) ?_ ?_
 refine cc W hy1 (fun c1 hy1=> ?_)<|fun c1 hy1=> ?_
 refine B1<|sv W<|sv W<|sv W<|A2<|C6<|sv W<|A2 ?_
 cases hy1
 exact X2 ⟨(),(G9 W W)⟩
 refine A9 ?_
 cases hy1
 exact X2 ⟨(),(G9 W W)⟩
 rintro _ ⟨g1,q1⟩
 refine B4 q1<|A6<|B1<|sv W<|sv W<|A2<|bs h fun y2 hy2 h=>E7 (fun s=> ∃g2:Unit,Sb ⟨T [(0,(.d (.v (.int .u64 y2.1)))),(2,(di y2.2))],G []⟩ s) ?_ ?_
 refine cc W hy2 (fun c2 hy2=> ?_)<|fun c2 hy2=> ?_
 refine B1<|sv W<|sv W<|sv W<|A2<|C6<|sv W<|sv W<|sv W<|A2 ?_
 cases hy2
 exact X2 ⟨(),(G9 W W)⟩
 refine A9 ?_
 cases hy2
 exact X2 ⟨(),(G9 W W)⟩
 rintro _ ⟨g2,q2⟩
 refine B4 q2<|A6<|B1<|sv W<|sv W<|A2<|cc W h (fun c3 h=> ?_)<|fun c3 h=> ?_
 refine B1<|sv W<|sv W<|sv W<|A2<|C6<|sv W<|sv W<|sv W<|A2<|B1<|sv W<|sv W<|sv W<|bs h fun _ hv1 h=>sd W (cF W W hv1)<|sv W<|sv W<|sv W<|A2<|B2 ?_
 cases h
 exact A7 (.inr W) (B6 (B3 W) C1) (.refl _)
 refine A9<|B1<|sv W<|sv W<|sv W<|bs h fun _ hv2 h=>sd W (cF W W hv2)<|sv W<|sv W<|sv W<|A2<|B2 ?_
 cases h
 exact A7 (.inr W) (B6 (B3 W) C1) (.refl _)
def Ih (p1:Int):Option Int:=
  (Oj p1).bind fun v1=>some v1
theorem Sq(p1 r)(h:Ih p1=some r):PCall prog 267 [(.v (.int .u64 p1))] (i64 r):=by
 refine C3 (fk func267 ntmps267 m0 (by with_unfolding_all rfl)) (nl W) ?_
 unfold Ih at h
 refine B4 (s0:=⟨T [(0,(.d _))],G []⟩) (G9 W W) ?_
 refine B1<|sv W<|A2<|A6<|Qy W<|A9<|B1<|sv W<|bs h fun _ hv1 h=>B0 W W A3 (AH _ _ hv1) (.inl W) (sv W<|A2<|B2 ?_)
 cases h
 exact A7 (.inr W) (B6 (B3 W) C1) (.refl _)
def Iy (p1:Int)(p2:Int):Option Bool:=
  (V7 p1).bind fun v1=>((cond v1 (V7 p2) (some default))).bind fun v2=>some ((v1&& (!v2))||(decide (p1<p2)))
theorem CG(p1 p2 r)(h:Iy p1 p2=some r):PCall prog 277 [(i64 p1),(i64 p2)] (bo r):=by
 refine C3 (fk func277 ntmps277 m0 (by with_unfolding_all rfl)) (nl W) ?_
 unfold Iy at h
 refine B4 (s0:=⟨T [(0,(.d _)),(1,(.d _))],G []⟩) (G9 W W) ?_
 refine B1<|sv W<|A2<|B1<|sv W<|bs h fun v1 hv1 h=>B0 W W A3 (He _ _ hv1) (.inl W) (sv W<|gt W (fun _=>W)<|bs h fun v2 hv2 h=> ?_)
 refine P3 v1 (bo v2) (O5 W) (fun w2=>⟨_,[(di p2)],_,_,(by simp only [A5 w2];rfl),W,A3,He _ _<|D3 w2 hv2,(.inl W)⟩) ?_
 refine U8 _ (.d (bo (!v2))) W (O5 W) (fun w3=>(by simp only [A5 w3];rfl)) ?_
 refine sa W W W<|sv W<|gf W (fun _=>W)<|gf W (fun _=>W)<|gf W (fun w6=>(S9 (A5 w6) (A5 w6) W))<|sd W (T5 W W<|fun hc=>A5<|M7 hc)<|sv W<|A2<|B2 ?_
 cases h
 exact A7 (.inr W) (B6 (B3 W) C1) (.refl _)
def J5 (p2:Int)(x2:(Int× (List Int))):Option (Stp (Int× (List Int)) (List Int)):=
  ((cond (decide (x2.1>p2)) (B8 x2.2 x2.1) (some default))).bind fun v1=>((cond (decide (x2.1>p2)) (B8 x2.2 (D2 (x2.1 - 1))) (some default))).bind fun v2=>((cond (decide (x2.1>p2)) (Iy v1 v2) (some default))).bind fun v3=>cond ((decide (x2.1>p2))&&v3) ((B8 x2.2 (D2 (x2.1 - 1))).bind fun v4=>(B8 x2.2 x2.1).bind fun v5=>(B8 x2.2 x2.1).bind fun v6=>(B8 (Kd x2.2 x2.1 v4) (D2 (x2.1 - 1))).bind fun v7=>some (.go ((D2 (x2.1 - 1)),(Kd (Kd x2.2 x2.1 v4) (D2 (x2.1 - 1)) v5)))) (some (.out x2.2))
def F7 [Lp](p2:Int)(p3:Int)(x1:(Int× (List Int))):Option (Stp (Int× (List Int)) (List Int)):=
  cond (decide (x1.1<p3)) ((loop (J5 p2) (x1.1,x1.2)).bind fun y1=>some (.go ((D2 (x1.1+1)),y1))) (some (.out (x1.2)))
def J3 [Lp](p1:(List Int))(p2:Int)(p3:Int):Option (List Int):=
  loop (F7 p2 p3) ((D2 (p2+1)),p1)
theorem Iz(p1 p2 p3 r)(h:J3 p1 p2 p3=some r):MCall prog 271 [(.sl (900000,0)),(di p2),(di p3)] [(.arr 2 1 (List.map A4 p1))] (.d (.tup [])) [some (.arr 2 1 (List.map A4 r))] []:=by
 refine Tp (fk func271 ntmps271 m0 (by with_unfolding_all rfl)) W (nl W) ?_
 unfold J3 at h
 refine B4 (s0:=⟨T [(0,(.sl _)),(1,(.d _)),(2,(.d _))],G [((900000,0),some _)]⟩) (G9 W W) ?_
 refine B1<|sv W<|sv W<|sv W<|A2<|A8<|G6 (F7 p2 p3) (fun (x1:(Int× (List Int))) (g1:Unit)=>⟨T [(0,(.sl (900000,0))),(1,(di p2)),(2,(di p3)),(6,(di x1.1))],G [((900000,0),some<|.arr 2 1 (List.map A4 x1.2))]⟩) ((D2 (p2+1)),p1) () _ h (G9 W W) ?_
 intro x1 g1 z1 hz1 ez1
 unfold F7 at hz1
 refine A6<|B1<|sv W<|sv W<|sv W<|A2<|cc W hz1 (fun c1 hz1=> ?_)<|fun c1 hz1=> ?_
 refine A9<|A6<|A8<|B1<|sv W<|sv W<|A2<|bs hz1 fun y1 hy1 hz1=>E7 (fun s=> ∃g2:Unit,Sb ⟨T [(0,(.sl (900000,0))),(1,(di p2)),(2,(di p3)),(6,(di x1.1))],G [((900000,0),some<|.arr 2 1 (List.map A4 y1))]⟩ s) ?_ ?_
 refine A8<|G6 (J5 p2) (fun (x2:(Int× (List Int))) (g3:Unit)=>⟨T [(0,(.sl (900000,0))),(1,(di p2)),(2,(di p3)),(6,(di x1.1)),(7,(di x2.1))],G [((900000,0),some<|.arr 2 1 (List.map A4 x2.2))]⟩) (x1.1,x1.2) () _ hy1 (G9 W W) ?_
 intro x2 g3 z2 hz2 ez2
 unfold J5 at hz2
 refine A6<|A6<|J0 W<|sv W<|sv W<|sv W<|sv W<|U8 _ (.sl _) W (O5 W) (fun _=>W) (gt W (fun _=>W)<|bs hz2 fun v1 hv1 hz2=>U8 _ (.aptr _ _ _ _) W (O5 W) (fun w3=>(Jy (A5 w3) (A5 w3) G_hit (D3 w3 hv1))) (gt W (fun w4=>(FX (A5 w4) G_hit (D3 w4 hv1) W))<|U8 _ (.sl _) W (O5 W) (fun _=>W) (gt W (fun _=>W)<|gt W (vb W W W)<|bs hz2 fun v2 hv2 hz2=>U8 _ (.aptr _ _ _ _) W (O5 W) (fun w8=>(Jy (A5 w8) (A5 w8) G_hit (D3 w8 hv2))) (gt W (fun w9=>(FX (A5 w9) G_hit (D3 w9 hv2) W))<|bs hz2 fun v3 hv3 hz2=> ?_))))
 refine P3 _ (bo v3) (O5 W) (fun w10=>⟨_,[(di v1),(di v2)],_,_,(by simp only [A5 w10];rfl),W,A3,CG _ _ _<|D3 w10 hv3,(.inl W)⟩) ?_
 refine sa W W W<|A2<|cc W hz2 (fun c2 hz2=> ?_)<|fun c2 hz2=> ?_
 refine A9<|A6<|A8<|J0 W<|ss W<|sv W<|ss W<|sv W<|sv W<|ss W<|sv W<|sv W<|bs hz2 fun v4 hv4 hz2=>C0 (.aptr _ _ _ _) W (Jy W W G_hit hv4) (sd W (FX W G_hit hv4 W)<|ss W<|sv W<|bs hz2 fun v5 hv5 hz2=>C0 (.aptr _ _ _ _) W (Jy W W G_hit hv5) (sd W (FX W G_hit hv5 W)<|bs hz2 fun _ hv6 hz2=>C0 (.aptr _ _ _ _) W (Jy W W G_hit hv6) (Sh A4 _ _ _ (x2.1) _ v4 [(i64 v4)] W W W G_hit hv6 (nl W) W (bs hz2 fun _ hv7 hz2=>C0 (.aptr _ _ _ _) W (Jy W W G_hit hv7) (Sh A4 _ _ _ ((D2 (x2.1 - 1))) _ v5 [(i64 v5)] W W W G_hit hv7 (nl W) W (A2<|F9<|C6<|sv W<|sv W<|sv W<|A2<|G5 ?_))))))
 cases hz2
 exact ⟨W,(),(G9 W W)⟩
 refine D5 W ?_
 cases hz2
 obtain rfl:=ez2 _ rfl
 refine ⟨nofun,D4 W<|X2 ?_⟩
 exact ⟨(),(G9 W W)⟩
 rintro _ ⟨g2,q1⟩
 refine F9<|B4 q1<|C6<|sv W<|sv W<|sv W<|A2<|G5 ?_
 cases hz1
 exact ⟨W,(),(G9 W W)⟩
 refine D5 W ?_
 cases hz1
 obtain rfl:=ez1 _ rfl
 refine ⟨nofun,D4 W<|G5 ?_⟩
 exact Zv (.inl W) [] Zw (.refl _) ⟨⟨G_hit,Ff⟩,trivial⟩
def M4 [Lp](p1:(List Int))(x1:(Int×Int×Int×Bool×Bool)):Option (Stp (Int×Int×Int×Bool×Bool) (List Int)):=
  cond (decide ((D2 (x1.2.1 - x1.1))≤12)) ((J3 p1 x1.1 x1.2.1).bind fun v1=>some (.out (v1))) (cond (x1.2.2.1==0) (none) ((cond (!x1.2.2.2.1) (none) (some ())).bind fun _=>none))
def N2 [Lp](p1:(List Int))(p2:Int)(p3:Int)(p4:Int):Option (List Int):=
  loop (M4 p1) (p2,p3,p4,true,true)
theorem Me(p1 p2 p3 p4 r)(h:N2 p1 p2 p3 p4=some r):MCall prog 266 [(.sl (900000,0)),(di p2),(di p3),(di p4)] [(.arr 2 1 (List.map A4 p1))] (.d (.tup [])) [some (.arr 2 1 (List.map A4 r))] []:=by
 refine Tp (fk func266 ntmps266 (fun r=>if r==4 then [1004003]else []) (by with_unfolding_all rfl)) W (nl W) ?_
 unfold N2 at h
 refine B4 (s0:=⟨T [(0,(.sl _)),(1,(.d _)),(2,(.d _)),(3,(.d _))],G [((900000,0),some _)]⟩) (G9 W W) ?_
 refine B1<|sv W<|A2<|B1<|sv W<|A2<|A8<|G6 (M4 p1) (fun (x1:(Int×Int×Int×Bool×Bool)) (g1:Unit)=>⟨T [(0,(.sl (900000,0))),(1,(di x1.1)),(2,(di x1.2.1)),(3,(di x1.2.2.1)),(8,(.d (bo x1.2.2.2.1))),(9,(.d (bo x1.2.2.2.2)))],G [((900000,0),some<|.arr 2 1 (List.map A4 p1))]⟩) (p2,p3,p4,true,true) () _ h (G9 W W) ?_
 intro x1 g1 z1 hz1 ez1
 unfold M4 at hz1
 refine A8<|B1<|sv W<|sv W<|sv W<|sv W<|A2<|A6<|B1<|sv W<|sv W<|A2<|cc W hz1 (fun c1 hz1=> ?_)<|fun c1 hz1=> ?_
 refine B1<|ss W<|sv W<|sv W<|bs hz1 fun v1 hv1 hz1=>FD (v:= .d (.tup [])) (us:= [(900000,0)]) (JY (Iz _ _ _ _ hv1) [(900000,0)] [(900000,0)] _ (((900000,0),some<|.arr 2 1 (List.map A4 v1))::_) W Ls (Y9 EM<|Y9 BT<|Y9 BT Tn) (Jg G_hit Iq) ⟨⟨_,G_hit, .of W⟩,trivial⟩ (fun _ h=>h) nd1 W W W) (A2<|B2 ?_)
 cases hz1
 obtain rfl:=ez1 _ rfl
 refine ⟨nofun,H4 ?_⟩
 exact Zv (.inr W) [] Zw (.refl _) ⟨⟨G_hit,Ff⟩,trivial⟩
 refine A9<|A6<|B1<|sv W<|sv W<|A2<|cc W hz1 (fun c2 hz1=> ?_)<|fun c2 hz1=> ?_
 refine B1<|ss W<|sv W<|sv W ?_
 cases hz1
 refine A9<|A6<|B1<|sv W<|C0 (.d (bo (!x1.2.2.2.1))) W W (A2<|bs hz1 fun _ hy1 hz1=>E7 (fun s=> ∃g2:Unit,Sb ⟨T [(0,(.sl (900000,0))),(1,(di x1.1)),(2,(di x1.2.1)),(3,(di x1.2.2.1)),(8,(.d (bo x1.2.2.2.1))),(9,(.d (bo x1.2.2.2.2))),(10,(di<|D2 (x1.2.1 - x1.1)))],G [((900000,0),some<|.arr 2 1 (List.map A4 p1))]⟩ s) ?_ ?_)
 refine cc W hy1 (fun c3 hy1=> ?_)<|fun c3 hy1=> ?_
 refine B1<|ss W<|sv W<|sv W ?_
 cases hy1
 refine A9 ?_
 cases hy1
 exact X2 ⟨(),(G9 W W)⟩
 rintro _ ⟨g2,q1⟩
 refine B4 q1<|B1<|ss W<|sv W<|sv W ?_
 cases hz1
def N7 [Lp](p1:(List Int)):Option (List Int):=
  (Ih (IntKind.wrap .u64 (p1.length:Int))).bind fun v1=>(N2 p1 0 (p1.length:Int) v1).bind fun v2=>some v2
theorem Ok(p1 r)(h:N7 p1=some r):MCall prog 252 [(.sl (900000,0))] [(.arr 2 1 (List.map A4 p1))] (.d (.tup [])) [some (.arr 2 1 (List.map A4 r))] []:=by
 refine Tp (fk func252 ntmps252 (fun r=>if r==1 then [1001005]else []) (by with_unfolding_all rfl)) W (nl W) ?_
 unfold N7 at h
 refine B4 (s0:=⟨T [(0,(.sl _))],G [((900000,0),some _)]⟩) (G9 W W) ?_
 refine B1<|ss W<|sd W (SZ (f:=A4) W G_hit)<|sv W<|A2<|C6<|ss W<|sv W<|sv W<|sv W<|bs h fun _ hv1 h=>B0 W W A3 (Sq _ _ hv1) (.inl W) (bs h fun v2 hv2 h=>FD (v:= .d (.tup [])) (us:= [(900000,0)]) (JY (Me _ _ _ _ _ hv2) [(900000,0)] [(900000,0)] _ (((900000,0),some<|.arr 2 1 (List.map A4 v2))::_) W Ls (Y9 EM<|Y9 BT<|Y9 BT<|Y9 BT Tn) (Jg G_hit Iq) ⟨⟨_,G_hit, .of W⟩,trivial⟩ (fun _ h=>h) nd1 W W W) (A2<|G5 ?_))
 obtain rfl:=(lD h)
 exact Zv (.inl W) [] Zw (.refl _) ⟨⟨G_hit,Ff⟩,trivial⟩
section
open Go.RowKit Go.Lib
def nT:Go.Shelf.Ren:=⟨fun n=>if n=43 then 253 else 0,fun t=>if t=22 then 48 else if t=23 then 2 else t,fun x=>x⟩
theorem cmp_lay:SlLaysE.n43 prog nT where
  mixed:=by kernel_rfl
  f43:=⟨Tryz.f253.name,by decide,by kernel_rfl⟩
  t0:=Tryz.underlying0
  a0:=Tryz.isAgg0
  z0:=Tryz.sizeOf0
  v0:=Tryz.zeroValue0
  t3:=Tryz.underlying3
  a3:=Tryz.isAgg3
  z3:=Tryz.sizeOf3
  v3:=Tryz.zeroValue3
  t4:=Tryz.underlying4
  a4:=Tryz.isAgg4
  z4:=Tryz.sizeOf4
  v4:=Tryz.zeroValue4
  t22:=Tryz.underlying48
  a22:=Tryz.isAgg48
  z22:=Tryz.sizeOf48
  v22:=Tryz.zeroValue48
  a23:=Tryz.isAgg2
  z23:=Tryz.sizeOf2
theorem WY (g cap:Nat)(d:Array Int)(w:World)(hH:Go.Sort.Holds (Value.int .i64) w g 0 d)(hsz:d.size≤9223372036854775807)(hcap:d.size≤cap):
    Calls prog 253 #[.slice (some ⟨g,0,none⟩) d.size cap] w fun e w'=>e= .returned (.slice (some ⟨g,0,none⟩) (Go.Lib.compactUpTo d d.size).length cap)∧∃q,w'=Go.Sort.putRow (Value.int .i64) (Go.Sort.ahead w q) g 0 (Go.Lib.compactUpTo d d.size++List.replicate (d.size - (Go.Lib.compactUpTo d d.size).length) 0).toArray:=
  AnyE.slices_Compact cmp_lay (Value.int .i64) (fun _=>rfl) (.intD _ _ _) (.intD _ _ _) 0 Tryz.zeroValue2 g 0 cap d w hH hsz hcap
theorem fW (d:Array Int):(Go.Lib.compactUpTo d d.size).length≤d.size:=by
  unfold Go.Lib.compactUpTo
  rw [lS]
  refine wL (List.length_filter_le _ _) ?_
  rw [List.length_range];exact wH _
theorem LG (xs:List Int): ∀m,m≤xs.length→Go.Lib.compactUpTo xs.toArray m=Ea (xs.take m)
  |0,_=>rfl
  |m+1,h=>by
   rw [Go.Lib.compactUpTo_succ,LG xs m (by omega),List.take_add_one,lH (by omega),Option.toList_some,EN]
   congr 1
   have hm:m<xs.length:=by omega
   have e1:xs.toArray[m]! =xs[m]:=by rw [getElem!_pos xs.toArray m (by simpa using hm)];simp
   rw [Go.Lib.keeps,e1]
   cases m with
   |zero=>simp
   |succ k=>
    have e2:xs.toArray[k]! =xs[k]:=by rw [getElem!_pos xs.toArray k (by rw [List.size_toArray];omega)];simp
    have e3:(xs.take (k+1)).getLast? =some xs[k]:=by rw [List.take_add_one,lH (by omega),Option.toList_some,List.getLast?_append];simp
    rw [Nat.add_sub_cancel,e2,e3]
    by_cases e:xs[k+1]=xs[k]
    ·simp [e]
    ·rw [bQ (by simp [e]),bR (fun q=>e (lD q).symm)]
theorem mR (xs r:List Int)(hr:BW xs=some r):MCall prog 253 [.sl (900000,0)] [.arr 2 1 (List.map A4 xs)] (.sl (800000,0)) [none] [some (.arr 2 1 (List.map A4 r))]:=by
  obtain ⟨hx,rfl⟩:=NH hr
  clear hr
  refine ⟨W,fun vs w=> ?_,fun w I ρ vs H hlen hrep=> ?_⟩
  ·have hn': ¬Tryz.f253.name= "runtime.NumGoroutine" :=by decide
   have hb: ∃c,Tryz.f253.body=some c:=⟨_,rfl⟩
   obtain ⟨c,hb⟩:=hb
   simp [callFunc,func253,hb,hn']
  have hnx:0<xs.length:=List.length_pos_iff.2 hx
  obtain ⟨a,rfl⟩: ∃a,vs= [a]:=by
    match vs,hlen with
    | [a],_=>exact ⟨a,rfl⟩
  have r0:=hrep 0 _ rfl
  simp only [List.getD_cons_zero]at r0
  have hb0:G (Ve 0 [Blk.arr 2 1 (List.map A4 xs)]) (Y8 0)=some (.arr 2 1 (List.map A4 xs)):=rfl
  obtain ⟨x0,cx,p1,p2,p3,p4⟩:=H.blk _ _ hb0
  have e0:a=x0:=by
    cases r0 with
    |sl _ _ h=>exact lD (h.symm.trans p1)
  subst e0
  obtain ⟨hxl,hx'|⟨g,c,cur,rfl,_,hg,hnc,hcm,hcs,hxc⟩⟩:=p2
  ·rw [lS]at hx';omega
  rw [lS]at hxl hnc hxc
  have hval: ∀i (hi:i<xs.length),cur[i]? =some (.int .i64 xs[i]):=by
    intro i hi
    obtain ⟨_,g2⟩:=p4 i 0 (.v (.int .i64 xs[i])) (by simp [Rn,hi,A4])
    have:cx.getD (i*1+0) undef= .int .i64 xs[i]:=by generalize cx.getD (i*1+0) undef=y at g2;cases g2;rfl
    rw [← hxc,List.getD,bA,bQ (by omega),Nat.mul_one,Nat.add_zero,Array.getElem?_toList]at this
    rw [Array.getElem?_eq_getElem (by omega)]at this ⊢
    rw [Option.getD_some]at this
    rw [this]
  have hH:Go.Sort.Holds (Value.int .i64) w g 0 xs.toArray:=by
    intro j hj
    rw [List.size_toArray]at hj
    have h2:=hval j hj
    refine ⟨?_,by simp [World.frozen?,hg]⟩
    simp [World.cell?,hg,h2,hj]
  have locx:N9 ρ (Y8 0) (.arr 2 1 (List.map A4 xs))=some g:=by simp [N9,p1,Value.ownBlock]
  have hca:=WY g c xs.toArray w hH (by rw [List.size_toArray];unfold maxLen at hcm;omega) (by rw [List.size_toArray];exact hnc)
  have hcl:=fW xs.toArray
  rw [List.size_toArray]at hca hcl
  rw [lS]
  refine hca.mono ?_
  rintro e w' ⟨rfl,q,hw'⟩
  have hheap: ∀k,w'.heap[k]? =if k=g then some (.cells (Go.Sort.putCells (Value.int .i64) 0 (Go.Lib.compactUpTo xs.toArray xs.length++List.replicate (xs.length - (Go.Lib.compactUpTo xs.toArray xs.length).length) 0).toArray cur) 2 (0,0))else w.heap[k]?:=by
    intro k
    rw [hw']
    show (w.heap.modify g _)[k]? =_
    rw [Array.getElem?_modify]
    by_cases e:g=k
    ·subst e;rw [bQ rfl,bQ rfl,hg];rfl
    ·rw [bR e,bR (Ne.symm e)]
  have hos:w'.os=w.os∧w'.tape=w.tape∧w'.output=w.output∧w'.heap.size=w.heap.size:=by rw [hw'];exact ⟨rfl,rfl,rfl,by simp⟩
  clear hw' hca hH
  generalize hC:Go.Lib.compactUpTo xs.toArray xs.length=C at hcl hheap ⊢
  have hCc:Ea xs=C:=by rw [← hC,LG xs _ (wH _),List.take_length]
  rw [hCc]
  obtain ⟨Z,hZ⟩: ∃Z:Array Int,Z=(C++List.replicate (xs.length - C.length) 0).toArray:=⟨_,rfl⟩
  rw [← hZ]at hheap
  have hZs:Z.size=xs.length:=by rw [hZ];simp;omega
  have hZg: ∀i (hi:i<C.length),Z[i]! =C[i]:=by
    intro i hi
    have hlt:i<Z.size:=by omega
    rw [getElem!_pos Z i hlt]
    subst hZ
    rw [List.getElem_toArray,List.getElem_append_left hi]
  clear hZ hC hCc
  obtain ⟨u0,hu0⟩:=H.fresh
  have hk0:ρ (7,u0)=none:=hu0 7 u0 (wH _)
  have hgI: ¬I g:=H.notI _ _ g hb0 locx
  have hgo:own ρ (G (Ve 0 [Blk.arr 2 1 (List.map A4 xs)])) g:=⟨_,_,hb0,locx⟩
  have hother: ∀k,k≠g→w'.heap[k]? =w.heap[k]?:=fun k hk=>by rw [hheap,bR hk]
  have hI': ∀b,I b→w'.heap[b]? =w.heap[b]?:=fun b hb=>hother b (fun e=>hgI (e▸hb))
  have H0:HeapOK w' I ρ (fun _=>none):=⟨fun k b hb=>(by cases hb),fun k k' b b' g h1=>(by cases h1),fun k b g h1=>(by cases h1),fun k b g h1=>(by cases h1),fun b hb=>by rw [hos.2.2.2];exact H.ilt b hb,⟨u0,hu0⟩,H.rone⟩
  have hloc: ∀k,N9 (Al ρ (7,u0) (some (Value.slice (some ⟨g,0,none⟩) C.length c))) (7,u0) (.arr 2 1 (List.map A4 C))=some k→k=g:=by
    intro k hk
    have:some g=some k:=by simpa [N9,G8,Value.ownBlock] using hk
    exact (lD this).symm
  have hown: ∀g,¬own ρ (fun _=>none) g:=fun g ⟨k,b,h,_⟩=>by cases h
  have hsz:(Go.Sort.putCells (Value.int .i64) 0 Z cur).size=c:=by unfold Go.Sort.putCells;rw [Array.size_mapIdx,hcs,Nat.mul_one]
  have Hn:=OL H0 (7,u0) (Value.slice (some ⟨g,0,none⟩) C.length c) (.arr 2 1 (List.map A4 C)) hk0 rfl (fun k hk=>by
    rw [hloc k hk]
    exact ⟨hown g,hgI,by rw [hos.2.2.2];exact H.lt _ _ g hb0 locx⟩)
    ⟨_,C.map (Value.int .i64),G8 _ _ _,⟨by simp, .inr ⟨g,c,_,by rw [lS],wI _,by rw [hheap,bQ rfl],by rw [lS];omega,hcm,by rw [hsz,Nat.mul_one],by
      rw [lS,Nat.mul_one]
      apply List.ext_getElem
      ·have h3:(Go.Sort.putCells (Value.int .i64) 0 Z cur).toList.length=c:=hsz
       rw [lV,h3,lS];omega
      ·intro i h1 h2
       rw [lS]at h2
       rw [List.getElem_take,Array.getElem_toList,List.getElem_map]
       unfold Go.Sort.putCells
       rw [Array.getElem_mapIdx,bQ ⟨wI _,by omega⟩,Nat.sub_zero,hZg i h2]⟩⟩,by
      intro q hq
      obtain ⟨z,_,rfl⟩:=List.mem_map.1 hq
      rfl,by
      intro r j d' hd'
      unfold Rn at hd'
      rw [lK]at hd'
      cases hr:C[r]? with
      |none=>rw [hr]at hd';cases hd'
      |some z=>
       rw [hr]at hd'
       match j,hd' with
       |0,hd'=>
        cases hd'
        refine ⟨W,?_⟩
        rw [Nat.mul_one,Nat.add_zero,List.getD,lK,hr]
        exact .v _
       |j+1,hd'=>simp [A4]at hd'⟩
  refine ⟨_, .sl (7,u0),I,_,_,W, .sl _ _ (G8 _ _ _),Hn,⟨hos.1,hos.2.1,hos.2.2.1,by rw [hos.2.2.2];exact wH _,fun b hb hn'=>hother b<|fun e=>hn' (e▸hgo),fun _ hb=>hb,fun _ hb _=> .inl hb,?_,MM hk0⟩,fun _=>(7,u0),W,?_,?_,?_,?_⟩
  ·rintro k ⟨k',b',h1,h2⟩ hl
   by_cases ek:k'=(7,u0)
   ·subst ek
    rw [G8]at h1
    cases h1
    rw [hloc k h2];exact hgo
   ·rw [L4 _ _ _ _ ek]at h1;cases h1
  ·intro j b hb
   match j,hb with
   |0,hb=>cases hb
   |j+1,hb=>simp at hb
  ·intro j b hb
   match j,hb with
   |0,hb=>cases hb;exact G8 _ _ _
   |j+1,hb=>simp at hb
  ·intro j _ i _ e;simp only [Y8,Prod.mk.injEq]at e;omega
  ·intro j j' h1 h2 _
   simp only [lL,lN]at h1 h2
   omega
theorem cI (A:Option Addr)(w:World):Calls prog 253 #[.slice A 0 0] w fun e w'=>e= .returned (.slice A 0 0)∧∃q,w'=w.drewN q:=by
  have mixed:=cmp_lay.mixed
  have v0:=Tryz.zeroValue2
  go_enter func253,ntmps253
  go_wp2
  go_ret
  exact ⟨W,0,W⟩
theorem fX:PCall prog 253 [.nilS] .nilS:=by
  refine ⟨fun vs w=> ?_,fun w I vs hI hlen hrep=> ?_⟩
  ·have hn': ¬Tryz.f253.name= "runtime.NumGoroutine" :=by decide
   have hb: ∃c,Tryz.f253.body=some c:=⟨_,rfl⟩
   obtain ⟨c,hb⟩:=hb
   simp [callFunc,func253,hb,hn']
  obtain ⟨a,rfl⟩: ∃a,vs= [a]:=by
    match vs,hlen with
    | [a],_=>exact ⟨a,rfl⟩
  have r0:=hrep 0 _ rfl
  simp only [List.getD_cons_zero]at r0
  cases r0 with
  |nilS A=>
   refine (cI A w).mono ?_
   rintro e w' ⟨rfl,q,rfl⟩
   exact ⟨_,I,W, .nilS A,W,W,W,wH _,fun _ _=>W,fun _ hb=>hb,fun _ hb _=>hb,hI⟩
end
def V4 (p1:Int)(x2:Int):Option (Stp Int Unit):=
  ((cond (decide (x2>p1)) ((none:Option Unit)) (some default))).bind fun v1=>cond ((decide (x2>p1))&&false) (none) (some (.out ()))
def L6 [Lp](p1:Int)(p2:Int)(x1:Int):Option (Stp Int Unit):=
  cond (decide (x1<p2)) ((loop (V4 p1) x1).bind fun _=>some (.go (D2 (x1+1)))) (some (.out (())))
def L0 [Lp](p1:Int)(p2:Int):Option Unit:=
  loop (L6 p1 p2) (D2 (p1+1))
theorem Ja(p1 p2 r)(h:L0 p1 p2=some r):PCall prog 271 [.nilS,(i64 p1),(i64 p2)] (.tup []):=by
 refine C3 (fk func271 ntmps271 m0 (by with_unfolding_all rfl)) (nl W) ?_
 unfold L0 at h
 refine B4 (s0:=⟨T [(0,(.d _)),(1,(.d _)),(2,(.d _))],G []⟩) (G9 W W) ?_
 refine B1<|sv W<|sv W<|sv W<|A2<|A8<|G6 (L6 p1 p2) (fun (x1:Int) (g1:Unit)=>⟨T [(0,(.d .nilS)),(1,(di p1)),(2,(di p2)),(6,(di x1))],G []⟩) (D2 (p1+1)) () _ h (G9 W W) ?_
 intro x1 g1 z1 hz1 ez1
 unfold L6 at hz1
 refine A6<|B1<|sv W<|sv W<|sv W<|A2<|cc W hz1 (fun c1 hz1=> ?_)<|fun c1 hz1=> ?_
 refine A9<|A6<|A8<|B1<|sv W<|sv W<|A2<|bs hz1 fun _ hy1 hz1=>E7 (fun s=> ∃g2:Unit,Sb ⟨T [(0,(.d .nilS)),(1,(di p1)),(2,(di p2)),(6,(di x1))],G []⟩ s) ?_ ?_
 refine A8<|G6 (V4 p1) (fun (x2:Int) (g3:Unit)=>⟨T [(0,(.d .nilS)),(1,(di p1)),(2,(di p2)),(6,(di x1)),(7,(di x2))],G []⟩) x1 () _ hy1 (G9 W W) ?_
 intro x2 g3 z2 hz2 ez2
 unfold V4 at hz2
 refine A6<|A6<|J0 W<|sv W<|sv W<|sv W<|sv W<|gt W (fun _=>W)<|gt W (fun _=>W)<|bs hz2 fun _ hv1 hz2=>U8 _ (.d (.tup [])) W (O5 W) (fun w3=>nomatch D3 w3 hv1) (U8 _ (di 0) W (O5 W) (fun w4=>nomatch D3 w4 hv1) (U8 _ (.d (.tup [])) W (O5 W) (fun w5=>nomatch D3 w5 hv1) (U8 _ (di 0) W (O5 W) (fun w6=>nomatch D3 w6 hv1) (U8 _ (di 0) W (O5 W) (fun w7=>nomatch D3 w7 hv1) (U8 _ (.d (.tup [])) W (O5 W) (fun w8=>nomatch D3 w8 hv1) (U8 _ (di 0) W (O5 W) (fun w9=>nomatch D3 w9 hv1) (P3 _ (bo false) (O5 W) (fun w10=>nomatch D3 w10 hv1) (sa W W W<|A2<|cc W hz2 (fun c2 hz2=> ?_)<|fun c2 hz2=> ?_))))))))
 refine A9<|A6<|A8<|J0 W<|sv W<|sv W<|sv W<|sv W<|sv W<|sv W<|sv W<|sv W ?_
 cases hz2
 refine D5 W ?_
 cases hz2
 obtain rfl:=ez2 _ rfl
 refine ⟨nofun,D4 W<|X2 ?_⟩
 exact ⟨(),(G9 W W)⟩
 rintro _ ⟨g2,q1⟩
 refine F9<|B4 q1<|C6<|sv W<|sv W<|sv W<|A2<|G5 ?_
 cases hz1
 exact ⟨W,(),(G9 W W)⟩
 refine D5 W ?_
 cases hz1
 obtain rfl:=ez1 _ rfl
 refine ⟨nofun,D4 W<|G5 ?_⟩
 exact A7 (.inl W) W (.refl _)
def M5 [Lp](x1:(Int×Int×Int×Bool×Bool)):Option (Stp (Int×Int×Int×Bool×Bool) Unit):=
  cond (decide ((D2 (x1.2.1 - x1.1))≤12)) ((L0 x1.1 x1.2.1).bind fun v1=>some (.out (()))) (cond (x1.2.2.1==0) (none) ((cond (!x1.2.2.2.1) (none) (some ())).bind fun _=>none))
def N3 [Lp](p1:Int)(p2:Int)(p3:Int):Option Unit:=
  loop (M5) (p1,p2,p3,true,true)
theorem Mf(p1 p2 p3 r)(h:N3 p1 p2 p3=some r):PCall prog 266 [.nilS,(i64 p1),(i64 p2),(i64 p3)] (.tup []):=by
 refine C3 (fk func266 ntmps266 m0 (by with_unfolding_all rfl)) (nl W) ?_
 unfold N3 at h
 refine B4 (s0:=⟨T [(0,(.d _)),(1,(.d _)),(2,(.d _)),(3,(.d _))],G []⟩) (G9 W W) ?_
 refine B1<|sv W<|A2<|B1<|sv W<|A2<|A8<|G6 (M5) (fun (x1:(Int×Int×Int×Bool×Bool)) (g1:Unit)=>⟨T [(0,(.d .nilS)),(1,(di x1.1)),(2,(di x1.2.1)),(3,(di x1.2.2.1)),(8,(.d (bo x1.2.2.2.1))),(9,(.d (bo x1.2.2.2.2)))],G []⟩) (p1,p2,p3,true,true) () _ h (G9 W W) ?_
 intro x1 g1 z1 hz1 ez1
 unfold M5 at hz1
 refine A8<|B1<|sv W<|sv W<|sv W<|sv W<|A2<|A6<|B1<|sv W<|sv W<|A2<|cc W hz1 (fun c1 hz1=> ?_)<|fun c1 hz1=> ?_
 refine B1<|sv W<|sv W<|sv W<|bs hz1 fun _ hv1 hz1=>B0 W W A3 (Ja _ _ _ hv1) (.inl W) (A2<|B2 ?_)
 cases hz1
 obtain rfl:=ez1 _ rfl
 refine ⟨nofun,H4 ?_⟩
 exact A7 (.inr W) W (.refl _)
 refine A9<|A6<|B1<|sv W<|sv W<|A2<|cc W hz1 (fun c2 hz1=> ?_)<|fun c2 hz1=> ?_
 refine B1<|sv W<|sv W<|sv W ?_
 cases hz1
 refine A9<|A6<|B1<|sv W<|C0 (.d (bo (!x1.2.2.2.1))) W W (A2<|bs hz1 fun _ hy1 hz1=>E7 (fun s=> ∃g2:Unit,Sb ⟨T [(0,(.d .nilS)),(1,(di x1.1)),(2,(di x1.2.1)),(3,(di x1.2.2.1)),(8,(.d (bo x1.2.2.2.1))),(9,(.d (bo x1.2.2.2.2))),(10,(di<|D2 (x1.2.1 - x1.1)))],G []⟩ s) ?_ ?_)
 refine cc W hy1 (fun c3 hy1=> ?_)<|fun c3 hy1=> ?_
 refine B1<|sv W<|sv W<|sv W ?_
 cases hy1
 refine A9 ?_
 cases hy1
 exact X2 ⟨(),(G9 W W)⟩
 rintro _ ⟨g2,q1⟩
 refine B4 q1<|B1<|sv W<|sv W<|sv W ?_
 cases hz1
def N8 [Lp]:Option Unit:=
  (Ih (IntKind.wrap .u64 0)).bind fun v1=>(N3 0 0 v1).bind fun v2=>some ()
theorem Ol(r)(h:N8=some r):PCall prog 252 [.nilS] (.tup []):=by
 refine C3 (fk func252 ntmps252 m0 (by with_unfolding_all rfl)) (nl W) ?_
 unfold N8 at h
 refine B4 (s0:=⟨T [(0,(.d _))],G []⟩) (G9 W W) ?_
 refine B1<|sv W<|sv W<|sv W<|A2<|C6<|sv W<|sv W<|sv W<|sv W<|bs h fun _ hv1 h=>B0 W W A3 (Sq _ _ hv1) (.inl W) (bs h fun _ hv2 h=>B0 W W A3 (Mf _ _ _ _ hv2) (.inl W) (A2<|G5 ?_))
 cases h
 exact A7 (.inl W) W (.refl _)
def Z8 [Lp](p1:Map)(p2:Int)(p3:Int)(v1:Zone)(x2:((List Int)×Int)):Option (Stp ((List Int)×Int) (List Int)):=
  cond (decide (x2.2< (v1.Parts.length:Int))) ((B8 v1.Parts x2.2).bind fun v2=>((cond (v2.Lane_==p2) (B8 p1.Signals (D2 (v1.Signal_ - 1))) (some default))).bind fun v3=>((cond (v2.Lane_==p2) (Ez v3 p2 p3) (some default))).bind fun v4=>cond ((v2.Lane_==p2)&& (!v4)) ((Bj x2.1 [v2.From]).bind fun v5=>some (.go (v5,(D2 (x2.2+1))))) (some (.go (x2.1,(D2 (x2.2+1)))))) (some (.out x2.1))
def Z9 [Lp](p1:Map)(p2:Int)(p3:Int)(x1:((List Int)×Int)):Option (Stp ((List Int)×Int) (List Int)):=
  cond (decide (x1.2< (p1.Zones.length:Int))) ((B8 p1.Zones x1.2).bind fun v1=>cond (v1.Signal_==0) (some (.go (x1.1,(D2 (x1.2+1))))) ((loop (Z8 p1 p2 p3 v1) (x1.1,0)).bind fun y2=>some (.go (y2,(D2 (x1.2+1)))))) (some (.out x1.1))
def Lg [Lp](p1:Map)(p2:Int)(p3:Int):Option (List Int):=
  (loop (Z9 p1 p2 p3) ([],0)).bind fun y1=>cond (List.isEmpty y1) ((N8).bind fun v8=>some []) ((N7 y1).bind fun v6=>(BW v6).bind fun v7=>some v7)
theorem NL(p1 p2 p3 r)(h:Lg p1 p2 p3=some r):PCall prog 223 [(.agg (V1 p1)),(i64 p2),(i64 p3)] (.list (List.map A4 r)):=by
 refine C3 (fk func223 ntmps223 (fun r=>if r==10 then [1003]else if r==13 then [1013001]else if r==14 then [1014001]else []) (by with_unfolding_all rfl)) (nl W) ?_
 unfold Lg at h
 refine B4 (s0:=⟨T [(0,(.d _)),(1,(.d _)),(2,(.d _))],G []⟩) (G9 W W) ?_
 refine lr<|fun u1 _=>sm W<|sv W<|A2<|B1<|sv W<|A2<|A6<|B1<|sq W<|sl W G_hit W<|sd W (E8 W)<|sv W<|A2<|bs h fun y1 hy1 h=>E7 (fun s=> ∃g1:Nat,Sb ⟨T [(7,(oS y1 (50,g1)))],G [((50,g1),oB 2 1 A4 y1)]⟩ s) ?_ ?_
 refine A8<|G6 (Z9 p1 p2 p3) (fun (x1:((List Int)×Int)) (g2:Nat)=>⟨T [(1,(di p2)),(2,(di p3)),(3,(.ptr (3,u1) 0)),(7,(oS x1.1 (50,g2))),(13,(dl Fu p1.Zones)),(14,(di (p1.Zones.length:Int))),(15,(di x1.2))],G [((3,u1),some<|.box 33 (N4 p1)),((50,g2),oB 2 1 A4 x1.1)]⟩) ([],0) 0 _ hy1 (F6 (Dv W)<|B5 G_hit (.of W)<|T8 trivial) ?_
 intro x1 g2 z1 hz1 ez1
 unfold Z9 at hz1
 refine B1<|sv W<|A2<|A6<|cc W hz1 (fun c1 hz1=> ?_)<|fun c1 hz1=> ?_
 refine A9<|A6<|A8<|lr<|fun u5 _=>bs hz1 fun v1 hv1 hz1=>sd W (E2 W W hv1 W)<|sd W (E4 W hv1 W W)<|sm W<|V5 W G_hit [(dl Df v1.Parts),(di v1.Signal_)] W (A2<|A6<|B1<|sq W<|sl W G_hit W<|sv W<|A2<|cc W hz1 (fun c2 hz1=> ?_)<|fun c2 hz1=> ?_)
 refine Zu W<|C6<|sv W<|sv W<|A2<|G5 ?_
 cases hz1
 exact ⟨W,g2,(F6 (Dv W)<|sg W<|C2 (gq W) trivial)⟩
 refine A9<|B1<|sq W<|sl W G_hit W<|sd W (E8 W)<|sv W<|A2<|bs hz1 fun y2 hy2 hz1=>E7 (fun s=> ∃g3:Nat,Sb ⟨T [(1,(di p2)),(2,(di p3)),(3,(.ptr (3,u1) 0)),(7,(oS y2 (50,g3))),(13,(dl Fu p1.Zones)),(14,(di (p1.Zones.length:Int))),(15,(di x1.2))],G [((3,u1),some<|.box 33 (N4 p1)),((50,g3),oB 2 1 A4 y2)]⟩ s) ?_ ?_
 refine A8<|G6 (Z8 p1 p2 p3 v1) (fun (x2:((List Int)×Int)) (g4:Nat)=>⟨T [(1,(di p2)),(2,(di p3)),(3,(.ptr (3,u1) 0)),(7,(oS x2.1 (50,g4))),(9,(.ptr (9,u5) 0)),(13,(dl Fu p1.Zones)),(14,(di (p1.Zones.length:Int))),(15,(di x1.2)),(23,(dl Df v1.Parts)),(24,(di (v1.Parts.length:Int))),(25,(di x2.2))],G [((3,u1),some<|.box 33 (N4 p1)),((9,u5),some<|.box 117 [(dl Df v1.Parts),(di v1.Signal_)]),((50,g4),oB 2 1 A4 x2.1)]⟩) (x1.1,0) g2 _ hy2 (F6 (Dv W)<|sg W<|B5 G_hit (.of W)<|C2 (gq W) trivial) ?_
 intro x2 g4 z2 hz2 ez2
 unfold Z8 at hz2
 refine B1<|sv W<|A2<|A6<|cc W hz2 (fun c3 hz2=> ?_)<|fun c3 hz2=> ?_
 refine A9<|A6<|A8<|B1<|bs hz2 fun v2 hv2 hz2=>sd W (E2 W W hv2 W)<|sd W (E4 W hv2 W W)<|sm W<|V5 W G_hit (HR v2) W (A2<|B1<|sq W<|sl W G_hit W<|sv W<|sv W<|sv W<|gp W (O5 W) (fun _=>W) (gt W (vl W (gq W) W)<|gp W (O5 W) (fun _=>W) (gt W (vl W (gq W) W)<|gt W (vb W W W)<|bs hz2 fun v3 hv3 hz2=>gt W (fun w6=>(E2 (A5 w6) (A5 w6) (D3 w6 hv3) W))<|gt W (fun w7=>(E4 (A5 w7) (D3 w7 hv3) W W))<|gt W (fun _=>W)<|gt W (fun _=>W)<|bs hz2 fun v4 hv4 hz2=> ?_)))
 refine P3 _ (bo v4) (O5 W) (fun w10=>⟨_,[(.d (.agg [(i64 v3.Offset),(.list (List.map Eb v3.Phases))])),(di p2),(di p3)],_,_,(by simp only [A5 w10];rfl),W,A3,Wt _ _ _ _<|D3 w10 hv4,(.inl W)⟩) ?_
 refine U8 _ (.d (bo (!v4))) W (O5 W) (fun w11=>(by simp only [A5 w11];rfl)) ?_
 refine sa W W W<|A2<|cc W hz2 (fun c4 hz2=> ?_)<|fun c4 hz2=> ?_
 refine Cd fun u12 _=>C0 (oS x2.1 (50,g4)) W W (sq W<|sl W G_hit W<|C0 (dl A4 [v2.From]) W W (bs hz2 fun _ hv5 hz2=>U7 A4 (50,g4) x2.1 v2.From [] _ (P0<|fun _=>W) W (gq W) hv5 (ss W<|A2<|F9<|C6<|sv W<|sv W<|A2<|G5 ?_)))
 cases hz2
 exact ⟨W,u12,(F6 ⟨.of W, .of W, .of W,(.of (X1<|Aj hv5).symm), .of W, .of W, .of W, .of W, .of W, .of W, .of W,trivial⟩<|sg W<|sg W<|O8 G_hit trivial)⟩
 refine A9<|F9<|C6<|sv W<|sv W<|A2<|G5 ?_
 cases hz2
 exact ⟨W,g4,(F6 (Dv W)<|sg W<|sg W<|C2 (gq W) trivial)⟩
 refine D5 W ?_
 cases hz2
 obtain rfl:=ez2 _ rfl
 refine ⟨nofun,D4 W<|X2 ?_⟩
 exact ⟨g4,(F6 (Dv W)<|B5 G_hit (.of W)<|C2 (gq W) trivial)⟩
 rintro _ ⟨g3,q1⟩
 refine F9<|B4 q1<|C6<|sv W<|sv W<|A2<|G5 ?_
 cases hz1
 exact ⟨W,g3,(F6 (Dv W)<|B5 G_hit (.of W)<|C2 (gq W) trivial)⟩
 refine D5 W ?_
 cases hz1
 obtain rfl:=ez1 _ rfl
 refine ⟨nofun,D4 W<|X2 ?_⟩
 exact ⟨g2,(F6 ⟨.of W,trivial⟩<|C2 (gq W) trivial)⟩
 rintro _ ⟨g1,q2⟩
 refine B4 q2<|A6 ?_
 rcases LF h with ⟨e1,h⟩|⟨e1,h⟩
 refine B4 (s0:=⟨T [(7,(.d .nilS))],G []⟩) (F6 ⟨.of (cG e1),trivial⟩ trivial) ?_
 refine C6<|sv W<|bs h fun _ hv8 h=>FD (v:= .d (.tup [])) (us:= []) (jW [] _ W W A3 (Ol _ hv8) W W) (A2<|B1<|sv W<|FD (v:= .d .nilS) (us:= []) (jW [] _ W W A3 fX W W) (sv W<|A2<|B2 ?_))
 cases h
 exact A7 (.inr W) (B6 (B3 W) C1) DLe.nil
 refine B4 (s0:=⟨T [(7,(.sl (50,g1)))],G [((50,g1),some<|.arr 2 1 (List.map A4 y1))]⟩) (F6 ⟨.of (X1 e1),trivial⟩<|B5 (Xv G_hit e1) (.of W) trivial) ?_
 refine C6<|ss W<|bs h fun v6 hv6 h=>FD (v:= .d (.tup [])) (us:= [(50,g1)]) (JY (Ok _ _ hv6) [(50,g1)] [(50,g1)] _ (((50,g1),some<|.arr 2 1 (List.map A4 v6))::_) W Ls (Y9 EM Tn) (Jg G_hit Iq) ⟨⟨_,G_hit, .of W⟩,trivial⟩ (fun _ h=>h) nd1 W W W) (A2<|lr<|fun u18 _=>ss W<|bs h fun v7 hv7 h=>FD (v:= .sl (10140010,u18)) (us:= [(50,g1),(10140010,u18)]) (JY (mR _ _ hv7) [(50,g1)] [(50,g1)] _ (((10140010,u18),some<|.arr 2 1 (List.map A4 v7))::((50,g1),none)::_) W Ls (Y9 EM Tn) (Jg G_hit Iq) ⟨⟨_,G_hit, .of W⟩,trivial⟩ (fun _ h=>h) nd1 W W W) (ss W<|A2<|B2 ?_))
 cases h
 exact A7 (.inr W) (B6 (B3 W)<|PI G_hit) (.refl _)
def Ef [Lp](p1:Map)(p2:Int)(p3:Int):Option (List Int):=
  ((cond (!(decide (p3<0))) (Ki p1 p2) (some default))).bind fun v1=>cond ((decide (p3<0))||(!v1)) (some []) ((Lg p1 p2 p3).bind fun v2=>some v2)
theorem NM(p1 p2 p3 r)(h:Ef p1 p2 p3=some r):PCall prog 180 [(.agg (V1 p1)),(i64 p2),(i64 p3)] (.list (List.map A4 r)):=by
 refine C3 (fk func180 ntmps180 m0 (by with_unfolding_all rfl)) (nl W) ?_
 unfold Ef at h
 refine B4 (s0:=⟨T [(0,(.d _)),(1,(.d _)),(2,(.d _))],G []⟩) (G9 W W) ?_
 refine B1<|sm W<|sv W<|A2<|A6<|B1<|sv W<|sv W<|sv W<|gf W (fun _=>(B7 W G_hit W W))<|gf W (fun _=>W)<|bs h fun v1 hv1 h=> ?_
 refine P3 _ (bo v1) (N5 W) (fun w3=>⟨_,[(.d (.agg (V1 p1))),(di p2)],_,_,(by simp only [A5 w3];rfl),W,A3,Ws _ _ _<|D3 w3 hv1,(.inl W)⟩) ?_
 refine U8 _ (.d (bo (!v1))) W (N5 W) (fun w4=>(by simp only [A5 w4];rfl)) ?_
 refine sd W (T5 W W<|fun hc=>A5<|M7 hc)<|A2<|cc W h (fun c1 h=> ?_)<|fun c1 h=> ?_
 refine B1<|sv W<|A2<|B2 ?_
 cases h
 exact A7 (.inr W) (B6 (B3 W) C1) DLe.nil
 refine A9<|B1<|sd W (B7 W G_hit W W)<|sv W<|sv W<|bs h fun _ hv2 h=>B0 W W A3 (NL _ _ _ _ hv2) (.inl W) (sv W<|A2<|B2 ?_)
 cases h
 exact A7 (.inr W) (B6 (B3 W) C1) (.refl _)
def Y3 (p1:Int)(p2:Agent)(p3:Int):Option Int:=
  some (Ln true 0 (Ln false (D2 (p2.V+p1)) p3))
theorem Ov(p1 p2 p3 r)(h:Y3 p1 p2 p3=some r):PCall prog 179 [(i64 p1),(.bp (E5 p2) 0),(.bp [(i64 p3)] 0)] (i64 r):=by
 refine C3 (fk func179 ntmps179 m0 (by with_unfolding_all rfl)) (nl W) ?_
 unfold Y3 at h
 refine B4 (s0:=⟨T [(0,(.d _)),(1,(.d _)),(2,(.d _))],G []⟩) (G9 W W) ?_
 refine B1<|sv W<|A2<|B1<|sv W<|sv W<|sv W<|sv W<|sv W<|sv W<|sv W<|sv W<|A2<|B2 ?_
 cases h
 exact A7 (.inr W) (B6 (B3 W) C1) (.refl _)
def Kw (p1:Int)(p2:Int):Option Int:=
  cond ((decide (p1<1))||(decide (p2<1))) (some 0) ((NC .i64 (D2 ((Ln false p1 1000000) - 1)) (Ln false p2 1000000)).bind fun v1=>some (D2 ((D2 (v1* (Ln false p1 1000000))) - (D2 ((Ln false p2 1000000)* (D2 ((D2 (v1* (D2 (v1+1)))).tdiv 2)))))))
theorem Rv(p1 p2 r)(h:Kw p1 p2=some r):PCall prog 41 [(i64 p1),(i64 p2)] (i64 r):=by
 refine C3 (fk func41 ntmps41 m0 (by with_unfolding_all rfl)) (nl W) ?_
 unfold Kw at h
 refine B4 (s0:=⟨T [(0,(.d _)),(1,(.d _))],G []⟩) (G9 W W) ?_
 refine B1<|sv W<|A2<|A6<|B1<|sv W<|sv W<|sv W<|gf W (fun _=>W)<|gf W (vb W W W)<|sd W (T5 W W<|fun hc=>A5<|M7 hc)<|A2<|cc W h (fun c1 h=> ?_)<|fun c1 h=> ?_
 refine B1<|sv W<|A2<|B2 ?_
 cases h
 exact A7 (.inr W) (B6 (B3 W) C1) (.refl _)
 refine A9<|B1<|sv W<|sv W<|sv W<|sv W<|sv W<|sv W<|A2<|B1<|sv W<|sv W<|sv W<|bs h fun _ hv1 h=>sd W (aR W W hv1)<|sv W<|A2<|B1<|sv W<|sv W<|sv W<|sv W<|sv W<|sv W<|sv W<|sv W<|sv W<|sv W<|sv W<|sv W<|A2<|B2 ?_
 cases h
 exact A7 (.inr W) (B6 (B3 W) C1) (.refl _)
def Du (p1:Int)(p2:Int)(p3:Int)(p4:Int)(p5:Int):Option Bool:=
  ((cond (decide (p1>p2)) (Kw p3 p4) (some default))).bind fun v1=>((cond ((decide (p1>p2))&& (decide ((D2 (p2+v1))<p1))) (Kw p5 p4) (some default))).bind fun v2=>some (((decide (p1>p2))&& (decide ((D2 (p2+v1))<p1)))&& (decide ((D2 ((D2 (p2+p5))+v2))≥p1)))
theorem Rw(p1 p2 p3 p4 p5 r)(h:Du p1 p2 p3 p4 p5=some r):PCall prog 225 [(i64 p1),(.bp [(i64 p2)] 0),(.bp [(i64 p3)] 0),(.bp [(i64 p4)] 0),(.bp [(i64 p5)] 0)] (bo r):=by
 refine C3 (fk func225 ntmps225 m0 (by with_unfolding_all rfl)) (nl W) ?_
 unfold Du at h
 refine B4 (s0:=⟨T [(0,(.d _)),(1,(.d _)),(2,(.d _)),(3,(.d _)),(4,(.d _))],G []⟩) (G9 W W) ?_
 refine B1<|sv W<|A2<|A6<|J0 W<|sv W<|sv W<|sv W<|sv W<|gt W (fun _=>W)<|gt W (fun _=>W)<|gt W (fun _=>W)<|bs h fun v1 hv1 h=> ?_
 refine P3 _ (i64 v1) (O5 W) (fun w4=>⟨_,[(di p3),(di p4)],_,_,(by simp only [A5 w4];rfl),W,A3,Rv _ _ _<|D3 w4 hv1,(.inl W)⟩) ?_
 refine gt W (fun w5=>(S9 (A5 w5) (A5 w5) W))<|gt W (fun _=>W)<|gt W (fun w7=>(S9 (A5 w7) (A5 w7) W))<|sa W W W<|sv W<|gt W (fun _=>W)<|gt W (fun _=>W)<|gt W (fun w10=>(S9 (A5 w10) (A5 w10) W))<|gt W (fun _=>W)<|gt W (fun _=>W)<|bs h fun v2 hv2 h=> ?_
 refine P3 _ (i64 v2) (O5 W) (fun w13=>⟨_,[(di p5),(di p4)],_,_,(by simp only [A5 w13];rfl),W,A3,Rv _ _ _<|D3 w13 hv2,(.inl W)⟩) ?_
 refine gt W (fun w14=>(S9 (A5 w14) (A5 w14) W))<|gt W (fun _=>W)<|gt W (fun w16=>(S9 (A5 w16) (A5 w16) W))<|sa W W W<|sv W<|A2<|B2 ?_
 cases h
 exact A7 (.inr W) (B6 (B3 W) C1) (.refl _)
def K6 (p1:(List Int))(p2:Int)(p3:Int)(p4:Int)(p5:Int)(x1:Int):Option (Stp Int (Sum Unit Int)):=
  cond (decide (x1< (p1.length:Int))) ((B8 p1 x1).bind fun v1=>(Du v1 p2 p3 p4 p5).bind fun v2=>cond v2 (some (.out (.inr x1))) (some (.go (D2 (x1+1))))) (some (.out (.inl ())))
def I4 [Lp](p1:(List Int))(p2:Int)(p3:Int)(p4:Int)(p5:Int):Option Int:=
  thenS (loop (K6 p1 p2 p3 p4 p5) 0) (fun _=>some (-1)) (fun r=>some r)
theorem Dx(p1 p2 p3 p4 p5 r)(h:I4 p1 p2 p3 p4 p5=some r):PCall prog 254 [(.list (List.map A4 p1)),(.fn (.func 225) [] [(.bp [(i64 p2)] 0),(.bp [(i64 p3)] 0),(.bp [(i64 p4)] 0),(.bp [(i64 p5)] 0)])] (i64 r):=by
 refine C3 (fk func254 ntmps254 m0 (by with_unfolding_all rfl)) (nl W) ?_
 unfold I4 at h
 refine B4 (s0:=⟨T [(0,(.d _)),(1,(.d _))],G []⟩) (G9 W W) ?_
 refine B1<|sv W<|A2<|A6<|B1<|sv W<|sd W (E8 W)<|sv W<|A2<|js h fun z1 hz1 h=>E7 (fun s=> ∃(y1:Unit) (g1:Unit),z1= .inl y1∧Sb ⟨T [],G []⟩ s) ?_ ?_
 refine A8<|G6 (K6 p1 p2 p3 p4 p5) (fun (x1:Int) (g2:Unit)=>⟨T [(0,(dl A4 p1)),(1,(.d (.fn (.func 225) [] [(.bp [(i64 p2)] 0),(.bp [(i64 p3)] 0),(.bp [(i64 p4)] 0),(.bp [(i64 p5)] 0)]))),(7,(di (p1.length:Int))),(8,(di x1))],G []⟩) 0 () _ hz1 (G9 W W) ?_
 intro x1 g2 z2 hz2 ez2
 unfold K6 at hz2
 refine B1<|sv W<|A2<|A6<|cc W hz2 (fun c1 hz2=> ?_)<|fun c1 hz2=> ?_
 refine A9<|A6<|A8<|B1<|sv W<|sv W<|A2<|B1<|sv W<|sv W<|sv W<|bs hz2 fun _ hv1 hz2=>sd W (E2 W W hv1 W)<|sd W (H5 W hv1 W)<|bs hz2 fun _ hv2 hz2=>B0 W W A3 (Rw _ _ _ _ _ _ hv2) (.inl W) (A2<|cc W hz2 (fun c2 hz2=> ?_)<|fun c2 hz2=> ?_)
 refine B1<|sv W<|sv W<|A2<|B2 ?_
 cases hz2
 obtain rfl:=ez2 _ rfl
 refine ⟨nofun,H4 ?_⟩
 rw [wE]at h
 cases h
 exact A7 (.inr W) (B6 (B3 W) C1) (.refl _)
 refine A9<|F9<|C6<|sv W<|sv W<|A2<|G5 ?_
 cases hz2
 exact ⟨W,(),(G9 W W)⟩
 refine D5 W ?_
 cases hz2
 obtain rfl:=ez2 _ rfl
 refine ⟨nofun,D4 W<|X2 ?_⟩
 exact ⟨_,(),W,(G9 W W)⟩
 rintro _ ⟨y1,g1,rfl,q1⟩
 rw [wD]at h
 refine B4 q1<|B1<|sv W<|A2<|B2 ?_
 cases h
 exact A7 (.inr W) (B6 (B3 W) C1) (.refl _)
def G7 [Lp](p1:(List Int))(p2:Int)(p3:Int)(p4:Int)(p5:Int):Option Bool:=
  (I4 p1 p2 p3 p4 p5).bind fun v1=>some (decide (v1≥0))
theorem Cn(p1 p2 p3 p4 p5 r)(h:G7 p1 p2 p3 p4 p5=some r):PCall prog 224 [(.list (List.map A4 p1)),(.fn (.func 225) [] [(.bp [(i64 p2)] 0),(.bp [(i64 p3)] 0),(.bp [(i64 p4)] 0),(.bp [(i64 p5)] 0)])] (bo r):=by
 refine C3 (fk func224 ntmps224 m0 (by with_unfolding_all rfl)) (nl W) ?_
 unfold G7 at h
 refine B4 (s0:=⟨T [(0,(.d _)),(1,(.d _))],G []⟩) (G9 W W) ?_
 refine B1<|sv W<|A2<|B1<|sv W<|sv W<|bs h fun _ hv1 h=>B0 W W A3 (Dx _ _ _ _ _ _ hv1) (.inl W) (sv W<|sv W<|A2<|B2 ?_)
 cases h
 exact A7 (.inr W) (B6 (B3 W) C1) (.refl _)
def Gx [Lp](p1:(List Int))(p2:Int)(p3:Int)(p4:Int)(p5:Int):Option Bool:=
  (G7 p1 p2 p3 p5 p4).bind fun v1=>some (!v1)
theorem HZ(p1 p2 p3 p4 p5 r)(h:Gx p1 p2 p3 p4 p5=some r):PCall prog 181 [(.list (List.map A4 p1)),(i64 p2),(i64 p3),(i64 p4),(i64 p5)] (bo r):=by
 refine C3 (fk func181 ntmps181 m0 (by with_unfolding_all rfl)) (nl W) ?_
 unfold Gx at h
 refine B4 (s0:=⟨T [(0,(.d _)),(1,(.d _)),(2,(.d _)),(3,(.d _)),(4,(.d _))],G []⟩) (G9 W W) ?_
 refine B1<|sm W<|sn W W<|sm W<|sn W W<|sv W<|A2<|B1<|sv W<|C0 (.fn _ _ _) W W (bs h fun v1 hv1 h=>B0 W (rD<|E3 (Yq G2<|E3 (An (gq W)<|rD G2)<|E3 (An (gq W)<|rD G2)<|E3 (An G_hit<|rD G2)<|E3 (An (gq W)<|rD G2) G2) G2) A3 (Cn _ _ _ _ _ _ hv1) (.inr W) (C0 (.d (bo (!v1))) W W (sv W<|A2<|B2 ?_)))
 cases h
 exact A7 (.inr W) (B6 (B3 W) C1) (.refl _)
def V8 [Lp](p2:Agent)(v1:(Int×Int))(v3:(Int×Int×Int))(v5:(List Int))(x1:Int):Option (Stp Int Int):=
  ((cond (decide (x1>(D2 (0 - v3.2.2)))) (Y3 x1 p2 v3.1) (some default))).bind fun v6=>((cond (decide (x1>(D2 (0 - v3.2.2)))) (Gx v5 v1.2 p2.V v6 v3.2.2) (some default))).bind fun v7=>cond ((decide (x1>(D2 (0 - v3.2.2))))&& (!v7)) (some (.go (D2 (x1 - 1)))) (some (.out x1))
def Fm [Lp](p1:Map)(p2:Agent)(p3:Int)(p4:Int):Option Agent:=
  (Hc p1 p2).bind fun v1=>(B8 p1.Lanes v1.1).bind fun v2=>(Er v2.Kind).bind fun v3=>((cond p2.Obey (Bb p1 v1.1) (some default))).bind fun v4=>(cond (p2.Obey&& (decide (v1.2≤v4))) ((Ef p1 v1.1 p3).bind fun v5=>(loop (V8 p2 v1 v3 v5) (Ln true (D2 (0 - v3.2.2)) (Ln false p4 v3.2.1))).bind fun y2=>some y2) (some (Ln true (D2 (0 - v3.2.2)) (Ln false p4 v3.2.1)))).bind fun y1=>(Y3 y1 p2 v3.1).bind fun v8=>(Fj p1 (Agent.mk p2.Route (D2 (p2.S+v8)) v8 p2.Len p2.Begin p2.Obey p2.Gone)).bind fun v9=>some (Agent.mk p2.Route (D2 (p2.S+v8)) v8 p2.Len p2.Begin p2.Obey v9)
theorem KB(p1 p2 p3 p4 r)(h:Fm p1 p2 p3 p4=some r):PCall prog 88 [(.agg (V1 p1)),(.agg (E5 p2)),(i64 p3),(i64 p4)] (.agg (E5 r)):=by
 refine C3 (fk func88 ntmps88 m0 (by with_unfolding_all rfl)) (nl W) ?_
 unfold Fm at h
 refine B4 (s0:=⟨T [(0,(.d _)),(1,(.d _)),(2,(.d _)),(3,(.d _))],G []⟩) (G9 W W) ?_
 refine lr<|fun u1 _=>sm W<|sm W<|sn W W<|A2<|B1<|sd W (B7 W (gq W) W W)<|sd W (B7 W (gq W) W W)<|bs h fun v1 hv1 h=>B0 W W A3 (Yx _ _ _ hv1) (.inl W) (sv W<|sv W<|sv W<|sv W<|sv W<|A2<|lr<|fun u3 _=>sq W<|sl W (gq W) W (sv W<|bs h fun _ hv2 h=>sd W (E2 W W hv2 W)<|sv W<|sd W (H5 W hv2 W)<|bs h fun v3 hv3 h=>B0 W W A3 (Ko _ _ hv3) (.inl W) (sv W<|sv W<|sv W<|sv W<|sm W<|V5 W G_hit [(di v3.1)] W (sv W<|sv W<|A2<|B1<|C0 (.fn _ _ _) W W (C0 (.fn _ _ _) W W (A2<|B1<|sv W<|C0 (di<|D2 (0 - v3.2.2)) W W (sv W<|sv W<|sv W<|sv W<|sv W<|A2<|A6<|B1<|sq W<|sl W (gq W) W (sv W<|gt W (fun _=>W) ?_))))))))
 refine gt W (fun _=>(B7 W (gq W) W W))<|gt W (fun _=>W)<|bs h fun v4 hv4 h=> ?_
 refine P3 p2.Obey (i64 v4) (O5 W) (fun w4=>⟨_,[(.d (.agg (V1 p1))),(di v1.1)],_,_,(by simp only [A5 w4];rfl),W,A3,Oi _ _ _<|D3 w4 hv4,(.inl W)⟩) ?_
 refine gt W (fun w5=>(S9 (A5 w5) (A5 w5) W))<|sa W W W<|A2<|bs h fun y1 hy1 h=>E7 (fun s=> ∃g1:Unit,Sb ⟨T [(3,(di y1)),(4,(.ptr (4,u1) 0)),(5,(.ptr (5,u1) 0)),(8,(.ptr (8,u1) 0)),(14,(.fn (.func 179) [] [(.ptr (5,u1) 0),(.ptr (11,u3) 0)]))],G [((4,u1),some<|.box 33 (N4 p1)),((5,u1),some<|.box 45 (X5 p2)),((8,u1),some<|.box 45 ([(.d .nilS)]++ (zs 4)++ [(.d (bo false)),(.d (bo false))])),((11,u3),some<|.box 2 [(di v3.1)])]⟩ s) ?_ ?_
 refine cc W hy1 (fun c1 hy1=> ?_)<|fun c1 hy1=> ?_
 refine B1<|sd W (B7 W (gq W) W W)<|sv W<|sv W<|bs hy1 fun v5 hv5 hy1=>B0 W W A3 (NM _ _ _ _ hv5) (.inl W) (sv W<|A2<|bs hy1 fun y2 hy2 hy1=>E7 (fun s=> ∃g2:Unit,Sb ⟨T [(3,(di y2)),(4,(.ptr (4,u1) 0)),(5,(.ptr (5,u1) 0)),(8,(.ptr (8,u1) 0)),(14,(.fn (.func 179) [] [(.ptr (5,u1) 0),(.ptr (11,u3) 0)]))],G [((4,u1),some<|.box 33 (N4 p1)),((5,u1),some<|.box 45 (X5 p2)),((8,u1),some<|.box 45 ([(.d .nilS)]++ (zs 4)++ [(.d (bo false)),(.d (bo false))])),((11,u3),some<|.box 2 [(di v3.1)])]⟩ s) ?_ ?_)
 refine A8<|G6 (V8 p2 v1 v3 v5) (fun (x1:Int) (g3:Unit)=>⟨T [(3,(di x1)),(4,(.ptr (4,u1) 0)),(5,(.ptr (5,u1) 0)),(8,(.ptr (8,u1) 0)),(10,(di v1.2)),(13,(di v3.2.2)),(14,(.fn (.func 179) [] [(.ptr (5,u1) 0),(.ptr (11,u3) 0)])),(15,(dl A4 v5))],G [((4,u1),some<|.box 33 (N4 p1)),((5,u1),some<|.box 45 (X5 p2)),((8,u1),some<|.box 45 ([(.d .nilS)]++ (zs 4)++ [(.d (bo false)),(.d (bo false))])),((11,u3),some<|.box 2 [(di v3.1)])]⟩) (Ln true (D2 (0 - v3.2.2))<|Ln false p4 v3.2.1) () _ hy2 (G9 W W) ?_
 intro x1 g3 z1 hz1 ez1
 unfold V8 at hz1
 refine A6<|A6<|J0 W<|sv W<|sv W<|C0 (di<|D2 (0 - v3.2.2)) W W (sv W<|sv W<|gt W (fun _=>W)<|gt W (fun _=>W)<|gp W (O5 W) (fun _=>W) (gt W (vl W (gq W) W)<|U8 _ (.fn _ _ _) W (O5 W) (fun _=>W) (gt W (fun _=>W)<|bs hz1 fun v6 hv6 hz1=> ?_)))
 refine P3 _ (i64 v6) (O5 W) (fun w12=>⟨_,[(di x1),(.ptr (5,u1) 0),(.ptr (11,u3) 0)],_,_,(by simp only [A5 w12];rfl),(rD<|E3 (An (gq W)<|rD<|rD<|rD<|rD<|rD<|rD<|rD G2)<|E3 (An (gq W)<|rD G2) G2),A3,Ov _ _ _ _<|D3 w12 hv6,(.inr W)⟩) ?_
 refine gt W (fun _=>W)<|bs hz1 fun v7 hv7 hz1=> ?_
 refine P3 _ (bo v7) (O5 W) (fun w14=>⟨_,[(dl A4 v5),(di v1.2),(di p2.V),(di v6),(di v3.2.2)],_,_,(by simp only [A5 w14];rfl),W,A3,HZ _ _ _ _ _ _<|D3 w14 hv7,(.inl W)⟩) ?_
 refine U8 _ (.d (bo (!v7))) W (O5 W) (fun w15=>(by simp only [A5 w15];rfl)) ?_
 refine sa W W W<|A2<|cc W hz1 (fun c2 hz1=> ?_)<|fun c2 hz1=> ?_
 refine A9<|A8<|C6<|sv W<|sv W<|sv W<|A2<|F9<|G5 ?_
 cases hz1
 exact ⟨W,(),(G9 W W)⟩
 refine D5 W ?_
 cases hz1
 obtain rfl:=ez1 _ rfl
 refine ⟨nofun,D4 W<|X2 ?_⟩
 exact ⟨(),(G9 W W)⟩
 rintro _ ⟨g2,q1⟩
 obtain rfl:=(lD hy1)
 exact X2 ⟨(),(Sb.after q1<|G9 W W)⟩
 refine A9 ?_
 cases hy1
 exact X2 ⟨(),(G9 W W)⟩
 rintro _ ⟨g1,q2⟩
 refine B4 q2<|B1<|C0 (.fn _ _ _) W W (sv W<|bs h fun v8 hv8 h=>B0 W (rD<|E3 (An (gq W)<|rD<|rD<|rD<|rD<|rD<|rD<|rD G2)<|E3 (An (gq W)<|rD G2) G2) A3 (Ov _ _ _ _ hv8) (.inr W) (sq W<|V5 W (gq W) ((X5 p2).set 2 (di v8)) W (A2<|B1<|sq W<|sl W G_hit W<|sq W<|sl W G_hit W<|sv W<|sq W<|V5 W G_hit (((X5 p2).set 1 (di<|D2 (p2.S+v8))).set 2 (di v8)) W (A2<|B1<|sd W (B7 W (gq W) W W)<|sd W (B7 W G_hit W W)<|bs h fun v9 hv9 h=>B0 W W A3 (Yy _ _ _ hv9) (.inl W) (sq W<|V5 W G_hit ((((X5 p2).set 1 (di<|D2 (p2.S+v8))).set 2 (di v8)).set 6 (.d (bo v9))) W (A2<|B1<|sd W (B7 W G_hit W W)<|V5 W (gq W) ((((X5 p2).set 1 (di<|D2 (p2.S+v8))).set 2 (di v8)).set 6 (.d (bo v9))) W (A2<|B2 ?_)))))))
 cases h
 exact A7 (.inr W) (B6 (M1 W G_hit (nl W) W) C1) (.refl _)
def Jb [Lp](p1:Map)(p2:State)(p3:Int)(p4:Int):Option Agent:=
  cond ((decide (p3<0))||(decide (p3≥(p2.Agents.length:Int)))) (some (Agent.mk [] 0 0 0 0 false false)) ((B8 p2.Agents p3).bind fun v1=>(Dk v1).bind fun v2=>(Gu p2 p3).bind fun v3=>((cond (!(!v3)) (Ct p1 p2) (some default))).bind fun v4=>cond ((!v3)||(v4 !=0)) (some v2) ((Fm p1 v2 p2.Tick p4).bind fun v5=>some v5))
theorem KC(p1 p2 p3 p4 r)(h:Jb p1 p2 p3 p4=some r):PCall prog 29 [(.agg (V1 p1)),(.agg (Ku p2)),(i64 p3),(i64 p4)] (.agg (E5 r)):=by
 refine C3 (fk func29 ntmps29 m0 (by with_unfolding_all rfl)) (nl W) ?_
 unfold Jb at h
 refine B4 (s0:=⟨T [(0,(.d _)),(1,(.d _)),(2,(.d _)),(3,(.d _))],G []⟩) (G9 W W) ?_
 refine B1<|sm W<|sn W W<|sm W<|A2<|A6<|B1<|sv W<|sv W<|sv W<|gf W (fun _=>W)<|gp W (N5 W) (fun _=>W) (gf W (vl W (gq W) W)<|gf W (fun w4=>(E8<|A5 w4))<|gf W (fun w5=>(S9 (A5 w5) (A5 w5) W))<|sd W (T5 W W<|fun hc=>A5<|M7 hc)<|A2<|cc W h (fun c1 h=> ?_)<|fun c1 h=> ?_)
 refine B1<|sv W<|V5 W G_hit ([(.d .nilS)]++ (zs 4)++ [(.d (bo false)),(.d (bo false))]) W (A2<|B2 ?_)
 cases h
 exact A7 (.inr W) (B6 (M1 W G_hit (nl W) W) C1) (.agg (.cons ⟨DLe.nil,W⟩ (cz W)))
 refine A9<|B1<|sq W<|sl W (gq W) W (sv W<|bs h fun _ hv1 h=>sd W (E2 W W hv1 W)<|sd W (E4 W hv1 W W)<|bs h fun v2 hv2 h=>B0 W W A3 (Lz _ _ hv2) (.inl W) (sm W<|V5 W G_hit (X5 v2) W (A2<|A6<|B1<|sd W (B7 W (gq W) W W)<|sv W<|bs h fun v3 hv3 h=>B0 W W A3 (Ma _ _ _ hv3) (.inl W) (C0 (.d (bo (!v3))) W W (sv W<|gf W (fun _=>(B7 W (gq W) W W))<|gf W (fun _=>(B7 W (gq W) W W))<|bs h fun v4 hv4 h=> ?_)))))
 refine P3 _ (i64 v4) (N5 W) (fun w8=>⟨_,[(.d (.agg (V1 p1))),(.d (.agg (Ku p2)))],_,_,(by simp only [A5 w8];rfl),W,A3,Py _ _ _<|D3 w8 hv4,(.inl W)⟩) ?_
 refine gf W (vb W W W)<|sd W (T5 W W<|fun hc=>A5<|M7 hc)<|A2<|cc W h (fun c2 h=> ?_)<|fun c2 h=> ?_
 refine B1<|sd W (B7 W G_hit W W)<|V5 W (gq W) (X5 v2) W (A2<|B2 ?_)
 cases h
 exact A7 (.inr W) (B6 (M1 W G_hit (nl W) W) C1) (.refl _)
 refine A9<|B1<|sd W (B7 W (gq W) W W)<|sd W (B7 W G_hit W W)<|sq W<|sl W (gq W) W (sv W<|bs h fun v5 hv5 h=>B0 W W A3 (KB _ _ _ _ _ hv5) (.inl W) (V5 W (gq W) (X5 v5) W (A2<|B2 ?_)))
 cases h
 exact A7 (.inr W) (B6 (M1 W G_hit (nl W) W) C1) (.refl _)
theorem Qa(p1 r)(h:Z1 p1=some r):MCall prog 121 [.d (.list (List.map K7 p1))] [] (oE r (800000,0)) [] [oB 127 4 K7 r]:=by
  cases p1 with
  |nil=>
   have hr:r= []:=by obtain ⟨_,rfl⟩:=Na h;rfl
   subst hr
   exact MCall.ofP<|Ju [] [] h
  |cons x xs=>
  have hr:Bj ([]:List Stay) (x::xs)=some r:=h
  have e:=(Na hr).2
  rw [lQ]at e
  rw [mK (Aj hr),iL (Aj hr)]
  refine VG (fk func121 ntmps121 m0 (by with_unfolding_all rfl)) W (Nat.le_of_ble_eq_true W) ?_
  refine (B4 (s0:=⟨T [(0, .d (.list (List.map K7 (x::xs))))],G []⟩) (F6 ⟨.of W,trivial⟩ trivial) ?_)
  refine A6 ?_
  refine Cd fun _ _=> ?_
  refine C0 (.d .nilS) W W ?_
  refine A2 ?_
  refine A6 ?_
  refine A6 ?_
  refine Cd fun _ _=> ?_
  refine C0 (.d (.list (List.map K7 (x::xs)))) W W ?_
  refine C0 (.d (bo false)) W W ?_
  refine A2 ?_
  refine Qy W ?_
  refine A9 ?_
  refine A6 ?_
  refine Cd fun u3 _=> ?_
  refine Ms (.sl _) (.arr 127 4 (List.map K7 ([]:List Stay))) W W ?_
  refine C0 (.d (.list (List.map K7 (x::xs)))) W W ?_
  refine BQ K7 _ [] (x::xs) _ (P0<|fun _=>W) W G_hit hr ?_
  refine C0 (.sl _) W W ?_
  refine A2 ?_
  refine B2 ?_
  exact iQ (v1:= .sl (7,u3)) (.inr W) (VF<|B3 W) (.of W) [((7,u3),some<|.arr 127 4 (List.map K7 r))] (B5 G_hit (.of W) trivial) (cB [(7,u3)] W trivial ⟨G_hit,trivial⟩ W (by simp only [lU,List.not_mem_nil,or_false,forall_eq];exact fun i=>cA rfl i) nd1)
def Ni (p1:State)(x1:(Int×State)):Option (Stp (Int×State) State):=
  cond (decide (x1.1< (p1.Agents.length:Int))) ((B8 p1.Agents x1.1).bind fun v2=>(Dk v2).bind fun v3=>(Bj x1.2.Agents [v3]).bind fun v4=>some (.go ((D2 (x1.1+1)),(State.mk x1.2.Tick v4 x1.2.In)))) (some (.out x1.2))
def Fo [Lp](p1:State):Option State:=
  (Z1 p1.In).bind fun v1=>(loop (Ni p1) (0,(State.mk p1.Tick [] v1))).bind fun y1=>some y1
theorem DP(p1 r)(h:Fo p1=some r):MCall prog 56 [(.d (.agg (Ku p1)))] [] (Ak [(di r.Tick),(oS r.Agents (800000,0)),(oE r.In (800001,0))]) [] [oB 45 7 E5 r.Agents,oB 127 4 K7 r.In]:=by
 refine VG (fk func56 ntmps56 (fun r=>if r==1 then [1001004]else if r==5 then [1004]else []) (by with_unfolding_all rfl)) (by generalize r.Agents=x1;generalize r.In=x2;cases x1<;>cases x2<;>rfl) (nl W) ?_
 unfold Fo at h
 refine B4 (s0:=⟨T [(0,(.d _))],G []⟩) (G9 W W) ?_
 refine lr<|fun u1 _=>sm W<|sm W<|A2<|A6<|FY fun u2 _=>Em (.ptr _ _) W W (Em (.d _) W (U5 W (gq W) W) (Em (.ptr _ _) W W (Em (.d _) W (U5 W (gq W) W) (bs h fun v1 hv1 h=> ?_))))
 refine mH (v:=oE v1 (10010040,u2)) (us:= [(10010040,u2)]) (iR (Qa _ _ hv1) [] [] _ (((10010040,u2),oB 127 4 K7 v1)::_) W Ls W Iq trivial (fun _ h=>h) List.nodup_nil (by generalize v1=x1;cases x1<;>rfl) W (TA (W)) W) ?_
 refine Em (Ak [(di p1.Tick),(.d .nilS),(oE v1 (10010040,u2))]) W (by generalize v1=x1;cases x1<;>rfl) ?_
 refine iO (.ptr _ _) (.box _ _) W W (UZ _ _ _ _ _ (Aw _) W W G_hit (nl W) [(di p1.Tick),(.d .nilS),(oE v1 (10010040,u2))] W (UY ⟨W,?_⟩))
 refine A6<|B1<|sq W<|sl W (gq W) W (sd W (E8 W)<|sv W<|A2<|bs h fun y1 hy1 h=>E7 (fun s=> ∃g1:(Nat×Nat),Sb ⟨T [(2,(.ptr (2,u1) 0)),(3,(.ptr (3,u2) 0))],G [((2,u1),some<|.box 25 [(di 0),(.d .nilS),(.d .nilS)]),((3,u2),some<|.box 25 [(di y1.Tick),(oS y1.Agents (24,g1.1)),(oE y1.In (10010040,g1.2))]),((24,g1.1),oB 45 7 E5 y1.Agents),((10010040,g1.2),oB 127 4 K7 y1.In)]⟩ s) ?_ ?_)
 refine A8<|G6 (Ni p1) (fun (x1:(Int×State)) (g2:(Nat×Nat))=>⟨T [(2,(.ptr (2,u1) 0)),(3,(.ptr (3,u2) 0)),(13,(dl E5 p1.Agents)),(14,(di (p1.Agents.length:Int))),(15,(di x1.1))],G [((2,u1),some<|.box 25 [(di 0),(.d .nilS),(.d .nilS)]),((3,u2),some<|.box 25 [(di x1.2.Tick),(oS x1.2.Agents (24,g2.1)),(oE x1.2.In (10010040,g2.2))]),((24,g2.1),oB 45 7 E5 x1.2.Agents),((10010040,g2.2),oB 127 4 K7 x1.2.In)]⟩) (0,(State.mk p1.Tick [] v1)) (0,u2) _ hy1 (F6 (Dv W)<|sg W<|B5 G_hit (.of W)<|T8<|C2 (gq W) trivial) ?_
 intro x1 g2 z1 hz1 ez1
 unfold Ni at hz1
 refine B1<|sv W<|A2<|A6<|cc W hz1 (fun c1 hz1=> ?_)<|fun c1 hz1=> ?_
 refine A9<|A6<|A8<|B1<|bs hz1 fun v2 hv2 hz1=>sd W (E2 W W hv2 W)<|sd W (E4 W hv2 W W)<|sm W<|V5 W G_hit (X5 v2) W (A2<|Mz W fun u6 _=>sq W<|C0 (oS x1.2.Agents (24,g2.1)) W (U5 W (gq W) W) (sd W (B7 W G_hit W W)<|bs hz1 fun v3 hv3 hz1=>B0 W W A3 (Lz _ _ hv3) (.inl W) (C0 (dl E5 [v3]) W W (bs hz1 fun _ hv4 hz1=>U7 E5 (24,g2.1) x1.2.Agents v3 [] _ (P0<|fun _=>W) W (gq W) hv4 (sq W<|V5 W (gq W) [(di x1.2.Tick),(.sl (24,u6)),(oE x1.2.In (10010040,g2.2))] W (A2<|F9<|C6<|sv W<|sv W<|A2<|G5 ?_))))))
 cases hz1
 exact ⟨W,(u6,g2.2),(F6 (Dv W)<|sg W<|B5 G_hit (.box (cv<|.cons (.of (X1<|Aj hv4).symm) cw))<|O8 (gq W)<|C2 (gq W) trivial)⟩
 refine D5 W ?_
 cases hz1
 obtain rfl:=ez1 _ rfl
 refine ⟨nofun,D4 W<|X2 ?_⟩
 exact ⟨(g2.1,g2.2),(F6 (Dv W)<|B5 G_hit (.of W)<|sg W<|C2 (gq W)<|C2 (gq W) trivial)⟩
 rintro _ ⟨g1,q1⟩
 refine B4 q1<|B1<|C0 (Ak [(di y1.Tick),(oS y1.Agents (24,g1.1)),(oE y1.In (10010040,g1.2))]) W (B7 W (gq W) W W) (Nn _ _ _ _ _ (Aw _) W W G_hit (nl W) [(di y1.Tick),(oS y1.Agents (24,g1.1)),(oE y1.In (10010040,g1.2))] W (A2<|B2 ?_))
 obtain rfl:=(lD h)
 exact iQ (v1:=(Ak [(di y1.Tick),(oS y1.Agents (24,g1.1)),(oE y1.In (10010040,g1.2))])) (.inr W) (VF<|M1 W G_hit (Nat.le_of_ble_eq_true W) W) (.of W) [((24,g1.1),oB 45 7 E5 y1.Agents),((10010040,g1.2),oB 127 4 K7 y1.In)] (C2 (gq W)<|C2 (gq W) trivial) (fR [(24,g1.1),(10010040,g1.2)] (by generalize y1.Agents=x1;generalize y1.In=x2;cases x1<;>cases x2<;>rfl) trivial ⟨(G_hit).trans oB_ren.symm,((gq W)).trans oB_ren.symm,trivial⟩ W (List.forall_mem_cons.2 ⟨fun i hi=>VH W hi,(List.forall_mem_cons.2 ⟨fun i hi=>VH W hi,(fun _ h=>nomatch h)⟩)⟩) (mJ<|jX W))
def R6 [Lp](p1:WorldScene)(p2:Int)(p3:Int):Option (Int×Bool):=
  (B8 p1.before.Agents p2).bind fun v1=>(Q6 v1.Route p3).bind fun v2=>cond (decide (v2<0)) (some (0,false)) ((Az p1.m v1.Route).bind fun v3=>(B8 v3 v2).bind fun v4=>some (v4,true))
theorem Mg(p1 p2 p3 r)(h:R6 p1 p2 p3=some r):PCall prog 227 [(.bp (Nv p1) 0),(i64 p2),(i64 p3)] (.tup [(i64 r.1),(bo r.2)]):=by
 refine C3 (fk func227 ntmps227 m0 (by with_unfolding_all rfl)) (nl W) ?_
 unfold R6 at h
 refine B4 (s0:=⟨T [(0,(.d _)),(1,(.d _)),(2,(.d _))],G []⟩) (G9 W W) ?_
 refine B1<|sv W<|sv W<|A2<|B1<|sv W<|sv W<|sv W<|sv W<|sv W<|sv W<|bs h fun _ hv1 h=>sd W (E2 W W hv1 W)<|sv W<|sd W (H5 W hv1 W)<|sv W<|A2<|B1<|sv W<|sv W<|bs h fun _ hv2 h=>B0 W W A3 (Lf _ _ _ hv2) (.inl W) (sv W<|A2<|A6<|B1<|sv W<|sv W<|A2<|cc W h (fun c1 h=> ?_)<|fun c1 h=> ?_)
 refine B1<|sv W<|sv W<|A2<|B2 ?_
 cases h
 exact A7 (.inr W) (Sg (B3 W) (B3 W) C1 C1) (.refl _)
 refine A9<|B1<|sv W<|sv W<|sv W<|sv W<|sv W<|bs h fun _ hv3 h=>B0 W W A3 (Oh _ _ _ hv3) (.inl W) (sv W<|bs h fun _ hv4 h=>sd W (E2 W W hv4 W)<|sd W (H5 W hv4 W)<|sv W<|sv W<|A2<|B2 ?_)
 cases h
 exact A7 (.inr W) (Sg (B3 W) (B3 W) C1 C1) (.refl _)
def S7 [Lp](p1:WorldScene)(p2:Int)(p3:Int):Option Stay:=
  (C7 p1.after.In (Stay.mk p2 p3 0 0)).bind fun v1=>(B8 p1.after.In v1.1).bind fun v2=>some v2
theorem Mt(p1 p2 p3 r)(h:S7 p1 p2 p3=some r):PCall prog 228 [(.bp (Nv p1) 0),(i64 p2),(i64 p3)] (.agg (K7 r)):=by
 refine C3 (fk func228 ntmps228 m0 (by with_unfolding_all rfl)) (nl W) ?_
 unfold S7 at h
 refine B4 (s0:=⟨T [(0,(.d _)),(1,(.d _)),(2,(.d _))],G []⟩) (G9 W W) ?_
 refine B1<|sm W<|A2<|B1<|sv W<|sv W<|sv W<|sv W<|sv W<|sv W<|sv W<|sv W<|bs h fun _ hv1 h=>B0 W W A3 (O1 _ _ _ hv1) (.inl W) (sv W<|sv W<|sv W<|sv W<|sv W<|A2<|B1<|sv W<|sv W<|sv W<|sv W<|sv W<|sv W<|bs h fun v2 hv2 h=>sd W (E2 W W hv2 W)<|sd W (E4 W hv2 W W)<|V5 W G_hit (Ys v2) W (A2<|B2 ?_))
 cases h
 exact A7 (.inr W) (B6 (M1 W G_hit (nl W) W) C1) (.refl _)
end
end Go.Abs.World
