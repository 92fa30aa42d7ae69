/-
  The functions, part 3.
-/
import Derived.Test.YtgjdiioennhoeaaGreatFns2
set_option maxRecDepth 20000
set_option maxHeartbeats 4000000
set_option linter.unusedVariables false
namespace Go.Abs.World
noncomputable section
open Go Go.Abs Go.Proofs Tryz
attribute [local irreducible] K1 Di Z9
def Ev (p1:Int)(p2:Int)(p3:Int)(p4:Int)(p5:Int):Option Bool:=
  ((cond (decide (p1>p2)) (Nq p3 p4) (some default))).bind fun v1=>((cond ((decide (p1>p2))&& (decide ((J6 (p2+v1))<p1))) (Nq p5 p4) (some default))).bind fun v2=>some (((decide (p1>p2))&& (decide ((J6 (p2+v1))<p1)))&& (decide ((J6 ((J6 (p2+p5))+v2))≥p1)))
theorem Pf(p1 p2 p3 p4 p5 r)(h:Ev p1 p2 p3 p4 p5=some r):PCall prog 225 [(i64 p1),(.bp [(i64 p2)] 0),(.bp [(i64 p3)] 0),(.bp [(i64 p4)] 0),(.bp [(i64 p5)] 0)] (bo r):=by
 refine C7 (fk func225 ntmps225 m0 (by with_unfolding_all rfl)) (nl W) ?_
 unfold Ev at h
 refine B6 (s0:=⟨T [(0,(.d _)),(1,(.d _)),(2,(.d _)),(3,(.d _)),(4,(.d _))],G []⟩) (G0 W W) ?_
 refine B3<|sv W<|A1<|A6<|K6 W<|sv W<|sv W<|sv W<|sv W<|gt W (fun _=>W)<|gt W (fun _=>W)<|gt W (fun _=>W)<|bs h fun v1 hv1 h=> ?_
 refine N8 _ (i64 v1) (M4 W) (fun w4=>⟨_,[(di p3),(di p4)],_,_,(by simp only [A5 w4];rfl),W,A3,Pe _ _ _<|D8 w4 hv1,(.inl W)⟩) ?_
 refine gt W (fun w5=>(R1 (A5 w5) (A5 w5) W))<|gt W (fun _=>W)<|gt W (fun w7=>(R1 (A5 w7) (A5 w7) W))<|sa W W W<|sv W<|gt W (fun _=>W)<|gt W (fun _=>W)<|gt W (fun w10=>(R1 (A5 w10) (A5 w10) W))<|gt W (fun _=>W)<|gt W (fun _=>W)<|bs h fun v2 hv2 h=> ?_
 refine N8 _ (i64 v2) (M4 W) (fun w13=>⟨_,[(di p5),(di p4)],_,_,(by simp only [A5 w13];rfl),W,A3,Pe _ _ _<|D8 w13 hv2,(.inl W)⟩) ?_
 refine gt W (fun w14=>(R1 (A5 w14) (A5 w14) W))<|gt W (fun _=>W)<|gt W (fun w16=>(R1 (A5 w16) (A5 w16) W))<|sa W W W<|sv W<|A1<|B7 ?_
 cases h
 exact A9 (.inr W) (C0 (B8 W) C6) (.refl _)
def O5 (p1:(List Int))(p2:Int)(p3:Int)(p4:Int)(p5:Int)(x1:Int):Option (Stp Int (Sum Unit Int)):=
  cond (decide (x1< (p1.length:Int))) ((F2 p1 x1).bind fun v1=>(Ev v1 p2 p3 p4 p5).bind fun v2=>cond v2 (some (.out (.inr x1))) (some (.go (J6 (x1+1))))) (some (.out (.inl ())))
def I3 [Lp](p1:(List Int))(p2:Int)(p3:Int)(p4:Int)(p5:Int):Option Int:=
  thenS (loop (O5 p1 p2 p3 p4 p5) 0) (fun _=>some (-1)) (fun r=>some r)
theorem Bb(p1 p2 p3 p4 p5 r)(h:I3 p1 p2 p3 p4 p5=some r):PCall prog 254 [(.list (List.map A4 p1)),(.fn (.func 225) [] [(.bp [(i64 p2)] 0),(.bp [(i64 p3)] 0),(.bp [(i64 p4)] 0),(.bp [(i64 p5)] 0)])] (i64 r):=by
 refine C7 (fk func254 ntmps254 m0 (by with_unfolding_all rfl)) (nl W) ?_
 unfold I3 at h
 refine B6 (s0:=⟨T [(0,(.d _)),(1,(.d _))],G []⟩) (G0 W W) ?_
 refine B3<|sv W<|A1<|A6<|B3<|sv W<|sd W (E3 W)<|sv W<|A1<|js h fun z1 hz1 h=>D3 (fun s=> ∃(y1:Unit) (g1:Unit),z1= .inl y1∧Sb ⟨T [],G []⟩ s) ?_ ?_
 refine A7<|D7 (O5 p1 p2 p3 p4 p5) (fun (x1:Int) (g2:Unit)=>⟨T [(0,(dl A4 p1)),(1,(.d (.fn (.func 225) [] [(.bp [(i64 p2)] 0),(.bp [(i64 p3)] 0),(.bp [(i64 p4)] 0),(.bp [(i64 p5)] 0)]))),(7,(di (p1.length:Int))),(8,(di x1))],G []⟩) 0 () _ hz1 (G0 W W) ?_
 intro x1 g2 z2 hz2 ez2
 unfold O5 at hz2
 refine B3<|sv W<|A1<|A6<|cc W hz2 (fun c1 hz2=> ?_)<|fun c1 hz2=> ?_
 refine B0<|A6<|A7<|B3<|sv W<|sv W<|A1<|B3<|sv W<|sv W<|sv W<|bs hz2 fun _ hv1 hz2=>sd W (E7 W W hv1 W)<|sd W (H8 W hv1 W)<|bs hz2 fun _ hv2 hz2=>B9 W W A3 (Pf _ _ _ _ _ _ hv2) (.inl W) (A1<|cc W hz2 (fun c2 hz2=> ?_)<|fun c2 hz2=> ?_)
 refine B3<|sv W<|sv W<|A1<|B7 ?_
 cases hz2
 obtain rfl:=ez2 _ rfl
 refine ⟨nofun,G4 ?_⟩
 rw [bI]at h
 cases h
 exact A9 (.inr W) (C0 (B8 W) C6) (.refl _)
 refine B0<|E5<|C3<|sv W<|sv W<|A1<|E0 ?_
 cases hz2
 exact ⟨W,(),(G0 W W)⟩
 refine D1 W ?_
 cases hz2
 obtain rfl:=ez2 _ rfl
 refine ⟨nofun,C5 W<|U6 ?_⟩
 exact ⟨_,(),W,(G0 W W)⟩
 rintro _ ⟨y1,g1,rfl,q1⟩
 rw [bH]at h
 refine B6 q1<|B3<|sv W<|A1<|B7 ?_
 cases h
 exact A9 (.inr W) (C0 (B8 W) C6) (.refl _)
def G6 [Lp](p1:(List Int))(p2:Int)(p3:Int)(p4:Int)(p5:Int):Option Bool:=
  (I3 p1 p2 p3 p4 p5).bind fun v1=>some (decide (v1≥0))
theorem Ae(p1 p2 p3 p4 p5 r)(h:G6 p1 p2 p3 p4 p5=some r):PCall prog 224 [(.list (List.map A4 p1)),(.fn (.func 225) [] [(.bp [(i64 p2)] 0),(.bp [(i64 p3)] 0),(.bp [(i64 p4)] 0),(.bp [(i64 p5)] 0)])] (bo r):=by
 refine C7 (fk func224 ntmps224 m0 (by with_unfolding_all rfl)) (nl W) ?_
 unfold G6 at h
 refine B6 (s0:=⟨T [(0,(.d _)),(1,(.d _))],G []⟩) (G0 W W) ?_
 refine B3<|sv W<|A1<|B3<|sv W<|sv W<|bs h fun _ hv1 h=>B9 W W A3 (Bb _ _ _ _ _ _ hv1) (.inl W) (sv W<|sv W<|A1<|B7 ?_)
 cases h
 exact A9 (.inr W) (C0 (B8 W) C6) (.refl _)
def Il [Lp](p1:(List Int))(p2:Int)(p3:Int)(p4:Int)(p5:Int):Option Bool:=
  (G6 p1 p2 p3 p5 p4).bind fun v1=>some (!v1)
theorem BD(p1 p2 p3 p4 p5 r)(h:Il p1 p2 p3 p4 p5=some r):PCall prog 181 [(.list (List.map A4 p1)),(i64 p2),(i64 p3),(i64 p4),(i64 p5)] (bo r):=by
 refine C7 (fk func181 ntmps181 m0 (by with_unfolding_all rfl)) (nl W) ?_
 unfold Il at h
 refine B6 (s0:=⟨T [(0,(.d _)),(1,(.d _)),(2,(.d _)),(3,(.d _)),(4,(.d _))],G []⟩) (G0 W W) ?_
 refine B3<|sm W<|sn W W<|sm W<|sn W W<|sv W<|A1<|B3<|sv W<|C2 (.fn _ _ _) W W (bs h fun v1 hv1 h=>B9 W (rD<|D4 (Tz E4<|D4 (Y0 (gq W)<|rD E4)<|D4 (Y0 (gq W)<|rD E4)<|D4 (Y0 A2<|rD E4)<|D4 (Y0 (gq W)<|rD E4) E4) E4) A3 (Ae _ _ _ _ _ _ hv1) (.inr W) (C2 (.d (bo (!v1))) W W (sv W<|A1<|B7 ?_)))
 cases h
 exact A9 (.inr W) (C0 (B8 W) C6) (.refl _)
def Ek [Lp](p2:Agent)(v1:(Int×Int))(v3:(Int×Int×Int))(v5:(List Int))(x1:Int):Option (Stp Int Int):=
  ((cond (decide (x1>(J6 (0 - v3.2.2)))) (Gh x1 p2 v3.1) (some default))).bind fun v6=>((cond (decide (x1>(J6 (0 - v3.2.2)))) (Il v5 v1.2 p2.V v6 v3.2.2) (some default))).bind fun v7=>cond ((decide (x1>(J6 (0 - v3.2.2))))&& (!v7)) (some (.go (J6 (x1 - 1)))) (some (.out x1))
def Js [Lp](p1:Map)(p2:Agent)(p3:Int)(p4:Int):Option Agent:=
  (Hr p1 p2).bind fun v1=>(F2 p1.Lanes v1.1).bind fun v2=>(Fx v2.Kind).bind fun v3=>((cond p2.Obey (Ca p1 v1.1) (some default))).bind fun v4=>(cond (p2.Obey&& (decide (v1.2≤v4))) ((Mt p1 v1.1 p3).bind fun v5=>(loop (Ek p2 v1 v3 v5) (BT true (J6 (0 - v3.2.2)) (BT false p4 v3.2.1))).bind fun y2=>some y2) (some (BT true (J6 (0 - v3.2.2)) (BT false p4 v3.2.1)))).bind fun y1=>(Gh y1 p2 v3.1).bind fun v8=>(Ht p1 (Agent.mk p2.Route (J6 (p2.S+v8)) v8 p2.Len p2.Begin p2.Obey p2.Gone)).bind fun v9=>some (Agent.mk p2.Route (J6 (p2.S+v8)) v8 p2.Len p2.Begin p2.Obey v9)
theorem CH(p1 p2 p3 p4 r)(h:Js p1 p2 p3 p4=some r):PCall prog 88 [(.agg (Y6 p1)),(.agg (C4 p2)),(i64 p3),(i64 p4)] (.agg (C4 r)):=by
 refine C7 (fk func88 ntmps88 m0 (by with_unfolding_all rfl)) (nl W) ?_
 unfold Js at h
 refine B6 (s0:=⟨T [(0,(.d _)),(1,(.d _)),(2,(.d _)),(3,(.d _))],G []⟩) (G0 W W) ?_
 refine lr<|fun u1 _=>sm W<|sm W<|sn W W<|A1<|B3<|sd W (C1 W (gq W) W W)<|sd W (C1 W (gq W) W W)<|bs h fun v1 hv1 h=>B9 W W A3 (Uf _ _ _ hv1) (.inl W) (sv W<|sv W<|sv W<|sv W<|sv W<|A1<|lr<|fun u3 _=>sq W<|sl W (gq W) W (sv W<|bs h fun _ hv2 h=>sd W (E7 W W hv2 W)<|sv W<|sd W (H8 W hv2 W)<|bs h fun v3 hv3 h=>B9 W W A3 (Hl _ _ hv3) (.inl W) (sv W<|sv W<|sv W<|sv W<|sm W<|T6 W A2 [(di v3.1)] W (sv W<|sv W<|A1<|B3<|C2 (.fn _ _ _) W W (C2 (.fn _ _ _) W W (A1<|B3<|sv W<|C2 (di<|J6 (0 - v3.2.2)) W W (sv W<|sv W<|sv W<|sv W<|sv W<|A1<|A6<|B3<|sq W<|sl W (gq W) W (sv W<|gt W (fun _=>W) ?_))))))))
 refine gt W (fun _=>(C1 W (gq W) W W))<|gt W (fun _=>W)<|bs h fun v4 hv4 h=> ?_
 refine N8 p2.Obey (i64 v4) (M4 W) (fun w4=>⟨_,[(.d (.agg (Y6 p1))),(di v1.1)],_,_,(by simp only [A5 w4];rfl),W,A3,Li _ _ _<|D8 w4 hv4,(.inl W)⟩) ?_
 refine gt W (fun w5=>(R1 (A5 w5) (A5 w5) W))<|sa W W W<|A1<|bs h fun y1 hy1 h=>D3 (fun s=> ∃g1:Unit,Sb ⟨T [(3,(di y1)),(4,(.ptr (4,u1) 0)),(5,(.ptr (5,u1) 0)),(8,(.ptr (8,u1) 0)),(14,(.fn (.func 179) [] [(.ptr (5,u1) 0),(.ptr (11,u3) 0)]))],G [((4,u1),some<|.box 33 (Q9 p1)),((5,u1),some<|.box 45 (M5 p2)),((8,u1),some<|.box 45 ([(.d .nilS)]++ (zs 4)++ [(.d (bo false)),(.d (bo false))])),((11,u3),some<|.box 2 [(di v3.1)])]⟩ s) ?_ ?_
 refine cc W hy1 (fun c1 hy1=> ?_)<|fun c1 hy1=> ?_
 refine B3<|sd W (C1 W (gq W) W W)<|sv W<|sv W<|bs hy1 fun v5 hv5 hy1=>B9 W W A3 (FM _ _ _ _ hv5) (.inl W) (sv W<|A1<|bs hy1 fun y2 hy2 hy1=>D3 (fun s=> ∃g2:Unit,Sb ⟨T [(3,(di y2)),(4,(.ptr (4,u1) 0)),(5,(.ptr (5,u1) 0)),(8,(.ptr (8,u1) 0)),(14,(.fn (.func 179) [] [(.ptr (5,u1) 0),(.ptr (11,u3) 0)]))],G [((4,u1),some<|.box 33 (Q9 p1)),((5,u1),some<|.box 45 (M5 p2)),((8,u1),some<|.box 45 ([(.d .nilS)]++ (zs 4)++ [(.d (bo false)),(.d (bo false))])),((11,u3),some<|.box 2 [(di v3.1)])]⟩ s) ?_ ?_)
 refine A7<|D7 (Ek p2 v1 v3 v5) (fun (x1:Int) (g3:Unit)=>⟨T [(3,(di x1)),(4,(.ptr (4,u1) 0)),(5,(.ptr (5,u1) 0)),(8,(.ptr (8,u1) 0)),(10,(di v1.2)),(13,(di v3.2.2)),(14,(.fn (.func 179) [] [(.ptr (5,u1) 0),(.ptr (11,u3) 0)])),(15,(dl A4 v5))],G [((4,u1),some<|.box 33 (Q9 p1)),((5,u1),some<|.box 45 (M5 p2)),((8,u1),some<|.box 45 ([(.d .nilS)]++ (zs 4)++ [(.d (bo false)),(.d (bo false))])),((11,u3),some<|.box 2 [(di v3.1)])]⟩) (BT true (J6 (0 - v3.2.2))<|BT false p4 v3.2.1) () _ hy2 (G0 W W) ?_
 intro x1 g3 z1 hz1 ez1
 unfold Ek at hz1
 refine A6<|A6<|K6 W<|sv W<|sv W<|C2 (di<|J6 (0 - v3.2.2)) W W (sv W<|sv W<|gt W (fun _=>W)<|gt W (fun _=>W)<|gp W (M4 W) (fun _=>W) (gt W (vl W (gq W) W)<|P5 _ (.fn _ _ _) W (M4 W) (fun _=>W) (gt W (fun _=>W)<|bs hz1 fun v6 hv6 hz1=> ?_)))
 refine N8 _ (i64 v6) (M4 W) (fun w12=>⟨_,[(di x1),(.ptr (5,u1) 0),(.ptr (11,u3) 0)],_,_,(by simp only [A5 w12];rfl),(rD<|D4 (Y0 (gq W)<|rD<|rD<|rD<|rD<|rD<|rD<|rD E4)<|D4 (Y0 (gq W)<|rD E4) E4),A3,Me _ _ _ _<|D8 w12 hv6,(.inr W)⟩) ?_
 refine gt W (fun _=>W)<|bs hz1 fun v7 hv7 hz1=> ?_
 refine N8 _ (bo v7) (M4 W) (fun w14=>⟨_,[(dl A4 v5),(di v1.2),(di p2.V),(di v6),(di v3.2.2)],_,_,(by simp only [A5 w14];rfl),W,A3,BD _ _ _ _ _ _<|D8 w14 hv7,(.inl W)⟩) ?_
 refine P5 _ (.d (bo (!v7))) W (M4 W) (fun w15=>(by simp only [A5 w15];rfl)) ?_
 refine sa W W W<|A1<|cc W hz1 (fun c2 hz1=> ?_)<|fun c2 hz1=> ?_
 refine B0<|A7<|C3<|sv W<|sv W<|sv W<|A1<|E5<|E0 ?_
 cases hz1
 exact ⟨W,(),(G0 W W)⟩
 refine D1 W ?_
 cases hz1
 obtain rfl:=ez1 _ rfl
 refine ⟨nofun,C5 W<|U6 ?_⟩
 exact ⟨(),(G0 W W)⟩
 rintro _ ⟨g2,q1⟩
 obtain rfl:=(lC hy1)
 exact U6 ⟨(),(Sb.after q1<|G0 W W)⟩
 refine B0 ?_
 cases hy1
 exact U6 ⟨(),(G0 W W)⟩
 rintro _ ⟨g1,q2⟩
 refine B6 q2<|B3<|C2 (.fn _ _ _) W W (sv W<|bs h fun v8 hv8 h=>B9 W (rD<|D4 (Y0 (gq W)<|rD<|rD<|rD<|rD<|rD<|rD<|rD E4)<|D4 (Y0 (gq W)<|rD E4) E4) A3 (Me _ _ _ _ hv8) (.inr W) (sq W<|T6 W (gq W) ((M5 p2).set 2 (di v8)) W (A1<|B3<|sq W<|sl W A2 W<|sq W<|sl W A2 W<|sv W<|sq W<|T6 W A2 (((M5 p2).set 1 (di<|J6 (p2.S+v8))).set 2 (di v8)) W (A1<|B3<|sd W (C1 W (gq W) W W)<|sd W (C1 W A2 W W)<|bs h fun v9 hv9 h=>B9 W W A3 (Ug _ _ _ hv9) (.inl W) (sq W<|T6 W A2 ((((M5 p2).set 1 (di<|J6 (p2.S+v8))).set 2 (di v8)).set 6 (.d (bo v9))) W (A1<|B3<|sd W (C1 W A2 W W)<|T6 W (gq W) ((((M5 p2).set 1 (di<|J6 (p2.S+v8))).set 2 (di v8)).set 6 (.d (bo v9))) W (A1<|B7 ?_)))))))
 cases h
 exact A9 (.inr W) (C0 (K7 W A2 (nl W) W) C6) (.refl _)
def Jt [Lp](p1:Map)(p2:State)(p3:Int)(p4:Int):Option Agent:=
  cond ((decide (p3<0))||(decide (p3≥(p2.Agents.length:Int)))) (some (Agent.mk [] 0 0 0 0 false false)) ((F2 p2.Agents p3).bind fun v1=>(Aq v1).bind fun v2=>(Ii p2 p3).bind fun v3=>((cond (!(!v3)) (Dp p1 p2) (some default))).bind fun v4=>cond ((!v3)||(v4 !=0)) (some v2) ((Js p1 v2 p2.Tick p4).bind fun v5=>some v5))
theorem CI(p1 p2 p3 p4 r)(h:Jt p1 p2 p3 p4=some r):PCall prog 29 [(.agg (Y6 p1)),(.agg (N9 p2)),(i64 p3),(i64 p4)] (.agg (C4 r)):=by
 refine C7 (fk func29 ntmps29 m0 (by with_unfolding_all rfl)) (nl W) ?_
 unfold Jt at h
 refine B6 (s0:=⟨T [(0,(.d _)),(1,(.d _)),(2,(.d _)),(3,(.d _))],G []⟩) (G0 W W) ?_
 refine B3<|sm W<|sn W W<|sm W<|A1<|A6<|B3<|sv W<|sv W<|sv W<|gf W (fun _=>W)<|gp W (N7 W) (fun _=>W) (gf W (vl W (gq W) W)<|gf W (fun w4=>(E3<|A5 w4))<|gf W (fun w5=>(R1 (A5 w5) (A5 w5) W))<|sd W (U2 W W<|fun hc=>A5<|N2 hc)<|A1<|cc W h (fun c1 h=> ?_)<|fun c1 h=> ?_)
 refine B3<|sv W<|T6 W A2 ([(.d .nilS)]++ (zs 4)++ [(.d (bo false)),(.d (bo false))]) W (A1<|B7 ?_)
 cases h
 exact A9 (.inr W) (C0 (K7 W A2 (nl W) W) C6) (.agg (.cons ⟨DLe.nil,W⟩ (cz W)))
 refine B0<|B3<|sq W<|sl W (gq W) W (sv W<|bs h fun _ hv1 h=>sd W (E7 W W hv1 W)<|sd W (E6 W hv1 W W)<|bs h fun v2 hv2 h=>B9 W W A3 (Iw _ _ hv2) (.inl W) (sm W<|T6 W A2 (M5 v2) W (A1<|A6<|B3<|sd W (C1 W (gq W) W W)<|sv W<|bs h fun v3 hv3 h=>B9 W W A3 (Ix _ _ _ hv3) (.inl W) (C2 (.d (bo (!v3))) W W (sv W<|gf W (fun _=>(C1 W (gq W) W W))<|gf W (fun _=>(C1 W (gq W) W W))<|bs h fun v4 hv4 h=> ?_)))))
 refine N8 _ (i64 v4) (N7 W) (fun w8=>⟨_,[(.d (.agg (Y6 p1))),(.d (.agg (N9 p2)))],_,_,(by simp only [A5 w8];rfl),W,A3,Nj _ _ _<|D8 w8 hv4,(.inl W)⟩) ?_
 refine gf W (vb W W W)<|sd W (U2 W W<|fun hc=>A5<|N2 hc)<|A1<|cc W h (fun c2 h=> ?_)<|fun c2 h=> ?_
 refine B3<|sd W (C1 W A2 W W)<|T6 W (gq W) (M5 v2) W (A1<|B7 ?_)
 cases h
 exact A9 (.inr W) (C0 (K7 W A2 (nl W) W) C6) (.refl _)
 refine B0<|B3<|sd W (C1 W (gq W) W W)<|sd W (C1 W A2 W W)<|sq W<|sl W (gq W) W (sv W<|bs h fun v5 hv5 h=>B9 W W A3 (CH _ _ _ _ _ hv5) (.inl W) (T6 W (gq W) (M5 v5) W (A1<|B7 ?_)))
 cases h
 exact A9 (.inr W) (C0 (K7 W A2 (nl W) W) C6) (.refl _)
theorem Nr(p1 r)(h:W8 p1=some r):MCall prog 121 [.d (.list (List.map F8 p1))] [] (oE r (800000,0)) [] [oB 127 4 F8 r]:=by
  cases p1 with
  |nil=>
   have hr:r= []:=by obtain ⟨_,rfl⟩:=Cu h;rfl
   subst hr
   exact MCall.ofP<|Gk [] [] h
  |cons x xs=>
  have hr:Y4 ([]:List Stay) (x::xs)=some r:=h
  have e:=(Cu hr).2
  rw [lO]at e
  rw [bZ (S7 hr),MD (S7 hr)]
  refine MJ (fk func121 ntmps121 m0 (by with_unfolding_all rfl)) W (Nat.le_of_ble_eq_true W) ?_
  refine (B6 (s0:=⟨T [(0, .d (.list (List.map F8 (x::xs))))],G []⟩) (D0 ⟨.of W,trivial⟩ trivial) ?_)
  refine A6 ?_
  refine Ag fun _ _=> ?_
  refine C2 (.d .nilS) W W ?_
  refine A1 ?_
  refine A6 ?_
  refine A6 ?_
  refine Ag fun _ _=> ?_
  refine C2 (.d (.list (List.map F8 (x::xs)))) W W ?_
  refine C2 (.d (bo false)) W W ?_
  refine A1 ?_
  refine Oh W ?_
  refine B0 ?_
  refine A6 ?_
  refine Ag fun u3 _=> ?_
  refine DF (.sl _) (.arr 127 4 (List.map F8 ([]:List Stay))) W W ?_
  refine C2 (.d (.list (List.map F8 (x::xs)))) W W ?_
  refine Sc F8 _ [] (x::xs) _ (J9<|fun _=>W) W A2 hr ?_
  refine C2 (.sl _) W W ?_
  refine A1 ?_
  refine B7 ?_
  exact XW (v1:= .sl (7,u3)) (.inr W) (Ub<|B8 W) (.of W) [((7,u3),some<|.arr 127 4 (List.map F8 r))] (A8 A2 (.of W) trivial) (SO [(7,u3)] W trivial ⟨A2,trivial⟩ W (by simp only [lS,List.not_mem_nil,or_false,forall_eq];exact fun i=>SN rfl i) nd1)
def Ju (p1:State)(x1:(Int×State)):Option (Stp (Int×State) State):=
  cond (decide (x1.1< (p1.Agents.length:Int))) ((F2 p1.Agents x1.1).bind fun v2=>(Aq v2).bind fun v3=>(Y4 x1.2.Agents [v3]).bind fun v4=>some (.go ((J6 (x1.1+1)),(State.mk x1.2.Tick v4 x1.2.In)))) (some (.out x1.2))
def El [Lp](p1:State):Option State:=
  (W8 p1.In).bind fun v1=>(loop (Ju p1) (0,(State.mk p1.Tick [] v1))).bind fun y1=>some y1
theorem Xh(p1 r)(h:El p1=some r):MCall prog 56 [(.d (.agg (N9 p1)))] [] (W1 [(di r.Tick),(oS r.Agents (800000,0)),(oE r.In (800001,0))]) [] [oB 45 7 C4 r.Agents,oB 127 4 F8 r.In]:=by
 refine MJ (fk func56 ntmps56 (fun r=>if r==1 then [1001004]else if r==5 then [1004]else []) (by with_unfolding_all rfl)) (by generalize r.Agents=x1;generalize r.In=x2;cases x1<;>cases x2<;>rfl) (nl W) ?_
 unfold El at h
 refine B6 (s0:=⟨T [(0,(.d _))],G []⟩) (G0 W W) ?_
 refine lr<|fun u1 _=>sm W<|sm W<|A1<|A6<|Kd fun u2 _=>N5 (.ptr _ _) W W (N5 (.d _) W (O8 W (gq W) W) (N5 (.ptr _ _) W W (N5 (.d _) W (O8 W (gq W) W) (bs h fun v1 hv1 h=> ?_))))
 refine CD (v:=oE v1 (10010040,u2)) (us:= [(10010040,u2)]) (XX (Nr _ _ hv1) [] [] _ (((10010040,u2),oB 127 4 F8 v1)::_) W M2 W J7 trivial (fun _ h=>h) List.nodup_nil (by generalize v1=x1;cases x1<;>rfl) W (KS (W)) W) ?_
 refine N5 (W1 [(di p1.Tick),(.d .nilS),(oE v1 (10010040,u2))]) W (by generalize v1=x1;cases x1<;>rfl) ?_
 refine HO (.ptr _ _) (.box _ _) W W (Ke _ _ _ _ _ (S8 _) W W A2 (nl W) [(di p1.Tick),(.d .nilS),(oE v1 (10010040,u2))] W (Ua ⟨W,?_⟩))
 refine A6<|B3<|sq W<|sl W (gq W) W (sd W (E3 W)<|sv W<|A1<|bs h fun y1 hy1 h=>D3 (fun s=> ∃g1:(Nat×Nat),Sb ⟨T [(2,(.ptr (2,u1) 0)),(3,(.ptr (3,u2) 0))],G [((2,u1),some<|.box 25 [(di 0),(.d .nilS),(.d .nilS)]),((3,u2),some<|.box 25 [(di y1.Tick),(oS y1.Agents (24,g1.1)),(oE y1.In (10010040,g1.2))]),((24,g1.1),oB 45 7 C4 y1.Agents),((10010040,g1.2),oB 127 4 F8 y1.In)]⟩ s) ?_ ?_)
 refine A7<|D7 (Ju p1) (fun (x1:(Int×State)) (g2:(Nat×Nat))=>⟨T [(2,(.ptr (2,u1) 0)),(3,(.ptr (3,u2) 0)),(13,(dl C4 p1.Agents)),(14,(di (p1.Agents.length:Int))),(15,(di x1.1))],G [((2,u1),some<|.box 25 [(di 0),(.d .nilS),(.d .nilS)]),((3,u2),some<|.box 25 [(di x1.2.Tick),(oS x1.2.Agents (24,g2.1)),(oE x1.2.In (10010040,g2.2))]),((24,g2.1),oB 45 7 C4 x1.2.Agents),((10010040,g2.2),oB 127 4 F8 x1.2.In)]⟩) (0,(State.mk p1.Tick [] v1)) (0,u2) _ hy1 (D0 (S5 W)<|sg W<|A8 A2 (.of W)<|Y5<|B4 (gq W) trivial) ?_
 intro x1 g2 z1 hz1 ez1
 unfold Ju at hz1
 refine B3<|sv W<|A1<|A6<|cc W hz1 (fun c1 hz1=> ?_)<|fun c1 hz1=> ?_
 refine B0<|A6<|A7<|B3<|bs hz1 fun v2 hv2 hz1=>sd W (E7 W W hv2 W)<|sd W (E6 W hv2 W W)<|sm W<|T6 W A2 (M5 v2) W (A1<|Na W fun u6 _=>sq W<|C2 (oS x1.2.Agents (24,g2.1)) W (O8 W (gq W) W) (sd W (C1 W A2 W W)<|bs hz1 fun v3 hv3 hz1=>B9 W W A3 (Iw _ _ hv3) (.inl W) (C2 (dl C4 [v3]) W W (bs hz1 fun _ hv4 hz1=>P1 C4 (24,g2.1) x1.2.Agents v3 [] _ (J9<|fun _=>W) W (gq W) hv4 (sq W<|T6 W (gq W) [(di x1.2.Tick),(.sl (24,u6)),(oE x1.2.In (10010040,g2.2))] W (A1<|E5<|C3<|sv W<|sv W<|A1<|E0 ?_))))))
 cases hz1
 exact ⟨W,(u6,g2.2),(D0 (S5 W)<|sg W<|A8 A2 (.box (cv<|.cons (.of (Ap<|S7 hv4).symm) cw))<|U5 (gq W)<|B4 (gq W) trivial)⟩
 refine D1 W ?_
 cases hz1
 obtain rfl:=ez1 _ rfl
 refine ⟨nofun,C5 W<|U6 ?_⟩
 exact ⟨(g2.1,g2.2),(D0 (S5 W)<|A8 A2 (.of W)<|sg W<|B4 (gq W)<|B4 (gq W) trivial)⟩
 rintro _ ⟨g1,q1⟩
 refine B6 q1<|B3<|C2 (W1 [(di y1.Tick),(oS y1.Agents (24,g1.1)),(oE y1.In (10010040,g1.2))]) W (C1 W (gq W) W W) (Fu _ _ _ _ _ (S8 _) W W A2 (nl W) [(di y1.Tick),(oS y1.Agents (24,g1.1)),(oE y1.In (10010040,g1.2))] W (A1<|B7 ?_))
 obtain rfl:=(lC h)
 exact XW (v1:=(W1 [(di y1.Tick),(oS y1.Agents (24,g1.1)),(oE y1.In (10010040,g1.2))])) (.inr W) (Ub<|K7 W A2 (Nat.le_of_ble_eq_true W) W) (.of W) [((24,g1.1),oB 45 7 C4 y1.Agents),((10010040,g1.2),oB 127 4 F8 y1.In)] (B4 (gq W)<|B4 (gq W) trivial) (WD [(24,g1.1),(10010040,g1.2)] (by generalize y1.Agents=x1;generalize y1.In=x2;cases x1<;>cases x2<;>rfl) trivial ⟨(A2).trans oB_ren.symm,((gq W)).trans oB_ren.symm,trivial⟩ W (List.forall_mem_cons.2 ⟨fun i hi=>MK W hi,(List.forall_mem_cons.2 ⟨fun i hi=>MK W hi,(fun _ h=>nomatch h)⟩)⟩) (bY<|Ky W))
def U0 [Lp](p1:WorldScene)(p2:Int)(p3:Int):Option (Int×Bool):=
  (F2 p1.before.Agents p2).bind fun v1=>(R9 v1.Route p3).bind fun v2=>cond (decide (v2<0)) (some (0,false)) ((Bx p1.m v1.Route).bind fun v3=>(F2 v3 v2).bind fun v4=>some (v4,true))
theorem Jc(p1 p2 p3 r)(h:U0 p1 p2 p3=some r):PCall prog 227 [(.bp (Ko p1) 0),(i64 p2),(i64 p3)] (.tup [(i64 r.1),(bo r.2)]):=by
 refine C7 (fk func227 ntmps227 m0 (by with_unfolding_all rfl)) (nl W) ?_
 unfold U0 at h
 refine B6 (s0:=⟨T [(0,(.d _)),(1,(.d _)),(2,(.d _))],G []⟩) (G0 W W) ?_
 refine B3<|sv W<|sv W<|A1<|B3<|sv W<|sv W<|sv W<|sv W<|sv W<|sv W<|bs h fun _ hv1 h=>sd W (E7 W W hv1 W)<|sv W<|sd W (H8 W hv1 W)<|sv W<|A1<|B3<|sv W<|sv W<|bs h fun _ hv2 h=>B9 W W A3 (Ih _ _ _ hv2) (.inl W) (sv W<|A1<|A6<|B3<|sv W<|sv W<|A1<|cc W h (fun c1 h=> ?_)<|fun c1 h=> ?_)
 refine B3<|sv W<|sv W<|A1<|B7 ?_
 cases h
 exact A9 (.inr W) (Ic (B8 W) (B8 W) C6 C6) (.refl _)
 refine B0<|B3<|sv W<|sv W<|sv W<|sv W<|sv W<|bs h fun _ hv3 h=>B9 W W A3 (Lf _ _ _ hv3) (.inl W) (sv W<|bs h fun _ hv4 h=>sd W (E7 W W hv4 W)<|sd W (H8 W hv4 W)<|sv W<|sv W<|A1<|B7 ?_)
 cases h
 exact A9 (.inr W) (Ic (B8 W) (B8 W) C6 C6) (.refl _)
def U9 [Lp](p1:WorldScene)(p2:Int)(p3:Int):Option Stay:=
  (D5 p1.after.In (Stay.mk p2 p3 0 0)).bind fun v1=>(F2 p1.after.In v1.1).bind fun v2=>some v2
theorem Jg(p1 p2 p3 r)(h:U9 p1 p2 p3=some r):PCall prog 228 [(.bp (Ko p1) 0),(i64 p2),(i64 p3)] (.agg (F8 r)):=by
 refine C7 (fk func228 ntmps228 m0 (by with_unfolding_all rfl)) (nl W) ?_
 unfold U9 at h
 refine B6 (s0:=⟨T [(0,(.d _)),(1,(.d _)),(2,(.d _))],G []⟩) (G0 W W) ?_
 refine B3<|sm W<|A1<|B3<|sv W<|sv W<|sv W<|sv W<|sv W<|sv W<|sv W<|sv W<|bs h fun _ hv1 h=>B9 W W A3 (N1 _ _ _ hv1) (.inl W) (sv W<|sv W<|sv W<|sv W<|sv W<|A1<|B3<|sv W<|sv W<|sv W<|sv W<|sv W<|sv W<|bs h fun v2 hv2 h=>sd W (E7 W W hv2 W)<|sd W (E6 W hv2 W W)<|T6 W A2 (Si v2) W (A1<|B7 ?_))
 cases h
 exact A9 (.inr W) (C0 (K7 W A2 (nl W) W) C6) (.refl _)
def Dg [Lp](p1:Map)(p2:State)(p3:(List Int))(v2:State)(y2:(List Agent))(y5:(List Stay))(a1:(Int×Int))(x6:(Int× (List Crash))):Option (Stp (Int× (List Crash)) (List Crash)):=
  cond (decide (x6.1< (p1.Zones.length:Int))) ((T9 (WorldScene.mk p1 p2 (State.mk v2.Tick y2 y5) p3 x6.2) a1.1 a1.2 x6.1).bind fun v28=>cond (!v28) (some (.go ((J6 (x6.1+1)),x6.2))) ((U9 (WorldScene.mk p1 p2 (State.mk v2.Tick y2 y5) p3 x6.2) a1.1 x6.1).bind fun v29=>(U9 (WorldScene.mk p1 p2 (State.mk v2.Tick y2 y5) p3 x6.2) a1.2 x6.1).bind fun v30=>(Bj v29.Rank v30.Rank).bind fun v31=>(Ez v30.Since v29.Since).bind fun v32=>(Fi [v31,v32]).bind fun v33=>(cond (v33==(-1)) (some [a1.1]) (cond (v33==1) (some [a1.2]) (some [a1.1,a1.2]))).bind fun y17=>(Y4 x6.2 [(Crash.mk p2.Tick a1.1 a1.2 (-1) x6.1 y17)]).bind fun v34=>some (.go ((J6 (x6.1+1)),v34)))) (some (.out x6.2))
def Fo [Lp](p1:Map)(p2:State)(p3:(List Int))(v2:State)(y2:(List Agent))(y5:(List Stay))(a1:(Int×Int))(y12:(List Crash)):Option (List Crash):=
  (loop (Dg p1 p2 p3 v2 y2 y5 a1) (0,y12)).bind fun y16=>some y16
def Dh [Lp](p1:Map)(p2:State)(p3:(List Int))(v2:State)(y2:(List Agent))(y5:(List Stay))(x4:(List Crash))(a1:(Int×Int))(x5:Int):Option (Stp Int (Sum Unit (List Crash))):=
  cond (decide (x5< (p1.Lanes.length:Int))) ((U0 (WorldScene.mk p1 p2 (State.mk v2.Tick y2 y5) p3 x4) a1.1 x5).bind fun v13=>(U0 (WorldScene.mk p1 p2 (State.mk v2.Tick y2 y5) p3 x4) a1.2 x5).bind fun v14=>cond ((!v13.2)||(!v14.2)) (some (.go (J6 (x5+1)))) ((F2 p2.Agents a1.1).bind fun v15=>(F2 p2.Agents a1.2).bind fun v16=>(cond (decide ((J6 (v15.S - v13.1))< (J6 (v16.S - v14.1)))) (some (v14.1,v13.1,a1.2,a1.1)) (some (v13.1,v14.1,a1.1,a1.2))).bind fun y14=>(F2 y2 y14.2.2.1).bind fun v17=>(Fh v17).bind fun v18=>(Bn v18 y14.1).bind fun v19=>(F2 y2 y14.2.2.2).bind fun v20=>(Fh v20).bind fun v21=>(Bn v21 y14.2.1).bind fun v22=>(F2 p2.Agents y14.2.2.2).bind fun v23=>(Fh v23).bind fun v24=>(Bn v24 y14.2.1).bind fun v25=>(Ca p1 x5).bind fun v26=>cond (((((decide (v19.to≥0))&& (decide (v22.to≥0)))&& (decide (v25.from_≤v26)))&& (decide (v19.from_≤v26)))&& (decide (v22.to≥v19.from_))) ((Y4 x4 [(Crash.mk p2.Tick a1.1 a1.2 x5 (-1) [y14.2.2.2])]).bind fun v27=>some (.out (.inr v27))) (some (.go (J6 (x5+1)))))) (some (.out (.inl ())))
def Hc [Lp](p1:Map)(p2:State)(p3:(List Int))(v2:State)(y2:(List Agent))(y5:(List Stay))(x4:(List Crash))(a1:(Int×Int)):Option (List Crash):=
  thenS (loop (Dh p1 p2 p3 v2 y2 y5 x4 a1) 0) (fun _=>some x4) (fun r=>some r)
def Em [Lp](p1:Map)(p2:State)(p3:(List Int))(v2:State)(y2:(List Agent))(y5:(List Stay))(x4:(List Crash))(a1:(Int×Int)):Option (Stp (List Crash) (List Crash)):=
  (Hc p1 p2 p3 v2 y2 y5 x4 a1).bind fun y12=>(Fo p1 p2 p3 v2 y2 y5 a1 y12).bind fun y15=>some (.go y15)
def Uj:Option Unit:=
  some ()
def Hd [Lp](p1:Map)(p2:State)(p3:(List Int))(v2:State)(y2:(List Agent))(y5:(List Stay)):Option (List Crash):=
  (Uj).bind fun y10=>((FJ p2).bind fun v12=>loopL (Em p1 p2 p3 v2 y2 y5) (fun (x4:(List Crash))=>x4) v12 []).bind fun y11=>some y11
def En [Lp](p1:Map)(p2:State)(p3:(List Int))(v2:State)(y2:(List Agent))(x2:(Int× (List Stay)))(v6:Agent)(x3:(Int× (List Stay))):Option (Stp (Int× (List Stay)) (List Stay)):=
  cond (decide (x3.1< (p1.Zones.length:Int))) ((O0 (WorldScene.mk p1 p2 (State.mk v2.Tick y2 x3.2) p3 []) x2.1 x3.1).bind fun v7=>cond (!v7) (some (.go ((J6 (x3.1+1)),x3.2))) ((D5 p2.In (Stay.mk x2.1 x3.1 p2.Tick 0)).bind fun v8=>(cond v8.2 ((F2 p2.In v8.1).bind fun v9=>some v9) ((Hu p1 v6 x3.1 p2.Tick).bind fun v10=>some (Stay.mk x2.1 x3.1 p2.Tick v10))).bind fun y8=>(Y4 x3.2 [y8]).bind fun v11=>some (.go ((J6 (x3.1+1)),v11)))) (some (.out x3.2))
def Eo [Lp](p1:Map)(p2:State)(p3:(List Int))(v2:State)(y2:(List Agent))(x2:(Int× (List Stay))):Option (Stp (Int× (List Stay)) (List Stay)):=
  cond (decide (x2.1< (p2.Agents.length:Int))) ((F2 p2.Agents x2.1).bind fun v6=>(loop (En p1 p2 p3 v2 y2 x2 v6) (0,x2.2)).bind fun y7=>some (.go ((J6 (x2.1+1)),y7))) (some (.out x2.2))
def He [Lp](p1:Map)(p2:State)(p3:(List Int))(v2:State)(y2:(List Agent)):Option (List Stay):=
  (loop (Eo p1 p2 p3 v2 y2) (0,[])).bind fun y6=>some y6
def Ep [Lp](p1:Map)(p2:State)(p3:(List Int))(x1:(Int× (List Agent))):Option (Stp (Int× (List Agent)) (List Agent)):=
  cond (decide (x1.1< (p2.Agents.length:Int))) ((cond (decide (x1.1< (p3.length:Int))) ((F2 p3 x1.1).bind fun v3=>some v3) (some 0)).bind fun y4=>(Jt p1 p2 x1.1 y4).bind fun v4=>(F2 x1.2 x1.1).bind fun v5=>some (.go ((J6 (x1.1+1)),(Ww x1.2 x1.1 v4)))) (some (.out x1.2))
def Hf [Lp](p1:Map)(p2:State)(p3:(List Int))(v2:State):Option (List Agent):=
  (loop (Ep p1 p2 p3) (0,v2.Agents)).bind fun y3=>some y3
def Jv [Lp](p1:Map)(p2:State)(p3:(List Int)):Option (State× (List Crash)×Int):=
  (Dp p1 p2).bind fun v1=>cond (v1 !=0) (some ((State.mk 0 [] []),[],v1)) (cond (decide (p2.Tick≥1099511627776)) (some ((State.mk 0 [] []),[],2)) ((El p2).bind fun v2=>((Hf p1 p2 p3 v2).bind fun y2=>(He p1 p2 p3 v2 y2).bind fun y5=>(Hd p1 p2 p3 v2 y2 y5).bind fun y9=>some (y2,y5,y9)).bind fun y1=>some ((State.mk (J6 (v2.Tick+1)) y1.1 y1.2.1),y1.2.2,0)))
theorem CJ(p1 p2 p3 r)(h:Jv p1 p2 p3=some r):PCall prog 31 [(.agg (Y6 p1)),(.agg (N9 p2)),(.list (List.map A4 p3))] (.tup [(.agg (N9 r.1)),(.list (List.map Bf r.2.1)),(i64 r.2.2)]):=by
 refine C7 (fk func31 ntmps31 (fun r=>if r==6 then [1006003]else if r==10 then [2]else []) (by with_unfolding_all rfl)) (nl W) ?_
 unfold Jv at h
 refine B6 (s0:=⟨T [(0,(.d _)),(1,(.d _)),(2,(.d _))],G []⟩) (G0 W W) ?_
 refine lr<|fun u1 _=>sm W<|sm W<|sn W W<|sv W<|sv W<|A1<|A6<|B3<|sd W (C1 W (gq W) W W)<|sd W (C1 W (gq W) W W)<|bs h fun _ hv1 h=>B9 W W A3 (Nj _ _ _ hv1) (.inl W) (sv W<|A1<|B3<|sv W<|sv W<|A1<|cc W h (fun c1 h=> ?_)<|fun c1 h=> ?_)
 refine B3<|sv W<|sv W<|T6 W A2 [(di 0),(.d .nilS),(.d .nilS)] W (sv W<|sv W<|A1<|B7 ?_)
 cases h
 exact A9 (.inr W) (HL (K7 W A2 (nl W) W) (B8 W) (B8 W) C6 C6 C6) (.tup (.cons (.agg (ca W<|.cons ⟨DLe.nil,W⟩ (.cons ⟨DLe.nil,W⟩ .nil))) (.cons DLe.nil A3)))
 refine B0<|A6<|B3<|sq W<|sl W (gq W) W (sv W<|A1<|cc W h (fun c2 h=> ?_)<|fun c2 h=> ?_)
 refine B3<|sv W<|T6 W A2 [(di 0),(.d .nilS),(.d .nilS)] W (sv W<|sv W<|A1<|B7 ?_)
 cases h
 exact A9 (.inr W) (HL (K7 W A2 (nl W) W) (B8 W) (B8 W) C6 C6 C6) (.tup (.cons (.agg (ca W<|.cons ⟨DLe.nil,W⟩ (.cons ⟨DLe.nil,W⟩ .nil))) (.cons DLe.nil A3)))
 refine B0<|A6<|Kd fun u7 _=>N5 (.d _) W (C1 W (gq W) W W) (N5 (.d _) W (C1 W (gq W) W W) (N5 (.d _) W (C1 W (gq W) W W) (bs h fun v2 hv2 h=> ?_)))
 refine CD (v:=W1 [(di v2.Tick),(oS v2.Agents (10060030,u7)),(oE v2.In (10060031,u7))]) (us:= [(10060030,u7),(10060031,u7)]) (XX (Xh _ _ hv2) [] [] _ (((10060031,u7),oB 127 4 F8 v2.In)::(((10060030,u7),oB 45 7 C4 v2.Agents)::_)) W M2 W J7 trivial (fun _ h=>h) List.nodup_nil (by generalize v2.Agents=x1;generalize v2.In=x2;cases x1<;>cases x2<;>rfl) W (KS<|KS (W)) W) ?_
 refine N5 (.d _) W W ?_
 refine N5 (W1 ((Q9 p1)++ (E1 p2)++ [(di v2.Tick),(oS v2.Agents (10060030,u7)),(oE v2.In (10060031,u7)),(dl A4 p3),(.d .nilS)])) W (by generalize v2.Agents=x1;generalize v2.In=x2;cases x1<;>cases x2<;>rfl) ?_
 refine HO (.ptr _ _) (.box _ _) W (KU W) (N5 (.ptr _ _) W W (Ua ⟨W,?_⟩))
 refine A6<|B3<|sv W<|sv W<|A1<|bs h fun y1 hy1 h=>D3 (fun s=> ∃g1:(Nat×Nat× ({d:Nat // d∈ [72,158]}×Nat)),Sb ⟨T [(6,(.ptr (6,u1) 0)),(10,(.ptr (30,u7) 0))],G [((6,u1),some<|.box 25 [(di 0),(.d .nilS),(.d .nilS)]),((30,u7),some<|.box 135 ((Q9 p1)++ (E1 p2)++ [(di v2.Tick),(oS y1.1 (10060030,g1.1)),(oS y1.2.1 (85,g1.2.1)),(dl A4 p3),(oS y1.2.2 (g1.2.2.1.val,g1.2.2.2))])),((10060030,g1.1),oB 45 7 C4 y1.1),((85,g1.2.1),oB 127 4 F8 y1.2.1),((g1.2.2.1.val,g1.2.2.2),oB 77 6 Bf y1.2.2)]⟩ s) ?_ ?_
 refine A7<|Vv<|B3<|sv W<|A1<|A6<|Ti W<|B0<|A6<|A7<|B3<|sv W<|sv W<|A1<|C3<|sv W<|sq W<|bs hy1 fun y2 hy2 hy1=>Jo (fk func90 ntmps90 m0 (by with_unfolding_all rfl)) (fun (g2:Nat)=> [(6,(.ptr (6,u1) 0)),(10,(.ptr (30,u7) 0)),(31,(.d (.agg [(.fn (.func 90) [] []),(.fn (.func 80) [] []),(.fn (.func 91) [] [])]))),(32,(di 0))]) (fun (g2:Nat)=> [((6,u1),some<|.box 25 [(di 0),(.d .nilS),(.d .nilS)]),((30,u7),some<|.box 135 ((Q9 p1)++ (E1 p2)++ [(di v2.Tick),(oS y2 (10060030,g2)),(oE v2.In (10060031,u7)),(dl A4 p3),(.d .nilS)])),((10060031,u7),oB 127 4 F8 v2.In),((10060030,g2),oB 45 7 C4 y2)]) W (nl W) ?_ ?_
 unfold Hf at hy2
 refine B6 (s0:=⟨T [(0,(.ptr (30,u7) 0))],G [((30,u7),some<|.box 135 ((Q9 p1)++ (E1 p2)++ [(di v2.Tick),(oS v2.Agents (10060030,u7)),(oE v2.In (10060031,u7)),(dl A4 p3),(.d .nilS)])),((10060030,u7),oB 45 7 C4 v2.Agents),((10060031,u7),oB 127 4 F8 v2.In),((6,u1),some<|.box 25 [(di 0),(.d .nilS),(.d .nilS)])]⟩) (D0 ⟨.of W,trivial⟩<|A8 A2 (.of W)<|B4 (gq W)<|B4 (gq W)<|sg W trivial) ?_
 refine B3<|sq W<|sp W W<|sq W<|sp W W<|sl W A2 W<|sd W (E3 W)<|sv W<|A1<|bs hy2 fun y3 hy3 hy2=>D3 (fun s=> ∃g3:Nat,Sb ⟨T [],G [((6,u1),some<|.box 25 [(di 0),(.d .nilS),(.d .nilS)]),((30,u7),some<|.box 135 ((Q9 p1)++ (E1 p2)++ [(di v2.Tick),(oS y3 (10060030,g3)),(oE v2.In (10060031,u7)),(dl A4 p3),(.d .nilS)])),((10060031,u7),oB 127 4 F8 v2.In),((10060030,g3),oB 45 7 C4 y3)]⟩ s) ?_ ?_
 refine A7<|D7 (Ep p1 p2 p3) (fun (x1:(Int× (List Agent))) (g4:Nat)=>⟨T [(0,(.ptr (30,u7) 0)),(9,(di (p2.Agents.length:Int))),(10,(di x1.1))],G [((30,u7),some<|.box 135 ((Q9 p1)++ (E1 p2)++ [(di v2.Tick),(oS x1.2 (10060030,g4)),(oE v2.In (10060031,u7)),(dl A4 p3),(.d .nilS)])),((6,u1),some<|.box 25 [(di 0),(.d .nilS),(.d .nilS)]),((10060031,u7),oB 127 4 F8 v2.In),((10060030,g4),oB 45 7 C4 x1.2)]⟩) (0,v2.Agents) u7 _ hy3 (D0 (S5 W)<|A8 A2 (.of W)<|sg W<|B4 (gq W)<|B4 (gq W) trivial) ?_
 intro x1 g4 z1 hz1 ez1
 unfold Ep at hz1
 refine B3<|sv W<|A1<|A6<|cc W hz1 (fun c3 hz1=> ?_)<|fun c3 hz1=> ?_
 refine B0<|A6<|A7<|B3<|sv W<|sv W<|A1<|B3<|sv W<|A1<|A6<|B3<|sv W<|sq W<|sp W W<|sq W<|sl W A2 W<|sd W (E3 W)<|sv W<|A1<|bs hz1 fun y4 hy4 hz1=>D3 (fun s=> ∃g5:Unit,Sb ⟨T [(0,(.ptr (30,u7) 0)),(2,(di x1.1)),(3,(di y4)),(9,(di (p2.Agents.length:Int))),(10,(di x1.1))],G [((30,u7),some<|.box 135 ((Q9 p1)++ (E1 p2)++ [(di v2.Tick),(oS x1.2 (10060030,g4)),(oE v2.In (10060031,u7)),(dl A4 p3),(.d .nilS)])),((6,u1),some<|.box 25 [(di 0),(.d .nilS),(.d .nilS)]),((10060030,g4),oB 45 7 C4 x1.2),((10060031,u7),oB 127 4 F8 v2.In)]⟩ s) ?_ ?_
 refine cc W hy4 (fun c4 hy4=> ?_)<|fun c4 hy4=> ?_
 refine C3<|sq W<|sq W<|sp W W<|sl W A2 W<|sv W<|bs hy4 fun _ hv3 hy4=>sd W (E7 W W hv3 W)<|sd W (H8 W hv3 W)<|sv W<|A1 ?_
 obtain rfl:=(lC hy4)
 exact U6 ⟨(),(D0 (S5 W)<|A8 A2 (.of W)<|sg W<|B4 (gq W)<|B4 (gq W) trivial)⟩
 refine B0 ?_
 cases hy4
 exact U6 ⟨(),(D0 (S5 W)<|A8 A2 (.of W)<|sg W<|B4 (gq W)<|B4 (gq W) trivial)⟩
 rintro _ ⟨g5,q1⟩
 refine B6 q1<|K6 W<|sq W<|sq W<|sp W W<|sq W<|C2 (oS x1.2 (10060030,g4)) W (O8 W A2 W) (sv W<|sq W<|sp W W<|sq W<|sd W (C1 W A2 W W)<|sq W<|sp W W<|sq W<|sd W (C1 W A2 W W)<|sv W<|sv W<|bs hz1 fun v4 hv4 hz1=>B9 W W A3 (CI _ _ _ _ _ hv4) (.inl W) (bs hz1 fun _ hv5 hz1=>C2 (.aptr _ _ _ _) W (KR W W (gq W) hv5) ?_))
 rw [Ap (Ql hv5)]
 refine Sa C4 _ _ _ (x1.1) _ v4 (C4 v4) W W W (Tj (gq W)<|Ql hv5) hv5 (nl W) W (A1<|E5<|C3<|sv W<|sv W<|A1<|E0 ?_)
 cases hz1
 exact ⟨W,g4,(D0 (S5 W)<|A8 (gq W) (.box (cv<|cv<|cv<|cv<|cv<|cv<|cv<|cv<|cv<|.cons (.of (Ap<|VV<|Ql hv5).symm) cw)) (sg W<|B4 (gq W)<|U5 A2 trivial))⟩
 refine D1 W ?_
 cases hz1
 obtain rfl:=ez1 _ rfl
 refine ⟨nofun,C5 W<|U6 ?_⟩
 exact ⟨g4,(D0 trivial<|sg W<|A8 A2 (.of W)<|B4 (gq W)<|B4 (gq W) trivial)⟩
 rintro _ ⟨g3,q2⟩
 refine E0 ?_
 obtain rfl:=(lC hy2)
 exact Sh q2 (.inl W) g3 (S5 W) (A8 A2 (.of W)<|sg W<|B4 (gq W)<|B4 (gq W) trivial)
 intro g2
 intro u20 hu20
 refine A1<|E5<|C3<|sv W<|sv W<|A1<|Vv<|B3<|sv W<|A1<|A6<|Ti W<|B0<|A6<|A7<|B3<|sv W<|sv W<|A1<|C3<|sv W<|sq W<|bs hy1 fun y5 hy5 hy1=>Jo (fk func80 ntmps80 (fun r=>if r==13 then [1007]else []) (by with_unfolding_all rfl)) (fun (g6:Nat)=> [(6,(.ptr (6,u1) 0)),(10,(.ptr (30,u7) 0)),(31,(.d (.agg [(.fn (.func 90) [] []),(.fn (.func 80) [] []),(.fn (.func 91) [] [])]))),(32,(di 1))]) (fun (g6:Nat)=> [((6,u1),some<|.box 25 [(di 0),(.d .nilS),(.d .nilS)]),((30,u7),some<|.box 135 ((Q9 p1)++ (E1 p2)++ [(di v2.Tick),(oS y2 (10060030,g2)),(oS y5 (85,g6)),(dl A4 p3),(.d .nilS)])),((10060030,g2),oB 45 7 C4 y2),((85,g6),oB 127 4 F8 y5)]) W (nl W) ?_ ?_
 unfold He at hy5
 refine B6 (s0:=⟨T [(0,(.ptr (30,u7) 0))],G [((30,u7),some<|.box 135 ((Q9 p1)++ (E1 p2)++ [(di v2.Tick),(oS y2 (10060030,g2)),(oE v2.In (10060031,u7)),(dl A4 p3),(.d .nilS)])),((10060030,g2),oB 45 7 C4 y2),((10060031,u7),oB 127 4 F8 v2.In),((6,u1),some<|.box 25 [(di 0),(.d .nilS),(.d .nilS)])]⟩) (D0 ⟨.of W,trivial⟩<|sg W<|B4 (gq W)<|B4 (gq W)<|A8 A2 (.of W) trivial) ?_
 refine B3<|sq W<|sp W W<|sq W<|sp W W<|T6 W A2 ((Q9 p1)++ (E1 p2)++ [(di v2.Tick),(oS y2 (10060030,g2)),(.d .nilS),(dl A4 p3),(.d .nilS)]) W (A1<|B3<|sq W<|sp W W<|sq W<|sp W W<|sl W A2 W<|sd W (E3 W)<|sv W<|A1<|bs hy5 fun y6 hy6 hy5=>D3 (fun s=> ∃g7:Nat,Sb ⟨T [],G [((6,u1),some<|.box 25 [(di 0),(.d .nilS),(.d .nilS)]),((30,u7),some<|.box 135 ((Q9 p1)++ (E1 p2)++ [(di v2.Tick),(oS y2 (10060030,g2)),(oS y6 (85,g7)),(dl A4 p3),(.d .nilS)])),((10060030,g2),oB 45 7 C4 y2),((85,g7),oB 127 4 F8 y6)]⟩ s) ?_ ?_)
 refine A7<|D7 (Eo p1 p2 p3 v2 y2) (fun (x2:(Int× (List Stay))) (g8:Nat)=>⟨T [(0,(.ptr (30,u7) 0)),(16,(dl C4 p2.Agents)),(17,(di (p2.Agents.length:Int))),(18,(di x2.1))],G [((30,u7),some<|.box 135 ((Q9 p1)++ (E1 p2)++ [(di v2.Tick),(oS y2 (10060030,g2)),(oS x2.2 (85,g8)),(dl A4 p3),(.d .nilS)])),((6,u1),some<|.box 25 [(di 0),(.d .nilS),(.d .nilS)]),((10060030,g2),oB 45 7 C4 y2),((85,g8),oB 127 4 F8 x2.2)]⟩) (0,[]) 0 _ hy6 (D0 (S5 W)<|A8 A2 (.of W)<|sg W<|B4 (gq W)<|Y5 trivial) ?_
 intro x2 g8 z2 hz2 ez2
 unfold Eo at hz2
 refine B3<|sv W<|A1<|A6<|cc W hz2 (fun c5 hz2=> ?_)<|fun c5 hz2=> ?_
 refine B0<|A6<|A7<|lr<|fun u28 _=>sv W<|bs hz2 fun v6 hv6 hz2=>sd W (E7 W W hv6 W)<|sd W (E6 W hv6 W W)<|sm W<|sv W<|T6 W A2 (M5 v6) W (A1<|B3<|sq W<|sp W W<|sq W<|sp W W<|sl W (gq W) W (sd W (E3 W)<|sv W<|A1<|bs hz2 fun y7 hy7 hz2=>D3 (fun s=> ∃g9:Nat,Sb ⟨T [(0,(.ptr (30,u7) 0)),(16,(dl C4 p2.Agents)),(17,(di (p2.Agents.length:Int))),(18,(di x2.1))],G [((30,u7),some<|.box 135 ((Q9 p1)++ (E1 p2)++ [(di v2.Tick),(oS y2 (10060030,g2)),(oS y7 (85,g9)),(dl A4 p3),(.d .nilS)])),((6,u1),some<|.box 25 [(di 0),(.d .nilS),(.d .nilS)]),((10060030,g2),oB 45 7 C4 y2),((85,g9),oB 127 4 F8 y7)]⟩ s) ?_ ?_))
 refine A7<|D7 (En p1 p2 p3 v2 y2 x2 v6) (fun (x3:(Int× (List Stay))) (g10:Nat)=>⟨T [(0,(.ptr (30,u7) 0)),(2,(di x2.1)),(3,(.ptr (3,u28) 0)),(16,(dl C4 p2.Agents)),(17,(di (p2.Agents.length:Int))),(18,(di x2.1)),(28,(di (p1.Zones.length:Int))),(29,(di x3.1))],G [((30,u7),some<|.box 135 ((Q9 p1)++ (E1 p2)++ [(di v2.Tick),(oS y2 (10060030,g2)),(oS x3.2 (85,g10)),(dl A4 p3),(.d .nilS)])),((3,u28),some<|.box 45 (M5 v6)),((6,u1),some<|.box 25 [(di 0),(.d .nilS),(.d .nilS)]),((10060030,g2),oB 45 7 C4 y2),((85,g10),oB 127 4 F8 x3.2)]⟩) (0,x2.2) g8 _ hy7 (D0 (S5 W)<|sg W<|A8 A2 (.of W)<|sg W<|B4 (gq W)<|B4 (gq W) trivial) ?_
 intro x3 g10 z3 hz3 ez3
 unfold En at hz3
 refine B3<|sv W<|A1<|A6<|cc W hz3 (fun c6 hz3=> ?_)<|fun c6 hz3=> ?_
 refine B0<|A6<|A7<|B3<|sv W<|sv W<|A1<|A6<|B3<|sq W<|sv W<|sv W<|bs hz3 fun v7 hv7 hz3=>B9 W (D4 (Y0 A2<|rD<|rD<|rD<|rD<|rD<|rD<|rD<|rD<|rD<|D4 (U8<|gq W)<|D4 (U8<|gq W)<|rD<|rD E4)<|rD<|rD E4) (.cons (DLe.bp<|ca W<|ca W<|ca W<|ca W<|ca W<|ca W<|ca W<|ca W<|ca W<|.cons ⟨U7,W⟩ (.cons ⟨U7,W⟩ (ca W<|.cons ⟨DLe.nil,W⟩ .nil))) (.cons (.refl _) A3)) (Y8 _ _ _ _ hv7) (.inr W) (C2 (.d (bo (!v7))) W W (A1<|cc W hz3 (fun c7 hz3=> ?_)<|fun c7 hz3=> ?_))
 refine Uw W<|C3<|sv W<|sv W<|A1<|E0 ?_
 cases hz3
 exact ⟨W,g10,(D0 (S5 W)<|A8 A2 (.of W)<|sg W<|sg W<|B4 (gq W)<|B4 (gq W) trivial)⟩
 refine B0<|lr<|fun u34 _=>sv W<|sv W<|sq W<|sp W W<|sq W<|sp W W<|sl W A2 W<|sv W<|sm W<|T6 W A2 [(di x2.1),(di x3.1),(di p2.Tick),(di 0)] W (A1<|A6<|A6<|K6 W<|sq W<|sq W<|sp W W<|sq W<|sl W (gq W) W (sd W (C1 W A2 W W)<|bs hz3 fun _ hv8 hz3=>B9 W W A3 (N1 _ _ _ hv8) (.inl W) (sv W<|sv W<|sv W<|sv W<|sv W<|A1<|B3<|sv W<|A1<|bs hz3 fun y8 hy8 hz3=>D3 (fun s=> ∃g11:Unit,Sb ⟨T [(0,(.ptr (30,u7) 0)),(2,(di x2.1)),(3,(.ptr (3,u28) 0)),(5,(.ptr (5,u34) 0)),(16,(dl C4 p2.Agents)),(17,(di (p2.Agents.length:Int))),(18,(di x2.1)),(28,(di (p1.Zones.length:Int))),(29,(di x3.1))],G [((30,u7),some<|.box 135 ((Q9 p1)++ (E1 p2)++ [(di v2.Tick),(oS y2 (10060030,g2)),(oS x3.2 (85,g10)),(dl A4 p3),(.d .nilS)])),((3,u28),some<|.box 45 (M5 v6)),((5,u34),some<|.box 127 (Si y8)),((6,u1),some<|.box 25 [(di 0),(.d .nilS),(.d .nilS)]),((10060030,g2),oB 45 7 C4 y2),((85,g10),oB 127 4 F8 x3.2)]⟩ s) ?_ ?_)))
 refine cc W hy8 (fun c8 hy8=> ?_)<|fun c8 hy8=> ?_
 refine C3<|sq W<|sq W<|sp W W<|sq W<|sl W (gq W) W (sv W<|bs hy8 fun v9 hv9 hy8=>sd W (E7 W W hv9 W)<|sd W (E6 W hv9 W W)<|T6 W A2 (Si v9) W (A1 ?_))
 obtain rfl:=(lC hy8)
 exact U6 ⟨(),(D0 (S5 W)<|sg W<|sg W<|A8 A2 (.of W)<|sg W<|B4 (gq W)<|B4 (gq W) trivial)⟩
 refine K6 W<|sq W<|sq W<|sp W W<|sd W (C1 W (gq W) W W)<|sd W (C1 W (gq W) W W)<|sv W<|sq W<|sp W W<|sq W<|sp W W<|sl W (gq W) W (bs hy8 fun v10 hv10 hy8=>B9 W W A3 (Uh _ _ _ _ _ hv10) (.inl W) (sq W<|T6 W A2 [(di x2.1),(di x3.1),(di p2.Tick),(di v10)] W (A1 ?_)))
 cases hy8
 exact U6 ⟨(),(D0 (S5 W)<|sg W<|sg W<|A8 A2 (.of W)<|sg W<|B4 (gq W)<|B4 (gq W) trivial)⟩
 rintro _ ⟨g11,q3⟩
 refine B6 q3<|Na W fun u39 _=>sq W<|sq W<|sp W W<|sq W<|sp W W<|C2 (oS x3.2 (85,g10)) W (O8 W A2 W) (sd W (C1 W (gq W) W W)<|C2 (dl F8 [y8]) W W (bs hz3 fun _ hv11 hz3=>P1 F8 (85,g10) x3.2 y8 [] _ (J9<|fun _=>W) W (gq W) hv11 (sq W<|sp W W<|sq W<|T6 W (gq W) ((Q9 p1)++ (E1 p2)++ [(di v2.Tick),(oS y2 (10060030,g2)),(.sl (85,u39)),(dl A4 p3),(.d .nilS)]) W (A1<|E5<|C3<|sv W<|sv W<|A1<|E0 ?_))))
 cases hz3
 exact ⟨W,u39,(D0 (S5 W)<|A8 A2 (.box (cv<|cv<|cv<|cv<|cv<|cv<|cv<|cv<|cv<|cv<|.cons (.of (Ap<|S7 hv11).symm) cw))<|sg W<|sg W<|B4 (gq W)<|U5 (gq W) trivial)⟩
 refine D1 W ?_
 cases hz3
 obtain rfl:=ez3 _ rfl
 refine ⟨nofun,C5 W<|U6 ?_⟩
 exact ⟨g10,(D0 (S5 W)<|A8 A2 (.of W)<|sg W<|B4 (gq W)<|B4 (gq W) trivial)⟩
 rintro _ ⟨g9,q4⟩
 refine E5<|B6 q4<|C3<|sv W<|sv W<|A1<|E0 ?_
 cases hz2
 exact ⟨W,g9,(D0 (S5 W)<|A8 A2 (.of W)<|sg W<|B4 (gq W)<|B4 (gq W) trivial)⟩
 refine D1 W ?_
 cases hz2
 obtain rfl:=ez2 _ rfl
 refine ⟨nofun,C5 W<|U6 ?_⟩
 exact ⟨g8,(D0 trivial<|sg W<|A8 A2 (.of W)<|B4 (gq W)<|B4 (gq W) trivial)⟩
 rintro _ ⟨g7,q5⟩
 refine E0 ?_
 obtain rfl:=(lC hy5)
 exact Sh q5 (.inl W) g7 (S5 W) (A8 A2 (.of W)<|sg W<|B4 (gq W)<|B4 (gq W) trivial)
 intro g6
 intro u42 hu42
 refine A1<|E5<|C3<|sv W<|sv W<|A1<|Vv<|B3<|sv W<|A1<|A6<|Ti W<|B0<|A6<|A7<|B3<|sv W<|sv W<|A1<|C3<|sv W<|sq W<|bs hy1 fun y9 hy9 hy1=>Jo (fk func91 ntmps91 (fun r=>if r==1 then [1]else if r==4 then [3]else if r==5 then [3]else []) (by with_unfolding_all rfl)) (fun (g12:({d:Nat // d∈ [72,158]}×Nat))=> [(6,(.ptr (6,u1) 0)),(10,(.ptr (30,u7) 0)),(31,(.d (.agg [(.fn (.func 90) [] []),(.fn (.func 80) [] []),(.fn (.func 91) [] [])]))),(32,(di 2))]) (fun (g12:({d:Nat // d∈ [72,158]}×Nat))=> [((6,u1),some<|.box 25 [(di 0),(.d .nilS),(.d .nilS)]),((30,u7),some<|.box 135 ((Q9 p1)++ (E1 p2)++ [(di v2.Tick),(oS y2 (10060030,g2)),(oS y5 (85,g6)),(dl A4 p3),(oS y9 (g12.1.val,g12.2))])),((10060030,g2),oB 45 7 C4 y2),((85,g6),oB 127 4 F8 y5),((g12.1.val,g12.2),oB 77 6 Bf y9)]) W (nl W) ?_ ?_
 unfold Hd at hy9
 refine B6 (s0:=⟨T [(0,(.ptr (30,u7) 0))],G [((30,u7),some<|.box 135 ((Q9 p1)++ (E1 p2)++ [(di v2.Tick),(oS y2 (10060030,g2)),(oS y5 (85,g6)),(dl A4 p3),(.d .nilS)])),((10060030,g2),oB 45 7 C4 y2),((85,g6),oB 127 4 F8 y5),((6,u1),some<|.box 25 [(di 0),(.d .nilS),(.d .nilS)])]⟩) (D0 ⟨.of W,trivial⟩<|sg W<|B4 (gq W)<|B4 (gq W)<|A8 A2 (.of W) trivial) ?_
 refine lr<|fun u47 _=>sm W<|A1<|B3<|sp W (O8 W A2 W)<|bs hy9 fun _ hy10 hy9=>Jo (fk func81 ntmps81 m0 (by with_unfolding_all rfl)) (fun (g13:{g:Nat // g≠u47})=> [(1,(.ptr (1,u47) 0)),(5,(.fn (.func 174) [] [(.ptr (1,g13.1) 0)]))]) (fun (g13:{g:Nat // g≠u47})=> [((1,u47),some<|.box 133 [(.ptr (30,u7) 0)]),((30,u7),some<|.box 135 ((Q9 p1)++ (E1 p2)++ [(di v2.Tick),(oS y2 (10060030,g2)),(oS y5 (85,g6)),(dl A4 p3),(.d .nilS)])),((6,u1),some<|.box 25 [(di 0),(.d .nilS),(.d .nilS)]),((10060030,g2),oB 45 7 C4 y2),((85,g6),oB 127 4 F8 y5),((1,g13.1),some<|.box 133 [(.ptr (30,u7) 0)])]) W (nl W) ?_ ?_
 unfold Uj at hy10
 refine B6 (s0:=⟨T [(0,(.ptr (30,u7) 0))],G [((30,u7),some<|.box 135 ((Q9 p1)++ (E1 p2)++ [(di v2.Tick),(oS y2 (10060030,g2)),(oS y5 (85,g6)),(dl A4 p3),(.d .nilS)])),((10060030,g2),oB 45 7 C4 y2),((85,g6),oB 127 4 F8 y5),((6,u1),some<|.box 25 [(di 0),(.d .nilS),(.d .nilS)]),((1,u47),some<|.box 133 [(.ptr (30,u7) 0)])]⟩) (D0 ⟨.of W,trivial⟩<|sg W<|B4 (gq W)<|B4 (gq W)<|sg W<|A8 A2 (.of W) trivial) ?_
 refine lr<|fun u49 hu49=>sm W<|sv W<|A1<|B3<|C2 (.fn _ _ _) W W (C2 (.fn _ _ _) W W (A1<|B7 ?_))
 cases hy10
 exact Mk (.inr W) (Ub<|B8 W) ⟨u49,(Ne.symm<|HM (k:=(1,u47)) hu49 (gq W))⟩ (S5 W) (A8 (W6 (HM hu49<|gq W)<|gq W) (.of W) (sg W<|sg W<|B4 (gq W)<|B4 (gq W)<|A8 A2 (.of W) trivial))
 intro g13
 intro u51 hu51
 refine A1<|bs hy9 fun y11 hy11 hy9=>D3 (fun s=> ∃g14:({d:Nat // d∈ [72,158]}×Nat),Sb ⟨T [],G [((6,u1),some<|.box 25 [(di 0),(.d .nilS),(.d .nilS)]),((30,u7),some<|.box 135 ((Q9 p1)++ (E1 p2)++ [(di v2.Tick),(oS y2 (10060030,g2)),(oS y5 (85,g6)),(dl A4 p3),(oS y11 (g14.1.val,g14.2))])),((10060030,g2),oB 45 7 C4 y2),((85,g6),oB 127 4 F8 y5),((g14.1.val,g14.2),oB 77 6 Bf y11)]⟩ s) ?_ ?_
 refine A7<|bs hy11 fun v12 hv12 hy11=>B6 (s0:=⟨T [(1,(.ptr (1,u47) 0)),(5,(.fn (.func 174) [] [(.ptr (1,g13.1) 0)]))],G [((1,u47),some<|.box 133 [(.ptr (30,u7) 0)]),((30,u7),some<|.box 135 ((Q9 p1)++ (E1 p2)++ [(di v2.Tick),(oS y2 (10060030,g2)),(oS y5 (85,g6)),(dl A4 p3),(.d .nilS)])),((10060030,g2),oB 45 7 C4 y2),((85,g6),oB 127 4 F8 y5),((1,g13.1),some<|.box 133 [(.ptr (30,u7) 0)]),((6,u1),some<|.box 25 [(di 0),(.d .nilS),(.d .nilS)])]⟩) (D0 (S5 W)<|A8 A2 (.of W)<|sg W<|B4 (gq W)<|B4 (gq W)<|A8 (W6 g13.2<|gq W) (.of W) (sg W trivial)) ?_
 refine IA (.fn (.func 174) [] [(.ptr (1,g13.1) 0)]) (Qr (1,g13.1) (30,u7) p2) BB v12 (Em p1 p2 p3 v2 y2 y5) (fun (x4:(List Crash))=>x4) (fun (x4:(List Crash)) (g15:({d:Nat // d∈ [72,158]}×Nat))=> [((1,u47),some<|.box 133 [(.ptr (30,u7) 0)]),((1,g13.1),some<|.box 133 [(.ptr (30,u7) 0)]),((6,u1),some<|.box 25 [(di 0),(.d .nilS),(.d .nilS)]),((30,u7),some<|.box 135 ((Q9 p1)++ (E1 p2)++ [(di v2.Tick),(oS y2 (10060030,g2)),(oS y5 (85,g6)),(dl A4 p3),(oS x4 (g15.1.val,g15.2))])),((10060030,g2),oB 45 7 C4 y2),((85,g6),oB 127 4 F8 y5),((g15.1.val,g15.2),oB 77 6 Bf x4)]) [] (⟨72, .head _⟩,0) _ W (BC hv12 _ _) (fun x4 g15 _ _=>⟨B5 W<|W6 g13.2 A2,_,_,_,_,_,_,_,_,_,_,B5 W<|gq W⟩) (fun _=>W) hy11 (D0 trivial<|A8 A2 (.of W)<|A8 (W6 g13.2<|gq W) (.of W) (sg W<|sg W<|B4 (gq W)<|B4 (gq W)<|Y5 trivial)) nofun ?_ ?_
 intro u53 hu53 hku53
 refine ⟨fun x4 g15=>(B5 W<|B5 W<|B5 W<|B5 W<|B5 W<|B5 W<|B5 (Rc g15.1.property W) W),?_⟩
 intro r1 x4 g15 a1 z4 hrr1 hz4 ez4
 unfold Em at hz4
 show Z9 _ _ _ _ _ _ ⟨T [(7,(di a1.2)),(6,(di a1.1)),(1,(.ptr (1,u47) 0)),(5,(.fn (.func 174) [] [(.ptr (1,g13.1) 0)]))],G [((1000000,u53),some (.obj (T [(1,(.ptr (1,u47) 0)),(5,(.fn (.func 174) [] [(.ptr (1,g13.1) 0)]))]) r1)),((1,u47),some (.box 133 [(.ptr (30,u7) 0)])),((1,g13.1),some (.box 133 [(.ptr (30,u7) 0)])),((6,u1),some (.box 25 [(di 0),(.d .nilS),(.d .nilS)])),((30,u7),some (.box 135 ((Q9 p1)++ (E1 p2)++ [(di v2.Tick),(oS y2 (10060030,g2)),(oS y5 (85,g6)),(dl A4 p3),(oS x4 (g15.1.val,g15.2))]))),((10060030,g2),oB 45 7 C4 y2),((85,g6),oB 127 4 F8 y5),((g15.1.val,g15.2),oB 77 6 Bf x4)]⟩
 refine B3<|sv W<|A1<|C3<|sv W<|A1<|U6<|KQ A2 ?_
 refine A7<|B3<|sp W (O8 W (gq W) W)<|sv W<|sv W<|bs hz4 fun y12 hy12 hz4=>Jo (fk func183 ntmps183 (fun r=>if r==13 then [1014,1016]else []) (by with_unfolding_all rfl)) (fun (g16:({d:Nat // d∈ [72,158]}×Nat))=> [(1,(.ptr (1,u47) 0)),(2,(di a1.1)),(3,(di a1.2))]) (fun (g16:({d:Nat // d∈ [72,158]}×Nat))=> [((1,u47),some<|.box 133 [(.ptr (30,u7) 0)]),((6,u1),some<|.box 25 [(di 0),(.d .nilS),(.d .nilS)]),((30,u7),some<|.box 135 ((Q9 p1)++ (E1 p2)++ [(di v2.Tick),(oS y2 (10060030,g2)),(oS y5 (85,g6)),(dl A4 p3),(oS y12 (g16.1.val,g16.2))])),((1,g13.1),some<|.box 133 [(.ptr (30,u7) 0)]),((1000000,u53),some<|.obj (T [(1,(.ptr (1,u47) 0)),(5,(.fn (.func 174) [] [(.ptr (1,g13.1) 0)]))]) {r1 with state:= .busy}),((10060030,g2),oB 45 7 C4 y2),((85,g6),oB 127 4 F8 y5),((g16.1.val,g16.2),oB 77 6 Bf y12)]) W (nl W) ?_ ?_
 unfold Hc at hy12
 refine B6 (s0:=⟨T [(0,(.ptr (30,u7) 0)),(1,(di a1.1)),(2,(di a1.2))],G [((30,u7),some<|.box 135 ((Q9 p1)++ (E1 p2)++ [(di v2.Tick),(oS y2 (10060030,g2)),(oS y5 (85,g6)),(dl A4 p3),(oS x4 (g15.1.val,g15.2))])),((10060030,g2),oB 45 7 C4 y2),((85,g6),oB 127 4 F8 y5),((g15.1.val,g15.2),oB 77 6 Bf x4),((6,u1),some<|.box 25 [(di 0),(.d .nilS),(.d .nilS)]),((1,u47),some<|.box 133 [(.ptr (30,u7) 0)]),((1,g13.1),some<|.box 133 [(.ptr (30,u7) 0)]),((1000000,u53),some<|.obj (T [(1,(.ptr (1,u47) 0)),(5,(.fn (.func 174) [] [(.ptr (1,g13.1) 0)]))]) {r1 with state:= .busy})]⟩) (D0 (S5 W)<|sg W<|B4 (gq W)<|B4 (gq W)<|B4 (Oi g15.1.property 8 W A2)<|sg W<|sg W<|A8 (Sf 2 W<|W6 g13.2 A2) (.of W) (A8 A2 (.of W) trivial)) ?_
 refine B3<|sq W<|sp W W<|sq W<|sp W W<|sl W A2 W<|sd W (E3 W)<|sv W<|A1<|js hy12 fun z5 hz5 hy12=>D3 (fun s=> ∃(y13:Unit) (g17:Unit),z5= .inl y13∧Sb ⟨T [],G [((6,u1),some<|.box 25 [(di 0),(.d .nilS),(.d .nilS)]),((30,u7),some<|.box 135 ((Q9 p1)++ (E1 p2)++ [(di v2.Tick),(oS y2 (10060030,g2)),(oS y5 (85,g6)),(dl A4 p3),(oS x4 (g15.1.val,g15.2))])),((1,u47),some<|.box 133 [(.ptr (30,u7) 0)]),((1,g13.1),some<|.box 133 [(.ptr (30,u7) 0)]),((1000000,u53),some<|.obj (T [(1,(.ptr (1,u47) 0)),(5,(.fn (.func 174) [] [(.ptr (1,g13.1) 0)]))]) {r1 with state:= .busy}),((10060030,g2),oB 45 7 C4 y2),((85,g6),oB 127 4 F8 y5),((g15.1.val,g15.2),oB 77 6 Bf x4)]⟩ s) ?_ ?_
 refine A7<|D7 (Dh p1 p2 p3 v2 y2 y5 x4 a1) (fun (x5:Int) (g18:Unit)=>⟨T [(0,(.ptr (30,u7) 0)),(1,(di a1.1)),(2,(di a1.2)),(22,(di (p1.Lanes.length:Int))),(23,(di x5))],G [((30,u7),some<|.box 135 ((Q9 p1)++ (E1 p2)++ [(di v2.Tick),(oS y2 (10060030,g2)),(oS y5 (85,g6)),(dl A4 p3),(oS x4 (g15.1.val,g15.2))])),((6,u1),some<|.box 25 [(di 0),(.d .nilS),(.d .nilS)]),((1,u47),some<|.box 133 [(.ptr (30,u7) 0)]),((1,g13.1),some<|.box 133 [(.ptr (30,u7) 0)]),((1000000,u53),some<|.obj (T [(1,(.ptr (1,u47) 0)),(5,(.fn (.func 174) [] [(.ptr (1,g13.1) 0)]))]) {r1 with state:= .busy}),((10060030,g2),oB 45 7 C4 y2),((85,g6),oB 127 4 F8 y5),((g15.1.val,g15.2),oB 77 6 Bf x4)]⟩) 0 () _ hz5 (D0 (S5 W)<|A8 A2 (.of W)<|A8 (Sf 3 W<|B5 (Rc g15.1.property W) A2) (.of W) (A8 (Sf 3 W<|B5 (Rc g15.1.property W)<|gq W) (.of W) (A8 (Sf 3 W<|B5 (Rc g15.1.property W)<|B5 W<|W6 g13.2 A2) (.of W) (A8 (Sf 3 W<|B5 (Rc g15.1.property W)<|gq W) (.of W) (B4 (gq W)<|B4 (gq W)<|B4 (Oi g15.1.property 3 W A2) trivial))))) ?_
 intro x5 g18 z6 hz6 ez6
 unfold Dh at hz6
 refine B3<|sv W<|A1<|A6<|cc W hz6 (fun c9 hz6=> ?_)<|fun c9 hz6=> ?_
 refine B0<|A6<|A7<|B3<|sv W<|sv W<|A1<|B3<|sq W<|sv W<|sv W<|bs hz6 fun v13 hv13 hz6=>B9 W (D4 (Y0 A2<|rD<|rD<|rD<|rD<|rD<|rD<|rD<|rD<|rD<|D4 (U8<|gq W)<|D4 (U8<|gq W)<|rD<|D4 (U8<|Oi g15.1.property 7 W A2) E4)<|rD<|rD E4) (.cons (DLe.bp<|ca W<|ca W<|ca W<|ca W<|ca W<|ca W<|ca W<|ca W<|ca W<|.cons ⟨U7,W⟩ (.cons ⟨U7,W⟩ (ca W<|.cons ⟨U7,W⟩ .nil))) (.cons (.refl _) A3)) (Jc _ _ _ _ hv13) (.inr W) (sv W<|sv W<|sv W<|sv W<|sv W<|A1<|B3<|sq W<|sv W<|sv W<|bs hz6 fun v14 hv14 hz6=>B9 W (D4 (Y0 A2<|rD<|rD<|rD<|rD<|rD<|rD<|rD<|rD<|rD<|D4 (U8<|gq W)<|D4 (U8<|gq W)<|rD<|D4 (U8<|Oi g15.1.property 7 W A2) E4)<|rD<|rD E4) (.cons (DLe.bp<|ca W<|ca W<|ca W<|ca W<|ca W<|ca W<|ca W<|ca W<|ca W<|.cons ⟨U7,W⟩ (.cons ⟨U7,W⟩ (ca W<|.cons ⟨U7,W⟩ .nil))) (.cons (.refl _) A3)) (Jc _ _ _ _ hv14) (.inr W) (sv W<|sv W<|sv W<|sv W<|sv W<|A1<|A6<|B3<|sv W<|C2 (.d (bo (!v13.2))) W W (sv W<|gf W (fun _=>W) ?_)))
 refine P5 _ (.d (bo (!v14.2))) W (N7 W) (fun w2=>(by simp only [A5 w2];rfl)) ?_
 refine sd W (U2 W W<|fun hc=>A5<|N2 hc)<|A1<|cc W hz6 (fun c10 hz6=> ?_)<|fun c10 hz6=> ?_
 refine Uw W<|C3<|sv W<|sv W<|A1<|E0 ?_
 cases hz6
 exact ⟨W,(),(D0 (S5 W)<|A8 A2 (.of W)<|sg W<|sg W<|A8 (Sf 2 W<|W6 g13.2 A2) (.of W) (sg W<|B4 (gq W)<|B4 (gq W)<|B4 (Oi g15.1.property 7 W A2) trivial))⟩
 refine B0<|B3<|sv W<|sv W<|sv W<|sv W<|A1<|A6<|A6<|K6 W<|sq W<|sq W<|sp W W<|sq W<|sl W A2 W<|sv W<|bs hz6 fun _ hv15 hz6=>sd W (E7 W W hv15 W)<|sv W<|sd W (H8 W hv15 W)<|sv W<|sv W<|sq W<|sp W W<|sq W<|sp W W<|sl W A2 W<|sv W<|bs hz6 fun _ hv16 hz6=>sd W (E7 W W hv16 W)<|sv W<|sd W (H8 W hv16 W)<|sv W<|sv W<|sv W<|A1<|bs hz6 fun y14 hy14 hz6=>D3 (fun s=> ∃g19:Unit,Sb ⟨T [(0,(.ptr (30,u7) 0)),(1,(di a1.1)),(2,(di a1.2)),(6,(di x5)),(7,(di y14.1)),(9,(di y14.2.1)),(11,(di y14.2.2.1)),(12,(di y14.2.2.2)),(22,(di (p1.Lanes.length:Int))),(23,(di x5))],G [((30,u7),some<|.box 135 ((Q9 p1)++ (E1 p2)++ [(di v2.Tick),(oS y2 (10060030,g2)),(oS y5 (85,g6)),(dl A4 p3),(oS x4 (g15.1.val,g15.2))])),((6,u1),some<|.box 25 [(di 0),(.d .nilS),(.d .nilS)]),((1,u47),some<|.box 133 [(.ptr (30,u7) 0)]),((1,g13.1),some<|.box 133 [(.ptr (30,u7) 0)]),((1000000,u53),some<|.obj (T [(1,(.ptr (1,u47) 0)),(5,(.fn (.func 174) [] [(.ptr (1,g13.1) 0)]))]) {r1 with state:= .busy}),((10060030,g2),oB 45 7 C4 y2),((85,g6),oB 127 4 F8 y5),((g15.1.val,g15.2),oB 77 6 Bf x4)]⟩ s) ?_ ?_
 refine cc W hy14 (fun c11 hy14=> ?_)<|fun c11 hy14=> ?_
 refine C3<|sv W<|sv W<|sv W<|sv W<|sv W<|sv W<|sv W<|sv W<|A1 ?_
 cases hy14
 exact U6 ⟨(),(D0 (S5 W)<|A8 A2 (.of W)<|sg W<|sg W<|A8 (Sf 2 W<|W6 g13.2 A2) (.of W) (sg W<|B4 (gq W)<|B4 (gq W)<|B4 (Oi g15.1.property 7 W A2) trivial))⟩
 refine B0 ?_
 cases hy14
 exact U6 ⟨(),(D0 (S5 W)<|A8 A2 (.of W)<|sg W<|sg W<|A8 (Sf 2 W<|W6 g13.2 A2) (.of W) (sg W<|B4 (gq W)<|B4 (gq W)<|B4 (Oi g15.1.property 7 W A2) trivial))⟩
 rintro _ ⟨g19,q6⟩
 refine B6 q6<|A6<|K6 W<|sq W<|sq W<|sp W W<|sq W<|C2 (oS y2 (10060030,g2)) W (O8 W A2 W) (sv W<|bs hz6 fun _ hv17 hz6=>C2 (.aptr _ _ _ _) W (KR W W (gq W) hv17) (sd W (Pq W (Tj (gq W)<|Ql hv17) hv17 W W)<|bs hz6 fun _ hv18 hz6=>B9 W W A3 (Eh _ _ hv18) (.inl W) (sv W<|bs hz6 fun v19 hv19 hz6=>B9 W W A3 (Dx _ _ _ hv19) (.inl W) (sq W<|sp W W<|sq W<|sp W W<|C2 (oS y2 (10060030,g2)) W (O8 W A2 W) (sv W<|bs hz6 fun _ hv20 hz6=>C2 (.aptr _ _ _ _) W (KR W W (gq W) hv20) (sd W (Pq W (Tj (gq W)<|Ql hv20) hv20 W W)<|bs hz6 fun _ hv21 hz6=>B9 W W A3 (Eh _ _ hv21) (.inl W) (sv W<|bs hz6 fun v22 hv22 hz6=>B9 W W A3 (Dx _ _ _ hv22) (.inl W) (sm W<|sn W W<|T6 W (gq W) [(di v19.from_),(di v19.to)] W (T6 W (gq W) [(di v22.from_),(di v22.to)] W (A1<|B3<|sq W<|sp W W<|sq W<|sp W W<|sl W (gq W) W (sv W<|bs hz6 fun _ hv23 hz6=>sd W (E7 W W hv23 W)<|sd W (E6 W hv23 W W)<|bs hz6 fun _ hv24 hz6=>B9 W W A3 (Eh _ _ hv24) (.inl W) (sv W<|bs hz6 fun v25 hv25 hz6=>B9 W W A3 (Dx _ _ _ hv25) (.inl W) (sm W<|T6 W A2 [(di v25.from_),(di v25.to)] W (A1<|B3<|sq W<|sp W W<|sp W W ?_))))))))))))))
 refine sd W (C1 W (gq W) W W)<|sv W<|bs hz6 fun _ hv26 hz6=>B9 W W A3 (Li _ _ _ hv26) (.inl W) (sv W<|A1<|B3<|sq W<|sl W (gq W) W (sv W<|sv W<|gp W (M4 W) (fun _=>W) (gt W (vl W (gq W) W)<|gt W (vb W W W)<|sa W W W<|sv W<|gp W (M4 W) (fun _=>W) (gt W (vl W A2 W)<|gt W (fun _=>W)<|gt W (fun w9=>(R1 (A5 w9) (A5 w9) W))<|sa W W W<|sv W<|gp W (M4 W) (fun _=>W) (gt W (vl W (gq W) W)<|gt W (fun _=>W)<|gt W (fun w13=>(R1 (A5 w13) (A5 w13) W))<|sa W W W<|sv W<|gp W (M4 W) (fun _=>W) (gt W (vl W (gq W) W)<|gp W (M4 W) (fun _=>W) (gt W (vl W (gq W) W)<|gt W (fun w18=>(R1 (A5 w18) (A5 w18) W))<|sa W W W<|A1<|cc W hz6 (fun c12 hz6=> ?_)<|fun c12 hz6=> ?_)))))))
 refine A6<|Na W fun u71 _=>sq W<|sq W<|sp W W<|sq W<|C2 (oS x4 (g15.1.val,g15.2)) W (O8 W (gq W) W) (sq W<|sp W W<|sq W<|sp W W<|sl W (gq W) W (sv W<|sv W<|sv W<|sv W<|C2 (dl A4 [y14.2.2.2]) W W (sv W<|C2 (dl Bf [(Crash.mk p2.Tick a1.1 a1.2 x5 (-1) [y14.2.2.2])]) W W (bs hz6 fun _ hv27 hz6=>P1 Bf (g15.1.val,g15.2) x4 (Crash.mk p2.Tick a1.1 a1.2 x5 (-1) [y14.2.2.2]) [] _ (J9<|fun _=>W) W (B5 (Mn g15.1.property W)<|B5 (Mn g15.1.property W)<|B5 (Mn g15.1.property W)<|B5 (Mn g15.1.property W)<|B5 (Mn g15.1.property W)<|B5 (Mn g15.1.property W)<|B5 (Mn g15.1.property W)<|B5 (Mn g15.1.property W)<|B5 (Mn g15.1.property W)<|B5 (Mn g15.1.property W)<|B5 (Mn g15.1.property W)<|B5 (Mn g15.1.property W)<|B5 (Mn g15.1.property W) A2) hv27 (sq W<|sp W W<|Fu _ _ _ _ _ W W W (B5 W<|B5 (Rc g15.1.property W)<|gq W) (nl W) ((Q9 p1)++ (E1 p2)++ [(di v2.Tick),(oS y2 (10060030,g2)),(oS y5 (85,g6)),(dl A4 p3),(.sl (158,u71))]) W (A1<|B7 ?_))))))
 cases hz6
 obtain rfl:=ez6 _ rfl
 refine ⟨nofun,G4 ?_⟩
 rw [bI]at hy12
 cases hy12
 exact Mk (.inr W) (bX) (⟨158, .tail _ (.head _)⟩,u71) (S5 W) (A8 (Sf 2 W<|B5 (Rc g15.1.property W)<|gq W) (.of W) (A8 (Sf 2 W<|B5 (Rc g15.1.property W)<|gq W) (.of W) (A8 A2 (.box (cv<|cv<|cv<|cv<|cv<|cv<|cv<|cv<|cv<|cv<|cv<|cv<|.cons (.of (Ap<|S7 hv27).symm) .nil))<|A8 (Sf 2 W<|B5 (Rc g15.1.property W)<|B5 W<|B5 W<|B5 W<|B5 W<|B5 W<|B5 W<|B5 W<|B5 W<|W6 g13.2 A2) (.of W) (A8 (Sf 2 W<|B5 (Rc g15.1.property W)<|gq W) (.of W) (B4 (Sf 2 W<|B5 (Rc g15.1.property W)<|gq W)<|B4 (Sf 2 W<|B5 (Rc g15.1.property W)<|gq W)<|U5 (gq W) trivial)))))
 refine B0<|E5<|C3<|sv W<|sv W<|A1<|E0 ?_
 cases hz6
 exact ⟨W,(),(D0 (S5 W)<|sg W<|sg W<|sg W<|A8 (Sf 8 W<|W6 g13.2 A2) (.of W) (sg W<|B4 (gq W)<|B4 (gq W)<|B4 (Oi g15.1.property 13 W A2) trivial))⟩
 refine D1 W ?_
 cases hz6
 obtain rfl:=ez6 _ rfl
 refine ⟨nofun,C5 W<|U6 ?_⟩
 exact ⟨_,(),W,(D0 trivial<|sg W<|A8 A2 (.of W)<|sg W<|A8 (Sf 2 W<|W6 g13.2 A2) (.of W) (sg W<|B4 (gq W)<|B4 (gq W)<|B4 (Oi g15.1.property 7 W A2) trivial))⟩
 rintro _ ⟨y13,g17,rfl,q7⟩
 rw [bH]at hy12
 refine E0 ?_
 obtain rfl:=(lC hy12)
 exact Sh q7 (.inl W) (g15.1,g15.2) (S5 W) (sg W<|A8 A2 (.of W)<|sg W<|A8 (Sf 2 W<|W6 g13.2 A2) (.of W) (sg W<|B4 (gq W)<|B4 (gq W)<|B4 (Oi g15.1.property 7 W A2) trivial))
 intro g16
 intro u73 hu73
 refine A1<|C3<|sp W (O8 W A2 W)<|sv W<|sv W<|bs hz4 fun y15 hy15 hz4=>Jo (fk func184 ntmps184 (fun r=>if r==5 then [1002]else if r==6 then [1010]else if r==8 then [1001]else if r==10 then [1001]else if r==11 then [1015]else []) (by with_unfolding_all rfl)) (fun (g20:({d:Nat // d∈ [72,158]}×Nat))=> []) (fun (g20:({d:Nat // d∈ [72,158]}×Nat))=> [((6,u1),some<|.box 25 [(di 0),(.d .nilS),(.d .nilS)]),((30,u7),some<|.box 135 ((Q9 p1)++ (E1 p2)++ [(di v2.Tick),(oS y2 (10060030,g2)),(oS y5 (85,g6)),(dl A4 p3),(oS y15 (g20.1.val,g20.2))])),((1,u47),some<|.box 133 [(.ptr (30,u7) 0)]),((1,g13.1),some<|.box 133 [(.ptr (30,u7) 0)]),((1000000,u53),some<|.obj (T [(1,(.ptr (1,u47) 0)),(5,(.fn (.func 174) [] [(.ptr (1,g13.1) 0)]))]) {r1 with state:= .busy}),((10060030,g2),oB 45 7 C4 y2),((85,g6),oB 127 4 F8 y5),((g20.1.val,g20.2),oB 77 6 Bf y15)]) W (nl W) ?_ ?_
 unfold Fo at hy15
 refine B6 (s0:=⟨T [(0,(.ptr (30,u7) 0)),(1,(di a1.1)),(2,(di a1.2))],G [((30,u7),some<|.box 135 ((Q9 p1)++ (E1 p2)++ [(di v2.Tick),(oS y2 (10060030,g2)),(oS y5 (85,g6)),(dl A4 p3),(oS y12 (g16.1.val,g16.2))])),((10060030,g2),oB 45 7 C4 y2),((85,g6),oB 127 4 F8 y5),((g16.1.val,g16.2),oB 77 6 Bf y12),((6,u1),some<|.box 25 [(di 0),(.d .nilS),(.d .nilS)]),((1,u47),some<|.box 133 [(.ptr (30,u7) 0)]),((1,g13.1),some<|.box 133 [(.ptr (30,u7) 0)]),((1000000,u53),some<|.obj (T [(1,(.ptr (1,u47) 0)),(5,(.fn (.func 174) [] [(.ptr (1,g13.1) 0)]))]) {r1 with state:= .busy})]⟩) (D0 (S5 W)<|sg W<|B4 (gq W)<|B4 (gq W)<|B4 (Oi g16.1.property 7 W A2)<|sg W<|A8 A2 (.of W)<|A8 (W6 g13.2<|gq W) (.of W) (sg W trivial)) ?_
 refine B3<|sq W<|sp W W<|sq W<|sp W W<|sl W A2 W<|sd W (E3 W)<|sv W<|A1<|bs hy15 fun y16 hy16 hy15=>D3 (fun s=> ∃g21:({d:Nat // d∈ [72,158]}×Nat),Sb ⟨T [],G [((6,u1),some<|.box 25 [(di 0),(.d .nilS),(.d .nilS)]),((30,u7),some<|.box 135 ((Q9 p1)++ (E1 p2)++ [(di v2.Tick),(oS y2 (10060030,g2)),(oS y5 (85,g6)),(dl A4 p3),(oS y16 (g21.1.val,g21.2))])),((1,u47),some<|.box 133 [(.ptr (30,u7) 0)]),((1,g13.1),some<|.box 133 [(.ptr (30,u7) 0)]),((1000000,u53),some<|.obj (T [(1,(.ptr (1,u47) 0)),(5,(.fn (.func 174) [] [(.ptr (1,g13.1) 0)]))]) {r1 with state:= .busy}),((10060030,g2),oB 45 7 C4 y2),((85,g6),oB 127 4 F8 y5),((g21.1.val,g21.2),oB 77 6 Bf y16)]⟩ s) ?_ ?_
 refine A7<|D7 (Dg p1 p2 p3 v2 y2 y5 a1) (fun (x6:(Int× (List Crash))) (g22:({d:Nat // d∈ [72,158]}×Nat))=>⟨T [(0,(.ptr (30,u7) 0)),(1,(di a1.1)),(2,(di a1.2)),(15,(di (p1.Zones.length:Int))),(16,(di x6.1))],G [((30,u7),some<|.box 135 ((Q9 p1)++ (E1 p2)++ [(di v2.Tick),(oS y2 (10060030,g2)),(oS y5 (85,g6)),(dl A4 p3),(oS x6.2 (g22.1.val,g22.2))])),((6,u1),some<|.box 25 [(di 0),(.d .nilS),(.d .nilS)]),((1,u47),some<|.box 133 [(.ptr (30,u7) 0)]),((1,g13.1),some<|.box 133 [(.ptr (30,u7) 0)]),((1000000,u53),some<|.obj (T [(1,(.ptr (1,u47) 0)),(5,(.fn (.func 174) [] [(.ptr (1,g13.1) 0)]))]) {r1 with state:= .busy}),((10060030,g2),oB 45 7 C4 y2),((85,g6),oB 127 4 F8 y5),((g22.1.val,g22.2),oB 77 6 Bf x6.2)]⟩) (0,y12) (g16.1,g16.2) _ hy16 (D0 (S5 W)<|A8 A2 (.of W)<|A8 (Sf 3 W<|B5 (Rc g16.1.property W) A2) (.of W) (A8 (Sf 3 W<|B5 (Rc g16.1.property W)<|gq W) (.of W) (A8 (Sf 3 W<|B5 (Rc g16.1.property W)<|B5 W<|W6 g13.2 A2) (.of W) (A8 (Sf 3 W<|B5 (Rc g16.1.property W)<|gq W) (.of W) (B4 (gq W)<|B4 (gq W)<|B4 (Oi g16.1.property 3 W A2) trivial))))) ?_
 intro x6 g22 z7 hz7 ez7
 unfold Dg at hz7
 refine B3<|sv W<|A1<|A6<|cc W hz7 (fun c13 hz7=> ?_)<|fun c13 hz7=> ?_
 refine B0<|A6<|A7<|B3<|sv W<|sv W<|A1<|A6<|B3<|sq W<|sv W<|sv W<|sv W<|bs hz7 fun v28 hv28 hz7=>B9 W (D4 (Y0 A2<|rD<|rD<|rD<|rD<|rD<|rD<|rD<|rD<|rD<|D4 (U8<|gq W)<|D4 (U8<|gq W)<|rD<|D4 (U8<|Oi g22.1.property 7 W A2) E4)<|rD<|rD<|rD E4) (.cons (DLe.bp<|ca W<|ca W<|ca W<|ca W<|ca W<|ca W<|ca W<|ca W<|ca W<|.cons ⟨U7,W⟩ (.cons ⟨U7,W⟩ (ca W<|.cons ⟨U7,W⟩ .nil))) (.cons (.refl _) (.cons (.refl _) A3))) (Iz _ _ _ _ _ hv28) (.inr W) (C2 (.d (bo (!v28))) W W (A1<|cc W hz7 (fun c14 hz7=> ?_)<|fun c14 hz7=> ?_))
 refine Uw W<|C3<|sv W<|sv W<|A1<|E0 ?_
 cases hz7
 exact ⟨W,(g22.1,g22.2),(D0 (S5 W)<|A8 A2 (.of W)<|sg W<|sg W<|A8 (Sf 2 W<|W6 g13.2 A2) (.of W) (sg W<|B4 (gq W)<|B4 (gq W)<|B4 (Oi g22.1.property 7 W A2) trivial))⟩
 refine B0<|B3<|sq W<|sv W<|sv W<|bs hz7 fun v29 hv29 hz7=>B9 W (D4 (Y0 A2<|rD<|rD<|rD<|rD<|rD<|rD<|rD<|rD<|rD<|D4 (U8<|gq W)<|D4 (U8<|gq W)<|rD<|D4 (U8<|Oi g22.1.property 7 W A2) E4)<|rD<|rD E4) (.cons (DLe.bp<|ca W<|ca W<|ca W<|ca W<|ca W<|ca W<|ca W<|ca W<|ca W<|.cons ⟨U7,W⟩ (.cons ⟨U7,W⟩ (ca W<|.cons ⟨U7,W⟩ .nil))) (.cons (.refl _) A3)) (Jg _ _ _ _ hv29) (.inr W) (sq W<|sv W<|sv W<|bs hz7 fun v30 hv30 hz7=>B9 W (D4 (Y0 A2<|rD<|rD<|rD<|rD<|rD<|rD<|rD<|rD<|rD<|D4 (U8<|gq W)<|D4 (U8<|gq W)<|rD<|D4 (U8<|Oi g22.1.property 7 W A2) E4)<|rD<|rD E4) (.cons (DLe.bp<|ca W<|ca W<|ca W<|ca W<|ca W<|ca W<|ca W<|ca W<|ca W<|.cons ⟨U7,W⟩ (.cons ⟨U7,W⟩ (ca W<|.cons ⟨U7,W⟩ .nil))) (.cons (.refl _) A3)) (Jg _ _ _ _ hv30) (.inr W) (sm W<|sn W W<|T6 W (gq W) (Si v29) W (T6 W (gq W) (Si v30) W (A1<|B3<|sv W<|sv W<|C2 (dl A4 [a1.1,a1.2]) W W (C2 (dl A4 [a1.1,a1.2]) W W (A1<|A6<|A6<|K6 W<|sq W<|sl W (gq W) W (sq W<|sl W A2 W<|bs hz7 fun v31 hv31 hz7=>B9 W W A3 (Du _ _ _ hv31) (.inl W) (sq W<|sl W A2 W<|sq W<|sl W (gq W) W (bs hz7 fun v32 hv32 hz7=>B9 W W A3 (Kr _ _ _ hv32) (.inl W) (C2 (dl A4 [v31,v32]) W W (bs hz7 fun _ hv33 hz7=>B9 W W A3 (Pc _ _ hv33) (.inl W) (A1<|bs hz7 fun y17 hy17 hz7=>D3 (fun s=> ∃g23:Unit,Sb ⟨T [(0,(.ptr (30,u7) 0)),(1,(di a1.1)),(2,(di a1.2)),(6,(di x6.1)),(9,(dl A4 y17)),(15,(di (p1.Zones.length:Int))),(16,(di x6.1))],G [((30,u7),some<|.box 135 ((Q9 p1)++ (E1 p2)++ [(di v2.Tick),(oS y2 (10060030,g2)),(oS y5 (85,g6)),(dl A4 p3),(oS x6.2 (g22.1.val,g22.2))])),((6,u1),some<|.box 25 [(di 0),(.d .nilS),(.d .nilS)]),((1,u47),some<|.box 133 [(.ptr (30,u7) 0)]),((1,g13.1),some<|.box 133 [(.ptr (30,u7) 0)]),((1000000,u53),some<|.obj (T [(1,(.ptr (1,u47) 0)),(5,(.fn (.func 174) [] [(.ptr (1,g13.1) 0)]))]) {r1 with state:= .busy}),((10060030,g2),oB 45 7 C4 y2),((85,g6),oB 127 4 F8 y5),((g22.1.val,g22.2),oB 77 6 Bf x6.2)]⟩ s) ?_ ?_))))))))))))
 refine A7<|B3<|sv W<|sv W<|A1<|cc W hy17 (fun c15 hy17=> ?_)<|fun c15 hy17=> ?_
 refine C3<|sv W<|C2 (dl A4 [a1.1]) W W (C2 (dl A4 [a1.1]) W W (A1<|E5 ?_))
 cases hy17
 exact U6 ⟨(),(D0 (S5 W)<|sg W<|sg W<|sg W<|A8 (Sf 6 W<|W6 g13.2 A2) (.of W) (sg W<|B4 (gq W)<|B4 (gq W)<|B4 (Oi g22.1.property 11 W A2) trivial))⟩
 refine B3<|sv W<|sv W<|A1<|cc W hy17 (fun c16 hy17=> ?_)<|fun c16 hy17=> ?_
 refine C3<|sv W<|C2 (dl A4 [a1.2]) W W (C2 (dl A4 [a1.2]) W W (A1<|E5 ?_))
 cases hy17
 exact U6 ⟨(),(D0 (S5 W)<|sg W<|sg W<|sg W<|A8 (Sf 6 W<|W6 g13.2 A2) (.of W) (sg W<|B4 (gq W)<|B4 (gq W)<|B4 (Oi g22.1.property 11 W A2) trivial))⟩
 refine B0<|E5 ?_
 cases hy17
 exact U6 ⟨(),(D0 (S5 W)<|sg W<|sg W<|sg W<|A8 (Sf 6 W<|W6 g13.2 A2) (.of W) (sg W<|B4 (gq W)<|B4 (gq W)<|B4 (Oi g22.1.property 11 W A2) trivial))⟩
 rintro _ ⟨g23,q8⟩
 refine B6 q8<|Na W fun u87 _=>sq W<|sq W<|sp W W<|sq W<|C2 (oS x6.2 (g22.1.val,g22.2)) W (O8 W A2 W) (sq W<|sp W W<|sq W<|sp W W<|sl W A2 W<|sv W<|sv W<|sv W<|sv W<|sv W<|C2 (dl Bf [(Crash.mk p2.Tick a1.1 a1.2 (-1) x6.1 y17)]) W W (bs hz7 fun _ hv34 hz7=>P1 Bf (g22.1.val,g22.2) x6.2 (Crash.mk p2.Tick a1.1 a1.2 (-1) x6.1 y17) [] _ (J9<|fun _=>W) W (B5 (Mn g22.1.property W)<|B5 (Mn g22.1.property W)<|B5 (Mn g22.1.property W)<|B5 (Mn g22.1.property W)<|B5 (Mn g22.1.property W)<|B5 (Mn g22.1.property W)<|B5 (Mn g22.1.property W) A2) hv34 (sq W<|sp W W<|Fu _ _ _ _ _ W W W (B5 W<|B5 (Rc g22.1.property W) A2) (nl W) ((Q9 p1)++ (E1 p2)++ [(di v2.Tick),(oS y2 (10060030,g2)),(oS y5 (85,g6)),(dl A4 p3),(.sl (72,u87))]) W (A1<|E5<|C3<|sv W<|sv W<|A1<|E0 ?_))))
 cases hz7
 exact ⟨W,(⟨72, .head _⟩,u87),(D0 (S5 W)<|A8 A2 (.box (cv<|cv<|cv<|cv<|cv<|cv<|cv<|cv<|cv<|cv<|cv<|cv<|.cons (.of (Ap<|S7 hv34).symm) .nil))<|A8 (Sf 2 W<|B5 (Rc g22.1.property W)<|gq W) (.of W) (A8 (Sf 2 W<|B5 (Rc g22.1.property W)<|gq W) (.of W) (A8 (Sf 2 W<|B5 (Rc g22.1.property W)<|B5 W<|B5 W<|W6 g13.2 A2) (.of W) (A8 (Sf 2 W<|B5 (Rc g22.1.property W)<|gq W) (.of W) (B4 (Sf 2 W<|B5 (Rc g22.1.property W)<|gq W)<|B4 (Sf 2 W<|B5 (Rc g22.1.property W)<|gq W)<|U5 (gq W) trivial)))))⟩
 refine D1 W ?_
 cases hz7
 obtain rfl:=ez7 _ rfl
 refine ⟨nofun,C5 W<|U6 ?_⟩
 exact ⟨(g22.1,g22.2),(D0 trivial<|sg W<|A8 A2 (.of W)<|sg W<|A8 (Sf 2 W<|W6 g13.2 A2) (.of W) (sg W<|B4 (gq W)<|B4 (gq W)<|B4 (Oi g22.1.property 7 W A2) trivial))⟩
 rintro _ ⟨g21,q9⟩
 refine E0 ?_
 obtain rfl:=(lC hy15)
 exact Sh q9 (.inl W) (g21.1,g21.2) trivial (A8 A2 (.of W)<|sg W<|sg W<|A8 (Sf 2 W<|W6 g13.2 A2) (.of W) (sg W<|B4 (gq W)<|B4 (gq W)<|B4 (Oi g21.1.property 7 W A2) trivial))
 intro g20
 intro u89 hu89
 refine A1<|E5<|E0 ?_
 cases hz4
 exact SD (gq W) (g20.1,g20.2) (sg W<|A8 (Sf 2 W<|W6 g13.2 A2) (.of W) (A8 A2 (.of W)<|sg W<|B4 (gq W)<|B4 (gq W)<|B4 (Oi g20.1.property 7 W A2) trivial))
 rintro x4 g15 _ rfl qx4
 refine E5<|U6 ?_
 exact ⟨(g15.1,g15.2),(Sb.after qx4<|D0 trivial<|sg W<|sg W<|B4 (gq W)<|B4 (gq W)<|B4 (Oi g15.1.property 6 W A2) trivial)⟩
 rintro _ ⟨g14,q10⟩
 refine E0 ?_
 obtain rfl:=(lC hy9)
 exact Sh q10 (.inl W) (g14.1,g14.2) (S5 W) (A8 A2 (.of W)<|sg W<|B4 (gq W)<|B4 (gq W)<|B4 (Oi g14.1.property 4 W A2) trivial)
 intro g12
 intro u90 hu90
 refine A1<|E5<|C3<|sv W<|sv W<|A1<|Vv<|B3<|sv W<|A1<|A6<|Oh W<|Uw W ?_
 cases hy1
 exact U6 ⟨(g2,g6,(g12.1,g12.2)),(D0 (S5 W)<|A8 A2 (.of W)<|sg W<|B4 (gq W)<|B4 (gq W)<|B4 (Oi g12.1.property 4 W A2) trivial)⟩
 rintro _ ⟨g1,q11⟩
 refine B6 q11<|B3<|sq W<|sp W W<|sq W<|sp W W<|sl W (gq W) W (sv W<|sq W<|sp W W<|sq W<|T6 W (gq W) ((Q9 p1)++ (E1 p2)++ [(di<|J6 (v2.Tick+1)),(oS y1.1 (10060030,g1.1)),(oS y1.2.1 (85,g1.2.1)),(dl A4 p3),(oS y1.2.2 (g1.2.2.1.val,g1.2.2.2))]) W (A1<|A6<|Kd fun _ _=>N5 (.ptr _ _) W W (N5 (.ptr _ _) W W (N5 (.ptr _ _) W W (N5 (W1 [(di<|J6 (v2.Tick+1)),(oS y1.1 (10060030,g1.1)),(oS y1.2.1 (85,g1.2.1))]) W (C1 W A2 W W) (N5 (.ptr _ _) W W (N5 (.ptr _ _) W W (N5 (.ptr _ _) W W (N5 (oS y1.2.2 (g1.2.2.1.val,g1.2.2.2)) W (O8 W A2 W) (Ke _ _ _ _ _ (S8 _) W W (gq W) (nl W) [(di<|J6 (v2.Tick+1)),(oS y1.1 (10060030,g1.1)),(oS y1.2.1 (85,g1.2.1))] W (N5 (oS y1.2.2 (g1.2.2.1.val,g1.2.2.2)) W W (N5 (.d _) W W (Ua ⟨by first|rfl|((generalize g1.2.2.1=q0;rcases q0 with ⟨d0,_|⟨_,_|⟨_,h0⟩⟩⟩)<;>(generalize y1.2.2=z4;cases z4)<;>first|rfl|contradiction),?_⟩)))))))))))))
 refine B7 ?_
 cases h
 exact A9 (.inr W) (HL (K7 W A2 (nl W) W) (B8 W) (B8 W) (Iu<|rD<|D4 (U8<|gq W)<|D4 (U8<|gq W) E4) (U8<|Oi g1.2.2.1.property 6 W A2) C6) (.tup (.cons (.agg (ca W<|.cons ⟨U7,W⟩ (.cons ⟨U7,W⟩ .nil))) (.cons U7 A3)))
def Dr [Lp]:Option Bool:=
  (Mq).bind fun v1=>(Ok 0 10000 1000).bind fun v2=>(Ok 1 46000 1000).bind fun v3=>(Mr v1 [v2,v3]).bind fun v4=>cond (((v4.2 !=0)||((v4.1.In.length:Int) !=0))||((v4.1.Agents.length:Int) !=2)) (some false) ((Jv v1 v4.1 [50,(-90)]).bind fun v5=>((cond (((v5.2.2==0)&& ((v5.2.1.length:Int)==0))&& ((v5.1.Agents.length:Int)==2)) (F2 v5.1.Agents 0) (some default))).bind fun v6=>((cond ((((v5.2.2==0)&& ((v5.2.1.length:Int)==0))&& ((v5.1.Agents.length:Int)==2))&& (v6.S==11030)) (F2 v5.1.Agents 1) (some default))).bind fun v7=>((cond (((((v5.2.2==0)&& ((v5.2.1.length:Int)==0))&& ((v5.1.Agents.length:Int)==2))&& (v6.S==11030))&& (v7.V==910)) (Nq 100 30) (some default))).bind fun v8=>some ((((((v5.2.2==0)&& ((v5.2.1.length:Int)==0))&& ((v5.1.Agents.length:Int)==2))&& (v6.S==11030))&& (v7.V==910))&& (v8==120)))
theorem Sv(r)(h:Dr=some r):PCall prog 21 [] (bo r):=by
 refine C7 (fk func21 ntmps21 (fun r=>if r==2 then [1003]else if r==5 then [1002]else []) (by with_unfolding_all rfl)) (nl W) ?_
 unfold Dr at h
 refine B6 (s0:=⟨T [],G []⟩) (G0 W W) ?_
 refine B3<|sv W<|A1<|B3<|bs h fun v1 hv1 h=>B9 W W A3 (FH _ hv1) (.inl W) (sm W<|T6 W A2 (Q9 v1) W (A1<|A6<|K6 W<|sd W (C1 W A2 W W)<|bs h fun v2 hv2 h=>B9 W W A3 (Sl _ _ _ _ hv2) (.inl W) (bs h fun v3 hv3 h=>B9 W W A3 (Sl _ _ _ _ hv3) (.inl W) (C2 (dl C4 [v2,v3]) W (DO C4 ([v2,v3]:List Agent) (fun _=>W) W W ⟨W,W,W,W,W,W,trivial⟩ (fun _=>W)) (bs h fun v4 hv4 h=>B9 W W A3 (FK _ _ _ hv4) (.inl W) (sv W<|sv W<|sv W<|sm W<|T6 W A2 (E1 v4.1) W (sv W<|A1<|A6<|B3<|sv W<|sv W<|sv W<|gp W (N7 W) (fun _=>W) (gf W (vl W A2 W)<|gf W (fun w3=>(E3<|A5 w3))<|gf W (vb W W W)<|sd W (U2 W W<|fun hc=>A5<|N2 hc)<|sv W<|gp W (N7 W) (fun _=>W) (gf W (vl W A2 W)<|gf W (fun w7=>(E3<|A5 w7))<|gf W (vb W W W)<|sd W (U2 W W<|fun hc=>A5<|N2 hc)<|A1<|cc W h (fun c1 h=> ?_)<|fun c1 h=> ?_)))))))))
 refine B3<|sv W<|A1<|B7 ?_
 cases h
 exact A9 (.inr W) (C0 (B8 W) C6) (.refl _)
 refine B0<|B3<|sd W (C1 W (gq W) W W)<|sd W (C1 W A2 W W)<|C2 (dl A4 [50,(-90)]) W W (bs h fun v5 hv5 h=>B9 W W A3 (CJ _ _ _ _ hv5) (.inl W) (sv W<|sv W<|sv W<|sv W<|sm W<|T6 W A2 (E1 v5.1) W (sv W<|sv W<|A1<|B3<|sv W<|sv W<|sv W<|gt W (fun _=>W)<|gt W (fun w10=>(E3<|A5 w10))<|gt W (vb W W W)<|sa W W W<|sv W<|gp W (M4 W) (fun _=>W) (gt W (vl W A2 W)<|gt W (fun w14=>(E3<|A5 w14))<|gt W (vb W W W)<|sa W W W<|sv W<|gp W (M4 W) (fun _=>W) (gt W (vl W A2 W)<|bs h fun _ hv6 h=>gt W (fun w18=>(E7 (A5 w18) W (D8 w18 hv6) W)) ?_)))))
 refine gt W (fun w19=>(by simp only [A5 w19];rfl)) ?_
 refine gt W (fun w20=>(H8 (A5 w20) (D8 w20 hv6) W))<|gt W (vb W W W)<|sa W W W<|sv W<|gp W (M4 W) (fun _=>W) (gt W (vl W A2 W)<|bs h fun _ hv7 h=>gt W (fun w24=>(E7 (A5 w24) W (D8 w24 hv7) W)) ?_)
 refine gt W (fun w25=>(by simp only [A5 w25];rfl)) ?_
 refine gt W (fun w26=>(H8 (A5 w26) (D8 w26 hv7) W))<|gt W (vb W W W)<|sa W W W<|sv W<|bs h fun v8 hv8 h=>N8 _ (i64 v8) (M4 W) (fun w28=>⟨_,_,_,_,W,W,A3,Pe _ _ _<|D8 w28 hv8,(.inl W)⟩) (gt W (vb W W W)<|sa W W W<|sv W<|A1<|B7 ?_)
 cases h
 exact A9 (.inr W) (C0 (B8 W) C6) (.refl _)
def P9 (p1:ByteArray)(p2:ByteArray):Option Bool:=
  ((cond (decide ((p1.size:Int)≥(p2.size:Int))) (Yl p1 0 (p2.size:Int)) (some default))).bind fun v1=>some ((decide ((p1.size:Int)≥(p2.size:Int)))&& (v1.toList==p2.toList))
theorem Io(p1 p2 r)(h:P9 p1 p2=some r):PCall prog 230 [(Al p1),(Al p2)] (bo r):=by
 refine C7 (fk func230 ntmps230 m0 (by with_unfolding_all rfl)) (nl W) ?_
 unfold P9 at h
 refine B6 (s0:=⟨T [(0,(.d _)),(1,(.d _))],G []⟩) (G0 W W) ?_
 refine B3<|sv W<|A1<|B3<|sv W<|sd W (Sg W)<|sv W<|sd W (Sg W)<|sv W<|sv W<|gt W (fun _=>W)<|gt W (fun _=>W)<|gt W (fun w3=>(Sg<|A5 w3))<|bs h fun _ hv1 h=>gt W (fun w4=>(MS (A5 w4) (A5 w4) (D8 w4 hv1)))<|gt W (fun _=>W)<|gt W (fun w6=>(SW (A5 w6)<|A5 w6))<|sa W W W<|sv W<|A1<|B7 ?_
 cases h
 exact A9 (.inr W) (C0 (B8 W) C6) (.refl _)
def T3 (p1:ByteArray)(p2:ByteArray):Option (ByteArray×Bool):=
  (P9 p1 p2).bind fun v1=>cond (!v1) (some (p1,false)) ((Yl p1 (p2.size:Int) (p1.size:Int)).bind fun v2=>some (v2,true))
theorem Ip(p1 p2 r)(h:T3 p1 p2=some r):PCall prog 191 [(Al p1),(Al p2)] (.tup [(Al r.1),(bo r.2)]):=by
 refine C7 (fk func191 ntmps191 m0 (by with_unfolding_all rfl)) (nl W) ?_
 unfold T3 at h
 refine B6 (s0:=⟨T [(0,(.d _)),(1,(.d _))],G []⟩) (G0 W W) ?_
 refine B3<|sv W<|sv W<|A1<|A6<|B3<|sv W<|sv W<|bs h fun v1 hv1 h=>B9 W W A3 (Io _ _ _ hv1) (.inl W) (C2 (.d (bo (!v1))) W W (A1<|cc W h (fun c1 h=> ?_)<|fun c1 h=> ?_))
 refine B3<|sv W<|sv W<|sv W<|A1<|B7 ?_
 cases h
 exact A9 (.inr W) (Ic (B8 W) (B8 W) C6 C6) (.refl _)
 refine B0<|B3<|sv W<|sv W<|sd W (Sg W)<|bs h fun _ hv2 h=>sd W (Yu W W hv2)<|sv W<|sv W<|A1<|B7 ?_
 cases h
 exact A9 (.inr W) (Ic (B8 W) (B8 W) C6 C6) (.refl _)
def Cc (p1:ByteArray)(p2:ByteArray):Option (ByteArray×Bool):=
  (T3 p1 p2).bind fun v1=>some (v1.1,v1.2)
theorem Sw(p1 p2 r)(h:Cc p1 p2=some r):PCall prog 108 [(Al p1),(Al p2)] (.tup [(Al r.1),(bo r.2)]):=by
 refine C7 (fk func108 ntmps108 m0 (by with_unfolding_all rfl)) (nl W) ?_
 unfold Cc at h
 refine B6 (s0:=⟨T [(0,(.d _)),(1,(.d _))],G []⟩) (G0 W W) ?_
 refine B3<|sv W<|sv W<|A1<|B3<|sv W<|sv W<|bs h fun _ hv1 h=>B9 W W A3 (Ip _ _ _ hv1) (.inl W) (sv W<|sv W<|sv W<|sv W<|A1<|B7 ?_)
 cases h
 exact A9 (.inr W) (Ic (B8 W) (B8 W) C6 C6) (.refl _)
def T4 (p1:WorldReader)(x1:(Int×Int)):Option (Stp (Int×Int) Int):=
  cond (decide (x1.2<8)) ((HZ p1.s x1.2).bind fun v1=>some (.go ((IntKind.wrap .u64 (((BitVec.ofInt (IntKind.bits .u64) (IntKind.wrap .u64 (x1.1*2^ (min (8:Int).toNat (IntKind.bits .u64))))|||(BitVec.ofInt (IntKind.bits .u64) (IntKind.wrap .u64 v1))).toNat:Nat))),(J6 (x1.2+1))))) (some (.out x1.1))
def C8 [Lp](p1:WorldReader):Option (Int×WorldReader):=
  cond (decide ((p1.s.size:Int)<8)) (some (0,(WorldReader.mk p1.s true))) ((loop (T4 p1) (0,0)).bind fun y1=>(Yl p1.s 8 (p1.s.size:Int)).bind fun v2=>some ((J6 y1),(WorldReader.mk v2 p1.bad)))
theorem L5(p1 r)(h:C8 p1=some r):MCall prog 109 [(.ptr (900000,0) 0)] [(.box 165 [(.d (Al p1.s)),(.d (bo p1.bad))])] (di r.1) [some (.box 165 [(.d (Al r.2.s)),(.d (bo r.2.bad))])] []:=by
 refine Fv (fk func109 ntmps109 m0 (by with_unfolding_all rfl)) W (nl W) ?_
 unfold C8 at h
 refine B6 (s0:=⟨T [(0,(.ptr _ _))],G [((900000,0),some<|.box 165 _)]⟩) (G0 W W) ?_
 refine B3<|sv W<|A1<|A6<|B3<|sq W<|sp W W<|sq W<|sl W A2 W<|sd W (Sg W)<|sv W<|A1<|cc W h (fun c1 h=> ?_)<|fun c1 h=> ?_
 refine B3<|sq W<|sp W W<|sq W<|T6 W A2 [(.d (Al p1.s)),(.d (bo true))] W (A1<|B3<|sv W<|A1<|B7 ?_)
 cases h
 exact Fd (.inr W) [] (Ou (B8 W) C6) (.refl _) ⟨⟨_,_,_,A2,N6,W,Ov,W⟩,trivial⟩
 refine B0<|B3<|sv W<|A1<|A6<|B3<|sv W<|A1<|bs h fun y1 hy1 h=>D3 (fun s=> ∃g1:Unit,Sb ⟨T [(0,(.ptr (900000,0) 0)),(3,(.d (.v (.int .u64 y1))))],G [((900000,0),some<|.box 165 [(.d (Al p1.s)),(.d (bo p1.bad))])]⟩ s) ?_ ?_
 refine A7<|D7 (T4 p1) (fun (x1:(Int×Int)) (g2:Unit)=>⟨T [(0,(.ptr (900000,0) 0)),(3,(.d (.v (.int .u64 x1.1)))),(14,(di x1.2))],G [((900000,0),some<|.box 165 [(.d (Al p1.s)),(.d (bo p1.bad))])]⟩) (0,0) () _ hy1 (G0 W W) ?_
 intro x1 g2 z1 hz1 ez1
 unfold T4 at hz1
 refine B3<|sv W<|A1<|A6<|cc W hz1 (fun c2 hz1=> ?_)<|fun c2 hz1=> ?_
 refine B0<|A6<|A7<|B3<|sv W<|sv W<|A1<|C3<|sv W<|sv W<|sq W<|sp W W<|sq W<|sl W A2 W<|sv W<|bs hz1 fun _ hv1 hz1=>sd W (FF W W hv1)<|sv W<|sv W<|sv W<|A1<|E5<|C3<|sv W<|sv W<|A1<|E0 ?_
 cases hz1
 exact ⟨W,(),(G0 W W)⟩
 refine D1 W ?_
 cases hz1
 obtain rfl:=ez1 _ rfl
 refine ⟨nofun,C5 W<|U6 ?_⟩
 exact ⟨(),(G0 W W)⟩
 rintro _ ⟨g1,q1⟩
 refine B6 q1<|B3<|sq W<|sp W W<|sq W<|sp W W<|sl W A2 W<|bs h fun v2 hv2 h=>sd W (Yu W W hv2)<|sq W<|sp W W<|T6 W A2 [(.d (Al v2)),(.d (bo p1.bad))] W (A1<|B3<|sv W<|sv W<|sv W<|A1<|B7 ?_)
 cases h
 exact Fd (.inr W) [] (Ou (B8 W) C6) (.refl _) ⟨⟨_,_,_,A2,N6,W,Ov,W⟩,trivial⟩
def L7 [Lp](p1:WorldReader)(p2:Int):Option (Int×WorldReader):=
  (C8 p1).bind fun v1=>cond ((decide (v1.1<0))||(decide (v1.1>p2))) (some (0,(WorldReader.mk v1.2.s true))) (some (v1.1,v1.2))
theorem X0(p1 p2 r)(h:L7 p1 p2=some r):MCall prog 110 [(.ptr (900000,0) 0),(di p2)] [(.box 165 [(.d (Al p1.s)),(.d (bo p1.bad))])] (di r.1) [some (.box 165 [(.d (Al r.2.s)),(.d (bo r.2.bad))])] []:=by
 refine Fv (fk func110 ntmps110 (fun r=>if r==1 then [1001001]else []) (by with_unfolding_all rfl)) W (nl W) ?_
 unfold L7 at h
 refine B6 (s0:=⟨T [(0,(.ptr _ _)),(1,(.d _))],G [((900000,0),some<|.box 165 _)]⟩) (G0 W W) ?_
 refine B3<|sv W<|A1<|B3<|sq W<|bs h fun v1 hv1 h=>Ed (v:= .d (i64 v1.1)) (us:= [(900000,0)]) (Bu (L5 _ _ hv1) [(900000,0)] [(900000,0)] _ (((900000,0),some<|.box 165 [(.d (Al v1.2.s)),(.d (bo v1.2.bad))])::_) W M2 (G2 (R7 A2 W) P0) (H9 A2 J7) ⟨⟨_,A2, .of W⟩,trivial⟩ (fun _ h=>h) nd1 W W W) (sv W<|A1<|A6<|B3<|sv W<|sv W<|sv W<|gf W (fun _=>W)<|gf W (fun _=>W)<|gf W (fun w3=>(R1 (A5 w3) (A5 w3) W))<|sd W (U2 W W<|fun hc=>A5<|N2 hc)<|A1<|cc W h (fun c1 h=> ?_)<|fun c1 h=> ?_)
 refine B3<|sq W<|sp W W<|sq W<|T6 W A2 [(.d (Al v1.2.s)),(.d (bo true))] W (A1<|B3<|sv W<|A1<|B7 ?_)
 cases h
 exact Fd (.inr W) [] (Ou (B8 W) C6) (.refl _) ⟨⟨_,_,_,A2,N6,W,Ov,W⟩,trivial⟩
 refine B0<|B3<|sv W<|sv W<|A1<|B7 ?_
 cases h
 exact Fd (.inr W) [] (Ou (B8 W) C6) (.refl _) ⟨⟨_,_,_,A2,N6,W,Ov,W⟩,trivial⟩
def V8 [Lp](v1:(Int×WorldReader))(x1:(Int×WorldReader× (List Int))):Option (Stp (Int×WorldReader× (List Int)) (WorldReader× (List Int))):=
  cond (decide (x1.1<v1.1)) ((C8 x1.2.1).bind fun v2=>(Y4 x1.2.2 [v2.1]).bind fun v3=>some (.go ((J6 (x1.1+1)),v2.2,v3))) (some (.out (x1.2.1,x1.2.2)))
def Z1 [Lp](p1:WorldReader):Option (Agent×WorldReader):=
  (L7 p1 8).bind fun v1=>(loop (V8 v1) (0,v1.2,[])).bind fun y1=>(C8 y1.1).bind fun v4=>(C8 v4.2).bind fun v5=>(C8 v5.2).bind fun v6=>(C8 v6.2).bind fun v7=>(L7 v7.2 1).bind fun v8=>(L7 v8.2 1).bind fun v9=>some ((Agent.mk y1.2 v4.1 v5.1 v6.1 v7.1 (v8.1==1) (v9.1==1)),v9.2)
theorem Pw(p1 r)(h:Z1 p1=some r):MCall prog 111 [(.ptr (900000,0) 0)] [(.box 165 [(.d (Al p1.s)),(.d (bo p1.bad))])] (.d (.agg (C4 r.1))) [some (.box 165 [(.d (Al r.2.s)),(.d (bo r.2.bad))])] []:=by
 refine Fv (fk func111 ntmps111 (fun r=>if r==1 then [1001001]else if r==3 then [1003003,1004]else if r==5 then [1005001,1005003,1005005,1005007]else if r==6 then [1006001,1006004]else []) (by with_unfolding_all rfl)) W (nl W) ?_
 unfold Z1 at h
 refine B6 (s0:=⟨T [(0,(.ptr _ _))],G [((900000,0),some<|.box 165 _)]⟩) (G0 W W) ?_
 refine lr<|fun u1 _=>sm W<|A1<|A6<|B3<|sq W<|bs h fun v1 hv1 h=>Ed (v:= .d (i64 v1.1)) (us:= [(900000,0)]) (Bu (X0 _ _ _ hv1) [(900000,0)] [(900000,0)] _ (((900000,0),some<|.box 165 [(.d (Al v1.2.s)),(.d (bo v1.2.bad))])::_) W M2 (G2 (R7 (B5 W A2) W)<|G2 Mj P0) (H9 (B5 W A2) J7) ⟨⟨_,(B5 W A2), .of W⟩,trivial⟩ (fun _ h=>h) nd1 W W W) (sv W<|A1<|bs h fun y1 hy1 h=>D3 (fun s=> ∃g1:Nat,Sb ⟨T [(0,(.ptr (900000,0) 0)),(2,(.ptr (2,u1) 0))],G [((900000,0),some<|.box 165 [(.d (Al y1.1.s)),(.d (bo y1.1.bad))]),((2,u1),some<|.box 45 ([(oS y1.2 (12,g1))]++ (zs 4)++ [(.d (bo false)),(.d (bo false))])),((12,g1),oB 3 1 A4 y1.2)]⟩ s) ?_ ?_)
 refine A7<|D7 (V8 v1) (fun (x1:(Int×WorldReader× (List Int))) (g2:Nat)=>⟨T [(0,(.ptr (900000,0) 0)),(2,(.ptr (2,u1) 0)),(4,(di v1.1)),(5,(di x1.1))],G [((900000,0),some<|.box 165 [(.d (Al x1.2.1.s)),(.d (bo x1.2.1.bad))]),((2,u1),some<|.box 45 ([(oS x1.2.2 (12,g2))]++ (zs 4)++ [(.d (bo false)),(.d (bo false))])),((12,g2),oB 3 1 A4 x1.2.2)]⟩) (0,v1.2,[]) 0 _ hy1 (D0 (S5 W)<|A8 A2 (.of W)<|sg W<|Y5 trivial) ?_
 intro x1 g2 z1 hz1 ez1
 unfold V8 at hz1
 refine B3<|sv W<|A1<|A6<|cc W hz1 (fun c1 hz1=> ?_)<|fun c1 hz1=> ?_
 refine B0<|A6<|A7<|Kd fun u4 hu4=>N5 (.ptr _ _) W W (N5 (oS x1.2.2 (12,g2)) W (O8 W (gq W) W) (N5 (.ptr _ _) W W (bs hz1 fun v2 hv2 hz1=>CD (v:= .d (i64 v2.1)) (us:= [(900000,0)]) (Bu (L5 _ _ hv2) [(900000,0)] [(900000,0)] _ (((900000,0),some<|.box 165 [(.d (Al v2.2.s)),(.d (bo v2.2.bad))])::_) W M2 (G2 (R7 A2 W) P0) (H9 A2 J7) ⟨⟨_,A2, .of W⟩,trivial⟩ (fun _ h=>h) nd1 W W W) (N5 (dl A4 [v2.1]) W W (bs hz1 fun v3 hv3 hz1=>Pr A4 (12,g2) x1.2.2 [v2.1] _ (J9<|fun _=>W) W (gq W) hv3 (B5 W<|Fc hu4) (N5 (.ptr _ _) W W (Ke _ _ _ _ _ (Mo _ _) W W (gq W) (nl W) ([(oS v3 (12,u4))]++ (zs 4)++ [(.d (bo false)),(.d (bo false))]) W (Ua<|DQ (fun q=>⟨⟨by first|rfl|((generalize x1.2.2=l0;cases l0)<;>(generalize v3=l1;cases l1)<;>rfl),q⟩,⟨by first|rfl|((generalize x1.2.2=l0;cases l0)<;>(generalize v3=l1;cases l1)<;>rfl),q⟩,⟨by first|rfl|((generalize x1.2.2=l0;cases l0)<;>(generalize v3=l1;cases l1)<;>rfl),q⟩⟩) ?_))))))))
 refine E5<|C3<|sv W<|sv W<|A1<|E0 ?_
 cases hz1
 exact ⟨W,u4,(D0 (S5 W)<|sg W<|A8 A2 (.of W)<|B4 (gq W) trivial)⟩
 refine D1 W ?_
 cases hz1
 obtain rfl:=ez1 _ rfl
 refine ⟨nofun,C5 W<|U6 ?_⟩
 exact ⟨g2,(D0 (S5 W)<|A8 A2 (.of W)<|sg W<|B4 (gq W) trivial)⟩
 rintro _ ⟨g1,q1⟩
 refine B6 q1<|B3<|sq W<|bs h fun v4 hv4 h=>Ed (v:= .d (i64 v4.1)) (us:= [(900000,0)]) (Bu (L5 _ _ hv4) [(900000,0)] [(900000,0)] _ (((900000,0),some<|.box 165 [(.d (Al v4.2.s)),(.d (bo v4.2.bad))])::_) W M2 (G2 (R7 A2 W) P0) (H9 A2 J7) ⟨⟨_,A2, .of W⟩,trivial⟩ (fun _ h=>h) nd1 W W W) (sq W<|bs h fun v5 hv5 h=>Ed (v:= .d (i64 v5.1)) (us:= [(900000,0)]) (Bu (L5 _ _ hv5) [(900000,0)] [(900000,0)] _ (((900000,0),some<|.box 165 [(.d (Al v5.2.s)),(.d (bo v5.2.bad))])::_) W M2 (G2 (R7 A2 W) P0) (H9 A2 J7) ⟨⟨_,A2, .of W⟩,trivial⟩ (fun _ h=>h) nd1 W W W) (sq W<|bs h fun v6 hv6 h=>Ed (v:= .d (i64 v6.1)) (us:= [(900000,0)]) (Bu (L5 _ _ hv6) [(900000,0)] [(900000,0)] _ (((900000,0),some<|.box 165 [(.d (Al v6.2.s)),(.d (bo v6.2.bad))])::_) W M2 (G2 (R7 A2 W) P0) (H9 A2 J7) ⟨⟨_,A2, .of W⟩,trivial⟩ (fun _ h=>h) nd1 W W W) (sq W<|bs h fun v7 hv7 h=>Ed (v:= .d (i64 v7.1)) (us:= [(900000,0)]) (Bu (L5 _ _ hv7) [(900000,0)] [(900000,0)] _ (((900000,0),some<|.box 165 [(.d (Al v7.2.s)),(.d (bo v7.2.bad))])::_) W M2 (G2 (R7 A2 W) P0) (H9 A2 J7) ⟨⟨_,A2, .of W⟩,trivial⟩ (fun _ h=>h) nd1 W W W) (sq W<|T6 W (gq W) [(oS y1.2 (12,g1)),(di v4.1),(di 0),(di 0),(di 0),(.d (bo false)),(.d (bo false))] W (sq W<|T6 W A2 [(oS y1.2 (12,g1)),(di v4.1),(di v5.1),(di 0),(di 0),(.d (bo false)),(.d (bo false))] W (sq W<|T6 W A2 [(oS y1.2 (12,g1)),(di v4.1),(di v5.1),(di v6.1),(di 0),(.d (bo false)),(.d (bo false))] W (sq W<|T6 W A2 [(oS y1.2 (12,g1)),(di v4.1),(di v5.1),(di v6.1),(di v7.1),(.d (bo false)),(.d (bo false))] W (A1<|B3<|sq W<|bs h fun v8 hv8 h=>Ed (v:= .d (i64 v8.1)) (us:= [(900000,0)]) (Bu (X0 _ _ _ hv8) [(900000,0)] [(900000,0)] _ (((900000,0),some<|.box 165 [(.d (Al v8.2.s)),(.d (bo v8.2.bad))])::_) W M2 (G2 (R7 (B5 W<|B5 W<|B5 W<|B5 W A2) W)<|G2 Mj P0) (H9 (B5 W<|B5 W<|B5 W<|B5 W A2) J7) ⟨⟨_,(B5 W<|B5 W<|B5 W<|B5 W A2), .of W⟩,trivial⟩ (fun _ h=>h) nd1 W W W) (sv W<|sq W<|bs h fun v9 hv9 h=>Ed (v:= .d (i64 v9.1)) (us:= [(900000,0)]) (Bu (X0 _ _ _ hv9) [(900000,0)] [(900000,0)] _ (((900000,0),some<|.box 165 [(.d (Al v9.2.s)),(.d (bo v9.2.bad))])::_) W M2 (G2 (R7 A2 W)<|G2 Mj P0) (H9 A2 J7) ⟨⟨_,A2, .of W⟩,trivial⟩ (fun _ h=>h) nd1 W W W) (sv W<|sq W<|T6 W (gq W) [(oS y1.2 (12,g1)),(di v4.1),(di v5.1),(di v6.1),(di v7.1),(.d (bo (v8.1==1))),(.d (bo false))] W (sq W<|T6 W A2 [(oS y1.2 (12,g1)),(di v4.1),(di v5.1),(di v6.1),(di v7.1),(.d (bo (v8.1==1))),(.d (bo (v9.1==1)))] W (A1<|B3<|C2 (W1 [(oS y1.2 (12,g1)),(di v4.1),(di v5.1),(di v6.1),(di v7.1),(.d (bo (v8.1==1))),(.d (bo (v9.1==1)))]) W (C1 W A2 W W) (Fu _ _ _ _ _ (S8 _) W W A2 (nl W) [(oS y1.2 (12,g1)),(di v4.1),(di v5.1),(di v6.1),(di v7.1),(.d (bo (v8.1==1))),(.d (bo (v9.1==1)))] W (A1<|B7 ?_))))))))))))))
 cases h
 exact Fd (.inr W) [(12,g1)] (Ou (K7 W A2 (Nat.le_of_ble_eq_true W) W)<|Iu<|D4 (U8<|AP (.head _)<|gq W)<|rD<|rD<|rD<|rD<|rD<|rD E4) (.agg (.cons ⟨U7,W⟩ (cz W))) ⟨⟨_,_,_,(gq W),(DL W N6),W,Ov,W⟩,trivial⟩
def Ab [Lp](p1:WorldReader):Option (Stay×WorldReader):=
  (C8 p1).bind fun v1=>(C8 v1.2).bind fun v2=>(C8 v2.2).bind fun v3=>(C8 v3.2).bind fun v4=>some ((Stay.mk v1.1 v2.1 v3.1 v4.1),v4.2)
theorem Qs(p1 r)(h:Ab p1=some r):MCall prog 112 [(.ptr (900000,0) 0)] [(.box 165 [(.d (Al p1.s)),(.d (bo p1.bad))])] (.d (.agg (F8 r.1))) [some (.box 165 [(.d (Al r.2.s)),(.d (bo r.2.bad))])] []:=by
 refine Fv (fk func112 ntmps112 (fun r=>if r==1 then [1001001,1001003,1001005,1001007]else []) (by with_unfolding_all rfl)) W (nl W) ?_
 unfold Ab at h
 refine B6 (s0:=⟨T [(0,(.ptr _ _))],G [((900000,0),some<|.box 165 _)]⟩) (G0 W W) ?_
 refine B3<|sm W<|A1<|B3<|sq W<|bs h fun v1 hv1 h=>Ed (v:= .d (i64 v1.1)) (us:= [(900000,0)]) (Bu (L5 _ _ hv1) [(900000,0)] [(900000,0)] _ (((900000,0),some<|.box 165 [(.d (Al v1.2.s)),(.d (bo v1.2.bad))])::_) W M2 (G2 (R7 (B5 W A2) W) P0) (H9 (B5 W A2) J7) ⟨⟨_,(B5 W A2), .of W⟩,trivial⟩ (fun _ h=>h) nd1 W W W) (sq W<|bs h fun v2 hv2 h=>Ed (v:= .d (i64 v2.1)) (us:= [(900000,0)]) (Bu (L5 _ _ hv2) [(900000,0)] [(900000,0)] _ (((900000,0),some<|.box 165 [(.d (Al v2.2.s)),(.d (bo v2.2.bad))])::_) W M2 (G2 (R7 A2 W) P0) (H9 A2 J7) ⟨⟨_,A2, .of W⟩,trivial⟩ (fun _ h=>h) nd1 W W W) (sq W<|bs h fun v3 hv3 h=>Ed (v:= .d (i64 v3.1)) (us:= [(900000,0)]) (Bu (L5 _ _ hv3) [(900000,0)] [(900000,0)] _ (((900000,0),some<|.box 165 [(.d (Al v3.2.s)),(.d (bo v3.2.bad))])::_) W M2 (G2 (R7 A2 W) P0) (H9 A2 J7) ⟨⟨_,A2, .of W⟩,trivial⟩ (fun _ h=>h) nd1 W W W) (sq W<|bs h fun v4 hv4 h=>Ed (v:= .d (i64 v4.1)) (us:= [(900000,0)]) (Bu (L5 _ _ hv4) [(900000,0)] [(900000,0)] _ (((900000,0),some<|.box 165 [(.d (Al v4.2.s)),(.d (bo v4.2.bad))])::_) W M2 (G2 (R7 A2 W) P0) (H9 A2 J7) ⟨⟨_,A2, .of W⟩,trivial⟩ (fun _ h=>h) nd1 W W W) (sq W<|T6 W (gq W) [(di v1.1),(di 0),(di 0),(di 0)] W (sq W<|T6 W A2 [(di v1.1),(di v2.1),(di 0),(di 0)] W (sq W<|T6 W A2 [(di v1.1),(di v2.1),(di v3.1),(di 0)] W (sq W<|T6 W A2 [(di v1.1),(di v2.1),(di v3.1),(di v4.1)] W (A1<|B3<|sd W (C1 W A2 W W)<|T6 W A2 [(di v1.1),(di v2.1),(di v3.1),(di v4.1)] W (A1<|B7 ?_)))))))))
 cases h
 exact Fd (.inr W) [] (Ou (K7 W A2 (Nat.le_of_ble_eq_true W) W) C6) (.refl _) ⟨⟨_,_,_,(gq W),N6,W,Ov,W⟩,trivial⟩
def Ck [Lp](v6:(Int×WorldReader))(x2:(Int×WorldReader×State)):Option (Stp (Int×WorldReader×State) (WorldReader×State)):=
  cond (decide (x2.1<v6.1)) ((Ab x2.2.1).bind fun v7=>(Y4 x2.2.2.In [v7.1]).bind fun v8=>some (.go ((J6 (x2.1+1)),v7.2,(State.mk x2.2.2.Tick x2.2.2.Agents v8)))) (some (.out (x2.2.1,x2.2.2)))
def Cl [Lp](v3:(Int×WorldReader))(x1:(Int×WorldReader×State)):Option (Stp (Int×WorldReader×State) (WorldReader×State)):=
  cond (decide (x1.1<v3.1)) ((Z1 x1.2.1).bind fun v4=>(Y4 x1.2.2.Agents [v4.1]).bind fun v5=>some (.go ((J6 (x1.1+1)),v4.2,(State.mk x1.2.2.Tick v5 [])))) (some (.out (x1.2.1,(State.mk x1.2.2.Tick x1.2.2.Agents []))))
def Jw [Lp](p1:ByteArray):Option (State×Int):=
  (Cc p1 (ByteArray.mk #[107,98,119,49])).bind fun v1=>(C8 (WorldReader.mk v1.1 (!v1.2))).bind fun v2=>(L7 v2.2 8).bind fun v3=>(loop (Cl v3) (0,v3.2,(State.mk v2.1 [] []))).bind fun y1=>(L7 y1.1 96).bind fun v6=>(loop (Ck v6) (0,v6.2,(State.mk y1.2.Tick y1.2.Agents []))).bind fun y2=>cond (y2.1.bad||(!(y2.1.s.toList==ByteArray.empty.toList))) (some ((State.mk 0 [] []),3)) (some (y2.2,0))
theorem CK(p1 r)(h:Jw p1=some r):PCall prog 51 [(Al p1)] (.tup [(.agg (N9 r.1)),(i64 r.2)]):=by
 refine C7 (fk func51 ntmps51 (fun r=>if r==3 then [1003001]else if r==4 then [1004001]else if r==6 then [1006003,1004]else if r==8 then [1008001]else if r==10 then [1010003,1004]else []) (by with_unfolding_all rfl)) (nl W) ?_
 unfold Jw at h
 refine B6 (s0:=⟨T [(0,(.d _))],G []⟩) (G0 W W) ?_
 refine lr<|fun u1 _=>sm W<|sv W<|A1<|B3<|sv W<|bs h fun v1 hv1 h=>B9 W W A3 (Sw _ _ _ hv1) (.inl W) (sv W<|sv W<|sv W<|sv W<|sv W<|A1<|lr<|fun u3 _=>sv W<|sv W<|C2 (.d (bo (!v1.2))) W W (sv W<|sm W<|sq W<|A1<|lr<|fun u4 _=>sq W<|bs h fun v2 hv2 h=>Ed (v:= .d (i64 v2.1)) (us:= [(17,u3)]) (Bu (L5 _ _ hv2) [(17,u3)] [(17,u3)] _ (((17,u3),some<|.box 165 [(.d (Al v2.2.s)),(.d (bo v2.2.bad))])::_) W M2 (G2 (R7 A2 W) P0) (H9 A2 J7) ⟨⟨_,A2, .of W⟩,trivial⟩ (fun _ h=>h) nd1 W W W) (sv W<|sm W<|T6 W A2 [(di v2.1),(.d .nilS),(.d .nilS)] W (A1<|A6<|B3<|sq W<|bs h fun v3 hv3 h=>Ed (v:= .d (i64 v3.1)) (us:= [(17,u3)]) (Bu (X0 _ _ _ hv3) [(17,u3)] [(17,u3)] _ (((17,u3),some<|.box 165 [(.d (Al v3.2.s)),(.d (bo v3.2.bad))])::_) W M2 (G2 (R7 (B5 W<|B5 W A2) W)<|G2 Mj P0) (H9 (B5 W<|B5 W A2) J7) ⟨⟨_,(B5 W<|B5 W A2), .of W⟩,trivial⟩ (fun _ h=>h) nd1 W W W) (sv W<|A1<|bs h fun y1 hy1 h=>D3 (fun s=> ∃g1:Nat,Sb ⟨T [(2,(.ptr (2,u1) 0)),(6,(.ptr (17,u3) 0)),(7,(.ptr (7,u4) 0))],G [((2,u1),some<|.box 25 [(di 0),(.d .nilS),(.d .nilS)]),((17,u3),some<|.box 165 [(.d (Al y1.1.s)),(.d (bo y1.1.bad))]),((7,u4),some<|.box 25 [(di y1.2.Tick),(oS y1.2.Agents (30,g1)),(.d .nilS)]),((30,g1),oB 45 7 C4 y1.2.Agents)]⟩ s) ?_ ?_)))))
 refine A7<|D7 (Cl v3) (fun (x1:(Int×WorldReader×State)) (g2:Nat)=>⟨T [(2,(.ptr (2,u1) 0)),(6,(.ptr (17,u3) 0)),(7,(.ptr (7,u4) 0)),(22,(di v3.1)),(23,(di x1.1))],G [((2,u1),some<|.box 25 [(di 0),(.d .nilS),(.d .nilS)]),((17,u3),some<|.box 165 [(.d (Al x1.2.1.s)),(.d (bo x1.2.1.bad))]),((7,u4),some<|.box 25 [(di x1.2.2.Tick),(oS x1.2.2.Agents (30,g2)),(.d .nilS)]),((30,g2),oB 45 7 C4 x1.2.2.Agents)]⟩) (0,v3.2,(State.mk v2.1 [] [])) 0 _ hy1 (D0 (S5 W)<|sg W<|A8 A2 (.of W)<|sg W<|Y5 trivial) ?_
 intro x1 g2 z1 hz1 ez1
 unfold Cl at hz1
 refine B3<|sv W<|A1<|A6<|cc W hz1 (fun c1 hz1=> ?_)<|fun c1 hz1=> ?_
 refine B0<|A6<|A7<|Kd fun u7 hu7=>N5 (.ptr _ _) W W (N5 (oS x1.2.2.Agents (30,g2)) W (O8 W (gq W) W) (N5 (.ptr _ _) W W (bs hz1 fun v4 hv4 hz1=>CD (v:= .d (.agg (C4 v4.1))) (us:= [(17,u3)]) (Bu (Pw _ _ hv4) [(17,u3)] [(17,u3)] _ (((17,u3),some<|.box 165 [(.d (Al v4.2.s)),(.d (bo v4.2.bad))])::_) W M2 (G2 (R7 (B5 W A2) W) P0) (H9 (B5 W A2) J7) ⟨⟨_,(B5 W A2), .of W⟩,trivial⟩ (fun _ h=>h) nd1 W W W) (N5 (dl C4 [v4.1]) W W (bs hz1 fun v5 hv5 hz1=>Pr C4 (30,g2) x1.2.2.Agents [v4.1] _ (J9<|fun _=>W) W (gq W) hv5 (B5 W<|Fc hu7) (N5 (.ptr _ _) W W (Ke _ _ _ _ _ (Mo _ _) W W (gq W) (nl W) [(di x1.2.2.Tick),(oS v5 (30,u7)),(.d .nilS)] W (Ua<|DQ (fun q=>⟨⟨by first|rfl|((generalize x1.2.2.Agents=l0;cases l0)<;>(generalize v5=l1;cases l1)<;>rfl),q⟩,⟨by first|rfl|((generalize x1.2.2.Agents=l0;cases l0)<;>(generalize v5=l1;cases l1)<;>rfl),q⟩,⟨by first|rfl|((generalize x1.2.2.Agents=l0;cases l0)<;>(generalize v5=l1;cases l1)<;>rfl),q⟩⟩) ?_))))))))
 refine E5<|C3<|sv W<|sv W<|A1<|E0 ?_
 cases hz1
 exact ⟨W,u7,(D0 (S5 W)<|sg W<|sg W<|A8 A2 (.of W)<|B4 (gq W) trivial)⟩
 refine D1 W ?_
 cases hz1
 obtain rfl:=ez1 _ rfl
 refine ⟨nofun,C5 W<|U6 ?_⟩
 exact ⟨g2,(D0 (S5 W)<|A8 A2 (.of W)<|sg W<|sg W<|B4 (gq W) trivial)⟩
 rintro _ ⟨g1,q1⟩
 refine B6 q1<|A6<|B3<|sq W<|bs h fun v6 hv6 h=>Ed (v:= .d (i64 v6.1)) (us:= [(17,u3)]) (Bu (X0 _ _ _ hv6) [(17,u3)] [(17,u3)] _ (((17,u3),some<|.box 165 [(.d (Al v6.2.s)),(.d (bo v6.2.bad))])::_) W M2 (G2 (R7 (B5 W A2) W)<|G2 Mj P0) (H9 (B5 W A2) J7) ⟨⟨_,(B5 W A2), .of W⟩,trivial⟩ (fun _ h=>h) nd1 W W W) (sv W<|A1<|bs h fun y2 hy2 h=>D3 (fun s=> ∃g3:(Nat×Nat),Sb ⟨T [(2,(.ptr (2,u1) 0)),(6,(.ptr (17,u3) 0)),(7,(.ptr (7,u4) 0))],G [((2,u1),some<|.box 25 [(di 0),(.d .nilS),(.d .nilS)]),((17,u3),some<|.box 165 [(.d (Al y2.1.s)),(.d (bo y2.1.bad))]),((7,u4),some<|.box 25 [(di y2.2.Tick),(oS y2.2.Agents (30,g3.1)),(oS y2.2.In (42,g3.2))]),((30,g3.1),oB 45 7 C4 y2.2.Agents),((42,g3.2),oB 127 4 F8 y2.2.In)]⟩ s) ?_ ?_)
 refine A7<|D7 (Ck v6) (fun (x2:(Int×WorldReader×State)) (g4:(Nat×Nat))=>⟨T [(2,(.ptr (2,u1) 0)),(6,(.ptr (17,u3) 0)),(7,(.ptr (7,u4) 0)),(34,(di v6.1)),(35,(di x2.1))],G [((2,u1),some<|.box 25 [(di 0),(.d .nilS),(.d .nilS)]),((17,u3),some<|.box 165 [(.d (Al x2.2.1.s)),(.d (bo x2.2.1.bad))]),((7,u4),some<|.box 25 [(di x2.2.2.Tick),(oS x2.2.2.Agents (30,g4.1)),(oS x2.2.2.In (42,g4.2))]),((30,g4.1),oB 45 7 C4 x2.2.2.Agents),((42,g4.2),oB 127 4 F8 x2.2.2.In)]⟩) (0,v6.2,(State.mk y1.2.Tick y1.2.Agents [])) (g1,0) _ hy2 (D0 (S5 W)<|sg W<|A8 A2 (.of W)<|sg W<|B4 (gq W)<|Y5 trivial) ?_
 intro x2 g4 z2 hz2 ez2
 unfold Ck at hz2
 refine B3<|sv W<|A1<|A6<|cc W hz2 (fun c2 hz2=> ?_)<|fun c2 hz2=> ?_
 refine B0<|A6<|A7<|Kd fun u11 hu11=>N5 (.ptr _ _) W W (N5 (oS x2.2.2.In (42,g4.2)) W (O8 W (gq W) W) (N5 (.ptr _ _) W W (bs hz2 fun v7 hv7 hz2=>CD (v:= .d (.agg (F8 v7.1))) (us:= [(17,u3)]) (Bu (Qs _ _ hv7) [(17,u3)] [(17,u3)] _ (((17,u3),some<|.box 165 [(.d (Al v7.2.s)),(.d (bo v7.2.bad))])::_) W M2 (G2 (R7 (B5 W A2) W) P0) (H9 (B5 W A2) J7) ⟨⟨_,(B5 W A2), .of W⟩,trivial⟩ (fun _ h=>h) nd1 W W W) (N5 (dl F8 [v7.1]) W W (bs hz2 fun v8 hv8 hz2=>Pr F8 (42,g4.2) x2.2.2.In [v7.1] _ (J9<|fun _=>W) W (gq W) hv8 (B5 W<|Fc hu11) (N5 (.ptr _ _) W W (Ke _ _ _ _ _ (Mo _ _) W W (gq W) (nl W) [(di x2.2.2.Tick),(oS x2.2.2.Agents (30,g4.1)),(oS v8 (42,u11))] W (Ua<|DQ (fun q=>⟨⟨by first|rfl|((generalize x2.2.2.In=l0;cases l0)<;>(generalize v8=l1;cases l1)<;>rfl),q⟩,⟨by first|rfl|((generalize x2.2.2.In=l0;cases l0)<;>(generalize v8=l1;cases l1)<;>rfl),q⟩,⟨by first|rfl|((generalize x2.2.2.In=l0;cases l0)<;>(generalize v8=l1;cases l1)<;>rfl),q⟩⟩) ?_))))))))
 refine E5<|C3<|sv W<|sv W<|A1<|E0 ?_
 cases hz2
 exact ⟨W,(g4.1,u11),(D0 (S5 W)<|sg W<|sg W<|A8 A2 (.of W)<|B4 (gq W)<|B4 (gq W) trivial)⟩
 refine D1 W ?_
 cases hz2
 obtain rfl:=ez2 _ rfl
 refine ⟨nofun,C5 W<|U6 ?_⟩
 exact ⟨(g4.1,g4.2),(D0 (S5 W)<|A8 A2 (.of W)<|sg W<|sg W<|B4 (gq W)<|B4 (gq W) trivial)⟩
 rintro _ ⟨g3,q2⟩
 refine B6 q2<|A6<|B3<|sq W<|sp W W<|sq W<|sl W (gq W) W (sv W<|gp W (N7 W) (fun _=>W) ?_)
 refine P5 _ (.ptr _ _) W (N7 W) (fun w2=>(by simp only [A5 w2];rfl)) ?_
 refine P5 _ (.ptr _ _) W (N7 W) (fun w3=>(by simp only [A5 w3];rfl)) ?_
 refine gf W (vl W (gq W) W)<|gf W (fun w5=>(KX (A5 w5) W))<|sd W (U2 W W<|fun hc=>A5<|N2 hc)<|A1<|cc W h (fun c3 h=> ?_)<|fun c3 h=> ?_
 refine B3<|sv W<|T6 W A2 [(di 0),(.d .nilS),(.d .nilS)] W (sv W<|A1<|B7 ?_)
 cases h
 exact A9 (.inr W) (Ic (K7 W A2 (nl W) W) (B8 W) C6 C6) (.tup (.cons (.agg (ca W<|.cons ⟨DLe.nil,W⟩ (.cons ⟨DLe.nil,W⟩ .nil))) A3))
 refine B0<|B3<|C2 (W1 [(di y2.2.Tick),(oS y2.2.Agents (30,g3.1)),(oS y2.2.In (42,g3.2))]) W (C1 W (gq W) W W) (Fu _ _ _ _ _ (S8 _) W W A2 (nl W) [(di y2.2.Tick),(oS y2.2.Agents (30,g3.1)),(oS y2.2.In (42,g3.2))] W (sv W<|A1<|B7 ?_))
 cases h
 exact A9 (.inr W) (Ic (K7 W A2 (nl W) W) (B8 W) (Iu<|rD<|D4 (U8<|gq W)<|D4 (U8<|gq W) E4) C6) (.tup (.cons (.agg (ca W<|.cons ⟨U7,W⟩ (.cons ⟨U7,W⟩ .nil))) A3))
def T5 (p1:Ref04Reader)(x1:(Int×Int)):Option (Stp (Int×Int) Int):=
  cond (decide (x1.2<8)) ((HZ p1.s x1.2).bind fun v1=>some (.go ((IntKind.wrap .u64 (((BitVec.ofInt (IntKind.bits .u64) (IntKind.wrap .u64 (x1.1*2^ (min (8:Int).toNat (IntKind.bits .u64))))|||(BitVec.ofInt (IntKind.bits .u64) (IntKind.wrap .u64 v1))).toNat:Nat))),(J6 (x1.2+1))))) (some (.out x1.1))
def C9 [Lp](p1:Ref04Reader):Option (Int×Ref04Reader):=
  cond (decide ((p1.s.size:Int)<8)) (some (0,(Ref04Reader.mk p1.s true))) ((loop (T5 p1) (0,0)).bind fun y1=>(Yl p1.s 8 (p1.s.size:Int)).bind fun v2=>some ((J6 y1),(Ref04Reader.mk v2 p1.bad)))
theorem L6(p1 r)(h:C9 p1=some r):MCall prog 113 [(.ptr (900000,0) 0)] [(.box 172 [(.d (Al p1.s)),(.d (bo p1.bad))])] (di r.1) [some (.box 172 [(.d (Al r.2.s)),(.d (bo r.2.bad))])] []:=by
 refine Fv (fk func113 ntmps113 m0 (by with_unfolding_all rfl)) W (nl W) ?_
 unfold C9 at h
 refine B6 (s0:=⟨T [(0,(.ptr _ _))],G [((900000,0),some<|.box 172 _)]⟩) (G0 W W) ?_
 refine B3<|sv W<|A1<|A6<|B3<|sq W<|sp W W<|sq W<|sl W A2 W<|sd W (Sg W)<|sv W<|A1<|cc W h (fun c1 h=> ?_)<|fun c1 h=> ?_
 refine B3<|sq W<|sp W W<|sq W<|T6 W A2 [(.d (Al p1.s)),(.d (bo true))] W (A1<|B3<|sv W<|A1<|B7 ?_)
 cases h
 exact Fd (.inr W) [] (Ou (B8 W) C6) (.refl _) ⟨⟨_,_,_,A2,N6,W,Ov,W⟩,trivial⟩
 refine B0<|B3<|sv W<|A1<|A6<|B3<|sv W<|A1<|bs h fun y1 hy1 h=>D3 (fun s=> ∃g1:Unit,Sb ⟨T [(0,(.ptr (900000,0) 0)),(3,(.d (.v (.int .u64 y1))))],G [((900000,0),some<|.box 172 [(.d (Al p1.s)),(.d (bo p1.bad))])]⟩ s) ?_ ?_
 refine A7<|D7 (T5 p1) (fun (x1:(Int×Int)) (g2:Unit)=>⟨T [(0,(.ptr (900000,0) 0)),(3,(.d (.v (.int .u64 x1.1)))),(4,(di x1.2))],G [((900000,0),some<|.box 172 [(.d (Al p1.s)),(.d (bo p1.bad))])]⟩) (0,0) () _ hy1 (G0 W W) ?_
 intro x1 g2 z1 hz1 ez1
 unfold T5 at hz1
 refine A6<|B3<|sv W<|sv W<|A1<|cc W hz1 (fun c2 hz1=> ?_)<|fun c2 hz1=> ?_
 refine B0<|A6<|A7<|C3<|sv W<|sv W<|sq W<|sp W W<|sq W<|sl W A2 W<|sv W<|bs hz1 fun _ hv1 hz1=>sd W (FF W W hv1)<|sv W<|sv W<|sv W<|A1<|E5<|C3<|sv W<|sv W<|sv W<|A1<|E0 ?_
 cases hz1
 exact ⟨W,(),(G0 W W)⟩
 refine D1 W ?_
 cases hz1
 obtain rfl:=ez1 _ rfl
 refine ⟨nofun,C5 W<|U6 ?_⟩
 exact ⟨(),(G0 W W)⟩
 rintro _ ⟨g1,q1⟩
 refine B6 q1<|B3<|sq W<|sp W W<|sq W<|sp W W<|sl W A2 W<|bs h fun v2 hv2 h=>sd W (Yu W W hv2)<|sq W<|sp W W<|T6 W A2 [(.d (Al v2)),(.d (bo p1.bad))] W (A1<|B3<|sv W<|sv W<|sv W<|A1<|B7 ?_)
 cases h
 exact Fd (.inr W) [] (Ou (B8 W) C6) (.refl _) ⟨⟨_,_,_,A2,N6,W,Ov,W⟩,trivial⟩
def L4 [Lp](p1:Ref04Reader)(p2:Int):Option (Int×Ref04Reader):=
  (C9 p1).bind fun v1=>cond ((decide (v1.1<0))||(decide (v1.1>p2))) (some (0,(Ref04Reader.mk v1.2.s true))) (some (v1.1,v1.2))
theorem V9(p1 p2 r)(h:L4 p1 p2=some r):MCall prog 114 [(.ptr (900000,0) 0),(di p2)] [(.box 172 [(.d (Al p1.s)),(.d (bo p1.bad))])] (di r.1) [some (.box 172 [(.d (Al r.2.s)),(.d (bo r.2.bad))])] []:=by
 refine Fv (fk func114 ntmps114 (fun r=>if r==1 then [1001001]else []) (by with_unfolding_all rfl)) W (nl W) ?_
 unfold L4 at h
 refine B6 (s0:=⟨T [(0,(.ptr _ _)),(1,(.d _))],G [((900000,0),some<|.box 172 _)]⟩) (G0 W W) ?_
 refine B3<|sv W<|A1<|B3<|sq W<|bs h fun v1 hv1 h=>Ed (v:= .d (i64 v1.1)) (us:= [(900000,0)]) (Bu (L6 _ _ hv1) [(900000,0)] [(900000,0)] _ (((900000,0),some<|.box 172 [(.d (Al v1.2.s)),(.d (bo v1.2.bad))])::_) W M2 (G2 (R7 A2 W) P0) (H9 A2 J7) ⟨⟨_,A2, .of W⟩,trivial⟩ (fun _ h=>h) nd1 W W W) (sv W<|A1<|A6<|B3<|sv W<|sv W<|sv W<|gf W (fun _=>W)<|gf W (fun _=>W)<|gf W (fun w3=>(R1 (A5 w3) (A5 w3) W))<|sd W (U2 W W<|fun hc=>A5<|N2 hc)<|A1<|cc W h (fun c1 h=> ?_)<|fun c1 h=> ?_)
 refine B3<|sq W<|sp W W<|sq W<|T6 W A2 [(.d (Al v1.2.s)),(.d (bo true))] W (A1<|B3<|sv W<|A1<|B7 ?_)
 cases h
 exact Fd (.inr W) [] (Ou (B8 W) C6) (.refl _) ⟨⟨_,_,_,A2,N6,W,Ov,W⟩,trivial⟩
 refine B0<|B3<|sv W<|sv W<|A1<|B7 ?_
 cases h
 exact Fd (.inr W) [] (Ou (B8 W) C6) (.refl _) ⟨⟨_,_,_,A2,N6,W,Ov,W⟩,trivial⟩
def Cm [Lp](x3:(Int×Ref04Reader×State)):Option (Stp (Int×Ref04Reader×State) (Ref04Reader×State)):=
  cond (decide (x3.1>0)) ((C9 x3.2.1).bind fun v16=>(C9 v16.2).bind fun v17=>(C9 v17.2).bind fun v18=>(C9 v18.2).bind fun v19=>(Y4 x3.2.2.In [(Stay.mk v16.1 v17.1 v18.1 v19.1)]).bind fun v20=>some (.go ((J6 (x3.1 - 1)),v19.2,(State.mk x3.2.2.Tick x3.2.2.Agents v20)))) (some (.out (x3.2.1,x3.2.2)))
def Hg [Lp](x2:(Int×Ref04Reader× (List Int))):Option (Stp (Int×Ref04Reader× (List Int)) (Ref04Reader× (List Int))):=
  cond (decide (x2.1>0)) ((C9 x2.2.1).bind fun v6=>(Y4 x2.2.2 [v6.1]).bind fun v7=>some (.go ((J6 (x2.1 - 1)),v6.2,v7))) (some (.out (x2.2.1,x2.2.2)))
def Cn [Lp](x1:(Int×Ref04Reader×State)):Option (Stp (Int×Ref04Reader×State) (Ref04Reader×State)):=
  cond (decide (x1.1>0)) ((L4 x1.2.1 8).bind fun v5=>(loop (Hg) (v5.1,v5.2,[])).bind fun y2=>(C9 y2.1).bind fun v8=>(C9 v8.2).bind fun v9=>(C9 v9.2).bind fun v10=>(C9 v10.2).bind fun v11=>(L4 v11.2 1).bind fun v12=>(L4 v12.2 1).bind fun v13=>(Y4 x1.2.2.Agents [(Agent.mk y2.2 v8.1 v9.1 v10.1 v11.1 (v12.1==1) (v13.1==1))]).bind fun v14=>some (.go ((J6 (x1.1 - 1)),v13.2,(State.mk x1.2.2.Tick v14 [])))) (some (.out (x1.2.1,(State.mk x1.2.2.Tick x1.2.2.Agents []))))
def Jx [Lp](p1:ByteArray):Option (State×Int):=
  ((cond (!(decide ((p1.size:Int)<4))) (Yl p1 0 4) (some default))).bind fun v1=>cond ((decide ((p1.size:Int)<4))||(!(v1.toList==(ByteArray.mk #[107,98,119,49]).toList))) (some ((State.mk 0 [] []),3)) ((Yl p1 4 (p1.size:Int)).bind fun v2=>(C9 (Ref04Reader.mk v2 false)).bind fun v3=>(L4 v3.2 8).bind fun v4=>(loop (Cn) (v4.1,v4.2,(State.mk v3.1 [] []))).bind fun y1=>(L4 y1.1 96).bind fun v15=>(loop (Cm) (v15.1,v15.2,(State.mk y1.2.Tick y1.2.Agents []))).bind fun y3=>cond (y3.1.bad||(!(y3.1.s.toList==ByteArray.empty.toList))) (some ((State.mk 0 [] []),3)) (some (y3.2,0)))
theorem CL(p1 r)(h:Jx p1=some r):PCall prog 52 [(Al p1)] (.tup [(.agg (N9 r.1)),(i64 r.2)]):=by
 refine C7 (fk func52 ntmps52 (fun r=>if r==4 then [1004001]else if r==5 then [1005001]else if r==9 then [1009001]else if r==12 then [1012003,1004]else if r==13 then [1013001]else if r==14 then [1014001]else if r==15 then [1015001]else if r==16 then [1016001]else if r==17 then [1017001]else if r==18 then [1018001]else if r==19 then [1003]else if r==20 then [1020001]else if r==23 then [1023003,1023005,1023007,1023009,1011]else []) (by with_unfolding_all rfl)) (nl W) ?_
 unfold Jx at h
 refine B6 (s0:=⟨T [(0,(.d _))],G []⟩) (G0 W W) ?_
 refine lr<|fun u1 _=>sm W<|sv W<|A1<|A6<|B3<|sv W<|sd W (Sg W)<|sv W<|sv W<|gf W (fun _=>W)<|bs h fun _ hv1 h=>gf W (fun w2=>(MS (A5 w2) W (D8 w2 hv1)))<|gf W (fun w3=>(KX (A5 w3) W))<|sd W (U2 W W<|fun hc=>A5<|N2 hc)<|A1<|cc W h (fun c1 h=> ?_)<|fun c1 h=> ?_
 refine B3<|sv W<|T6 W A2 [(di 0),(.d .nilS),(.d .nilS)] W (sv W<|A1<|B7 ?_)
 cases h
 exact A9 (.inr W) (Ic (K7 W A2 (nl W) W) (B8 W) C6 C6) (.tup (.cons (.agg (ca W<|.cons ⟨DLe.nil,W⟩ (.cons ⟨DLe.nil,W⟩ .nil))) A3))
 refine B0<|lr<|fun u4 _=>sv W<|bs h fun _ hv2 h=>sd W (Yu W W hv2)<|sv W<|sm W<|sq W<|A1<|lr<|fun u5 _=>sq W<|bs h fun v3 hv3 h=>Ed (v:= .d (i64 v3.1)) (us:= [(22,u4)]) (Bu (L6 _ _ hv3) [(22,u4)] [(22,u4)] _ (((22,u4),some<|.box 172 [(.d (Al v3.2.s)),(.d (bo v3.2.bad))])::_) W M2 (G2 (R7 A2 W) P0) (H9 A2 J7) ⟨⟨_,A2, .of W⟩,trivial⟩ (fun _ h=>h) nd1 W W W) (sv W<|sm W<|T6 W A2 [(di v3.1),(.d .nilS),(.d .nilS)] W (A1<|A6<|B3<|sq W<|bs h fun v4 hv4 h=>Ed (v:= .d (i64 v4.1)) (us:= [(22,u4)]) (Bu (V9 _ _ _ hv4) [(22,u4)] [(22,u4)] _ (((22,u4),some<|.box 172 [(.d (Al v4.2.s)),(.d (bo v4.2.bad))])::_) W M2 (G2 (R7 (B5 W<|B5 W A2) W)<|G2 Mj P0) (H9 (B5 W<|B5 W A2) J7) ⟨⟨_,(B5 W<|B5 W A2), .of W⟩,trivial⟩ (fun _ h=>h) nd1 W W W) (sv W<|A1<|bs h fun y1 hy1 h=>D3 (fun s=> ∃g1:Nat,Sb ⟨T [(2,(.ptr (2,u1) 0)),(4,(.ptr (22,u4) 0)),(5,(.ptr (5,u5) 0))],G [((2,u1),some<|.box 25 [(di 0),(.d .nilS),(.d .nilS)]),((22,u4),some<|.box 172 [(.d (Al y1.1.s)),(.d (bo y1.1.bad))]),((5,u5),some<|.box 25 [(di y1.2.Tick),(oS y1.2.Agents (70,g1)),(.d .nilS)]),((70,g1),oB 45 7 C4 y1.2.Agents)]⟩ s) ?_ ?_)))
 refine A7<|D7 (Cn) (fun (x1:(Int×Ref04Reader×State)) (g2:Nat)=>⟨T [(2,(.ptr (2,u1) 0)),(4,(.ptr (22,u4) 0)),(5,(.ptr (5,u5) 0)),(6,(di x1.1))],G [((2,u1),some<|.box 25 [(di 0),(.d .nilS),(.d .nilS)]),((22,u4),some<|.box 172 [(.d (Al x1.2.1.s)),(.d (bo x1.2.1.bad))]),((5,u5),some<|.box 25 [(di x1.2.2.Tick),(oS x1.2.2.Agents (70,g2)),(.d .nilS)]),((70,g2),oB 45 7 C4 x1.2.2.Agents)]⟩) (v4.1,v4.2,(State.mk v3.1 [] [])) 0 _ hy1 (D0 (S5 W)<|sg W<|A8 A2 (.of W)<|sg W<|Y5 trivial) ?_
 intro x1 g2 z1 hz1 ez1
 unfold Cn at hz1
 refine A6<|B3<|sv W<|sv W<|A1<|cc W hz1 (fun c2 hz1=> ?_)<|fun c2 hz1=> ?_
 refine B0<|A6<|A7<|lr<|fun u8 _=>sv W<|sm W<|T6 W A2 ([(.d .nilS)]++ (zs 4)++ [(.d (bo false)),(.d (bo false))]) W (A1<|A6<|B3<|sq W<|bs hz1 fun v5 hv5 hz1=>Ed (v:= .d (i64 v5.1)) (us:= [(22,u4)]) (Bu (V9 _ _ _ hv5) [(22,u4)] [(22,u4)] _ (((22,u4),some<|.box 172 [(.d (Al v5.2.s)),(.d (bo v5.2.bad))])::_) W M2 (G2 (R7 (B5 W<|B5 W<|B5 W A2) W)<|G2 Mj P0) (H9 (B5 W<|B5 W<|B5 W A2) J7) ⟨⟨_,(B5 W<|B5 W<|B5 W A2), .of W⟩,trivial⟩ (fun _ h=>h) nd1 W W W) (sv W<|A1<|bs hz1 fun y2 hy2 hz1=>D3 (fun s=> ∃g3:Nat,Sb ⟨T [(2,(.ptr (2,u1) 0)),(4,(.ptr (22,u4) 0)),(5,(.ptr (5,u5) 0)),(6,(di x1.1)),(7,(.ptr (7,u8) 0))],G [((2,u1),some<|.box 25 [(di 0),(.d .nilS),(.d .nilS)]),((22,u4),some<|.box 172 [(.d (Al y2.1.s)),(.d (bo y2.1.bad))]),((5,u5),some<|.box 25 [(di x1.2.2.Tick),(oS x1.2.2.Agents (70,g2)),(.d .nilS)]),((7,u8),some<|.box 45 ([(oS y2.2 (44,g3))]++ (zs 4)++ [(.d (bo false)),(.d (bo false))])),((70,g2),oB 45 7 C4 x1.2.2.Agents),((44,g3),oB 3 1 A4 y2.2)]⟩ s) ?_ ?_))
 refine A7<|D7 (Hg) (fun (x2:(Int×Ref04Reader× (List Int))) (g4:Nat)=>⟨T [(2,(.ptr (2,u1) 0)),(4,(.ptr (22,u4) 0)),(5,(.ptr (5,u5) 0)),(6,(di x1.1)),(7,(.ptr (7,u8) 0)),(8,(di x2.1))],G [((2,u1),some<|.box 25 [(di 0),(.d .nilS),(.d .nilS)]),((22,u4),some<|.box 172 [(.d (Al x2.2.1.s)),(.d (bo x2.2.1.bad))]),((5,u5),some<|.box 25 [(di x1.2.2.Tick),(oS x1.2.2.Agents (70,g2)),(.d .nilS)]),((7,u8),some<|.box 45 ([(oS x2.2.2 (44,g4))]++ (zs 4)++ [(.d (bo false)),(.d (bo false))])),((70,g2),oB 45 7 C4 x1.2.2.Agents),((44,g4),oB 3 1 A4 x2.2.2)]⟩) (v5.1,v5.2,[]) 0 _ hy2 (D0 (S5 W)<|sg W<|A8 A2 (.of W)<|sg W<|sg W<|B4 (gq W)<|Y5 trivial) ?_
 intro x2 g4 z2 hz2 ez2
 unfold Hg at hz2
 refine A6<|B3<|sv W<|sv W<|A1<|cc W hz2 (fun c3 hz2=> ?_)<|fun c3 hz2=> ?_
 refine B0<|A6<|A7<|Kd fun u11 hu11=>N5 (.ptr _ _) W W (N5 (oS x2.2.2 (44,g4)) W (O8 W (gq W) W) (N5 (.ptr _ _) W W (bs hz2 fun v6 hv6 hz2=>CD (v:= .d (i64 v6.1)) (us:= [(22,u4)]) (Bu (L6 _ _ hv6) [(22,u4)] [(22,u4)] _ (((22,u4),some<|.box 172 [(.d (Al v6.2.s)),(.d (bo v6.2.bad))])::_) W M2 (G2 (R7 (B5 W A2) W) P0) (H9 (B5 W A2) J7) ⟨⟨_,(B5 W A2), .of W⟩,trivial⟩ (fun _ h=>h) nd1 W W W) (N5 (dl A4 [v6.1]) W W (bs hz2 fun v7 hv7 hz2=>Pr A4 (44,g4) x2.2.2 [v6.1] _ (J9<|fun _=>W) W (gq W) hv7 (B5 W<|Fc hu11) (N5 (.ptr _ _) W W (Ke _ _ _ _ _ (Mo _ _) W W (gq W) (nl W) ([(oS v7 (44,u11))]++ (zs 4)++ [(.d (bo false)),(.d (bo false))]) W (Ua<|DQ (fun q=>⟨⟨by first|rfl|((generalize x2.2.2=l0;cases l0)<;>(generalize v7=l1;cases l1)<;>rfl),q⟩,⟨by first|rfl|((generalize x2.2.2=l0;cases l0)<;>(generalize v7=l1;cases l1)<;>rfl),q⟩,⟨by first|rfl|((generalize x2.2.2=l0;cases l0)<;>(generalize v7=l1;cases l1)<;>rfl),q⟩⟩) ?_))))))))
 refine E5<|C3<|sv W<|sv W<|sv W<|A1<|E0 ?_
 cases hz2
 exact ⟨W,u11,(D0 (S5 W)<|sg W<|sg W<|sg W<|A8 A2 (.of W)<|B4 (gq W)<|B4 (gq W) trivial)⟩
 refine D1 W ?_
 cases hz2
 obtain rfl:=ez2 _ rfl
 refine ⟨nofun,C5 W<|U6 ?_⟩
 exact ⟨g4,(D0 (S5 W)<|A8 A2 (.of W)<|sg W<|sg W<|sg W<|B4 (gq W)<|B4 (gq W) trivial)⟩
 rintro _ ⟨g3,q1⟩
 refine B6 q1<|B3<|sq W<|bs hz1 fun v8 hv8 hz1=>Ed (v:= .d (i64 v8.1)) (us:= [(22,u4)]) (Bu (L6 _ _ hv8) [(22,u4)] [(22,u4)] _ (((22,u4),some<|.box 172 [(.d (Al v8.2.s)),(.d (bo v8.2.bad))])::_) W M2 (G2 (R7 (B5 W A2) W) P0) (H9 (B5 W A2) J7) ⟨⟨_,(B5 W A2), .of W⟩,trivial⟩ (fun _ h=>h) nd1 W W W) (sq W<|T6 W (gq W) [(oS y2.2 (44,g3)),(di v8.1),(di 0),(di 0),(di 0),(.d (bo false)),(.d (bo false))] W (A1<|B3<|sq W<|bs hz1 fun v9 hv9 hz1=>Ed (v:= .d (i64 v9.1)) (us:= [(22,u4)]) (Bu (L6 _ _ hv9) [(22,u4)] [(22,u4)] _ (((22,u4),some<|.box 172 [(.d (Al v9.2.s)),(.d (bo v9.2.bad))])::_) W M2 (G2 (R7 (B5 W A2) W) P0) (H9 (B5 W A2) J7) ⟨⟨_,(B5 W A2), .of W⟩,trivial⟩ (fun _ h=>h) nd1 W W W) (sq W<|T6 W (gq W) [(oS y2.2 (44,g3)),(di v8.1),(di v9.1),(di 0),(di 0),(.d (bo false)),(.d (bo false))] W (A1<|B3<|sq W<|bs hz1 fun v10 hv10 hz1=>Ed (v:= .d (i64 v10.1)) (us:= [(22,u4)]) (Bu (L6 _ _ hv10) [(22,u4)] [(22,u4)] _ (((22,u4),some<|.box 172 [(.d (Al v10.2.s)),(.d (bo v10.2.bad))])::_) W M2 (G2 (R7 (B5 W A2) W) P0) (H9 (B5 W A2) J7) ⟨⟨_,(B5 W A2), .of W⟩,trivial⟩ (fun _ h=>h) nd1 W W W) (sq W<|T6 W (gq W) [(oS y2.2 (44,g3)),(di v8.1),(di v9.1),(di v10.1),(di 0),(.d (bo false)),(.d (bo false))] W (A1<|B3<|sq W<|bs hz1 fun v11 hv11 hz1=>Ed (v:= .d (i64 v11.1)) (us:= [(22,u4)]) (Bu (L6 _ _ hv11) [(22,u4)] [(22,u4)] _ (((22,u4),some<|.box 172 [(.d (Al v11.2.s)),(.d (bo v11.2.bad))])::_) W M2 (G2 (R7 (B5 W A2) W) P0) (H9 (B5 W A2) J7) ⟨⟨_,(B5 W A2), .of W⟩,trivial⟩ (fun _ h=>h) nd1 W W W) (sq W<|T6 W (gq W) [(oS y2.2 (44,g3)),(di v8.1),(di v9.1),(di v10.1),(di v11.1),(.d (bo false)),(.d (bo false))] W (A1<|B3<|sq W<|bs hz1 fun v12 hv12 hz1=>Ed (v:= .d (i64 v12.1)) (us:= [(22,u4)]) (Bu (V9 _ _ _ hv12) [(22,u4)] [(22,u4)] _ (((22,u4),some<|.box 172 [(.d (Al v12.2.s)),(.d (bo v12.2.bad))])::_) W M2 (G2 (R7 (B5 W A2) W)<|G2 Mj P0) (H9 (B5 W A2) J7) ⟨⟨_,(B5 W A2), .of W⟩,trivial⟩ (fun _ h=>h) nd1 W W W) (sv W<|sq W<|T6 W (gq W) [(oS y2.2 (44,g3)),(di v8.1),(di v9.1),(di v10.1),(di v11.1),(.d (bo (v12.1==1))),(.d (bo false))] W (A1<|B3<|sq W<|bs hz1 fun v13 hv13 hz1=>Ed (v:= .d (i64 v13.1)) (us:= [(22,u4)]) (Bu (V9 _ _ _ hv13) [(22,u4)] [(22,u4)] _ (((22,u4),some<|.box 172 [(.d (Al v13.2.s)),(.d (bo v13.2.bad))])::_) W M2 (G2 (R7 (B5 W A2) W)<|G2 Mj P0) (H9 (B5 W A2) J7) ⟨⟨_,(B5 W A2), .of W⟩,trivial⟩ (fun _ h=>h) nd1 W W W) (sv W<|sq W<|T6 W (gq W) [(oS y2.2 (44,g3)),(di v8.1),(di v9.1),(di v10.1),(di v11.1),(.d (bo (v12.1==1))),(.d (bo (v13.1==1)))] W (A1<|WG [(44,g3)] [(2,(.ptr (2,u1) 0)),(4,(.ptr (22,u4) 0)),(5,(.ptr (5,u5) 0)),(6,(di x1.1)),(7,(.ptr (7,u8) 0)),(46,(.ptr (22,u4) 0)),(47,(di v8.1)),(48,(.ptr (7,u8) 1)),(49,(.ptr (22,u4) 0)),(50,(di v9.1)),(51,(.ptr (7,u8) 2)),(52,(.ptr (22,u4) 0)),(53,(di v10.1)),(54,(.ptr (7,u8) 3)),(55,(.ptr (22,u4) 0)),(56,(di v11.1)),(57,(.ptr (7,u8) 4)),(58,(.ptr (22,u4) 0)),(59,(di v12.1)),(60,(.d (bo (v12.1==1)))),(61,(.ptr (7,u8) 5)),(62,(.ptr (22,u4) 0)),(63,(di v13.1)),(64,(.d (bo (v13.1==1)))),(65,(.ptr (7,u8) 6))] [((7,u8),some<|.box 45 [(dl A4 y2.2),(di v8.1),(di v9.1),(di v10.1),(di v11.1),(.d (bo (v12.1==1))),(.d (bo (v13.1==1)))]),((22,u4),some<|.box 172 [(.d (Al v13.2.s)),(.d (bo v13.2.bad))]),((2,u1),some<|.box 25 [(di 0),(.d .nilS),(.d .nilS)]),((5,u5),some<|.box 25 [(di x1.2.2.Tick),(oS x1.2.2.Agents (70,g2)),(.d .nilS)]),((70,g2),oB 45 7 C4 x1.2.2.Agents)] ⟨P6 W,P6 W,P6 W,P6 W,P6 W,P6 W,P6 W,P6 W,P6 W,P6 W,P6 W,P6 W,P6 W,P6 W,P6 W,P6 W,P6 W,P6 W,P6 W,P6 W,P6 W,P6 W,P6 W,P6 W,P6 W,trivial⟩ (MP A2 (Iv (Ky W) Nd) (.cons (SS (U8<|AP (.head _)<|gq W) U7) (.cons (P6 W) (.cons (P6 W) (.cons (P6 W) (.cons (P6 W) (.cons (P6 W) (.cons (P6 W) .nil))))))) (Xc (gq W) (Iv (Ky W) Nd) (Xc (gq W) (Iv (Ky W) Nd) (Xc (gq W) (Iv (Ky W) Nd) (KT (gq W) (Iv (Ky W) Nd) trivial))))) (Ag fun u19 _=>sq W<|C2 (oS x1.2.2.Agents (70,g2)) W (O8 W (gq W) W) (sd W (C1 W A2 W W)<|C2 (dl C4 [(Agent.mk y2.2 v8.1 v9.1 v10.1 v11.1 (v12.1==1) (v13.1==1))]) W W (bs hz1 fun _ hv14 hz1=>P1 C4 (70,g2) x1.2.2.Agents (Agent.mk y2.2 v8.1 v9.1 v10.1 v11.1 (v12.1==1) (v13.1==1)) [] _ (J9<|fun _=>W) W (gq W) hv14 (sp W W ?_))))))))))))))))
 refine T6 W (gq W) [(di x1.2.2.Tick),(.sl (70,u19)),(.d .nilS)] W (A1<|E5<|C3<|sv W<|sv W<|sv W<|A1<|E0 ?_)
 cases hz1
 exact ⟨W,u19,(D0 (S5 W)<|sg W<|sg W<|A8 A2 (.box (cv<|.cons (.of (Ap<|S7 hv14).symm) cw))<|U5 (gq W) trivial)⟩
 refine D1 W ?_
 cases hz1
 obtain rfl:=ez1 _ rfl
 refine ⟨nofun,C5 W<|U6 ?_⟩
 exact ⟨g2,(D0 (S5 W)<|A8 A2 (.of W)<|sg W<|sg W<|B4 (gq W) trivial)⟩
 rintro _ ⟨g1,q2⟩
 refine B6 q2<|A6<|B3<|sq W<|bs h fun v15 hv15 h=>Ed (v:= .d (i64 v15.1)) (us:= [(22,u4)]) (Bu (V9 _ _ _ hv15) [(22,u4)] [(22,u4)] _ (((22,u4),some<|.box 172 [(.d (Al v15.2.s)),(.d (bo v15.2.bad))])::_) W M2 (G2 (R7 (B5 W A2) W)<|G2 Mj P0) (H9 (B5 W A2) J7) ⟨⟨_,(B5 W A2), .of W⟩,trivial⟩ (fun _ h=>h) nd1 W W W) (sv W<|A1<|bs h fun y3 hy3 h=>D3 (fun s=> ∃g5:(Nat×Nat),Sb ⟨T [(2,(.ptr (2,u1) 0)),(4,(.ptr (22,u4) 0)),(5,(.ptr (5,u5) 0))],G [((2,u1),some<|.box 25 [(di 0),(.d .nilS),(.d .nilS)]),((22,u4),some<|.box 172 [(.d (Al y3.1.s)),(.d (bo y3.1.bad))]),((5,u5),some<|.box 25 [(di y3.2.Tick),(oS y3.2.Agents (70,g5.1)),(oS y3.2.In (90,g5.2))]),((70,g5.1),oB 45 7 C4 y3.2.Agents),((90,g5.2),oB 127 4 F8 y3.2.In)]⟩ s) ?_ ?_)
 refine A7<|D7 (Cm) (fun (x3:(Int×Ref04Reader×State)) (g6:(Nat×Nat))=>⟨T [(2,(.ptr (2,u1) 0)),(4,(.ptr (22,u4) 0)),(5,(.ptr (5,u5) 0)),(9,(di x3.1))],G [((2,u1),some<|.box 25 [(di 0),(.d .nilS),(.d .nilS)]),((22,u4),some<|.box 172 [(.d (Al x3.2.1.s)),(.d (bo x3.2.1.bad))]),((5,u5),some<|.box 25 [(di x3.2.2.Tick),(oS x3.2.2.Agents (70,g6.1)),(oS x3.2.2.In (90,g6.2))]),((70,g6.1),oB 45 7 C4 x3.2.2.Agents),((90,g6.2),oB 127 4 F8 x3.2.2.In)]⟩) (v15.1,v15.2,(State.mk y1.2.Tick y1.2.Agents [])) (g1,0) _ hy3 (D0 (S5 W)<|sg W<|A8 A2 (.of W)<|sg W<|B4 (gq W)<|Y5 trivial) ?_
 intro x3 g6 z3 hz3 ez3
 unfold Cm at hz3
 refine A6<|B3<|sv W<|sv W<|A1<|cc W hz3 (fun c4 hz3=> ?_)<|fun c4 hz3=> ?_
 refine B0<|A6<|A7<|Kd fun u23 hu23=>N5 (.ptr _ _) W W (N5 (oS x3.2.2.In (90,g6.2)) W (O8 W (gq W) W) (N5 (.ptr _ _) W W (bs hz3 fun v16 hv16 hz3=>CD (v:= .d (i64 v16.1)) (us:= [(22,u4)]) (Bu (L6 _ _ hv16) [(22,u4)] [(22,u4)] _ (((22,u4),some<|.box 172 [(.d (Al v16.2.s)),(.d (bo v16.2.bad))])::_) W M2 (G2 (R7 (B5 W A2) W) P0) (H9 (B5 W A2) J7) ⟨⟨_,(B5 W A2), .of W⟩,trivial⟩ (fun _ h=>h) nd1 W W W) (N5 (.ptr _ _) W W (bs hz3 fun v17 hv17 hz3=>CD (v:= .d (i64 v17.1)) (us:= [(22,u4)]) (Bu (L6 _ _ hv17) [(22,u4)] [(22,u4)] _ (((22,u4),some<|.box 172 [(.d (Al v17.2.s)),(.d (bo v17.2.bad))])::_) W M2 (G2 (R7 A2 W) P0) (H9 A2 J7) ⟨⟨_,A2, .of W⟩,trivial⟩ (fun _ h=>h) nd1 W W W) (N5 (.ptr _ _) W W (bs hz3 fun v18 hv18 hz3=>CD (v:= .d (i64 v18.1)) (us:= [(22,u4)]) (Bu (L6 _ _ hv18) [(22,u4)] [(22,u4)] _ (((22,u4),some<|.box 172 [(.d (Al v18.2.s)),(.d (bo v18.2.bad))])::_) W M2 (G2 (R7 A2 W) P0) (H9 A2 J7) ⟨⟨_,A2, .of W⟩,trivial⟩ (fun _ h=>h) nd1 W W W) (N5 (.ptr _ _) W W (bs hz3 fun v19 hv19 hz3=>CD (v:= .d (i64 v19.1)) (us:= [(22,u4)]) (Bu (L6 _ _ hv19) [(22,u4)] [(22,u4)] _ (((22,u4),some<|.box 172 [(.d (Al v19.2.s)),(.d (bo v19.2.bad))])::_) W M2 (G2 (R7 A2 W) P0) (H9 A2 J7) ⟨⟨_,A2, .of W⟩,trivial⟩ (fun _ h=>h) nd1 W W W) (N5 (.d _) W W (N5 (dl F8 [(Stay.mk v16.1 v17.1 v18.1 v19.1)]) W W (bs hz3 fun v20 hv20 hz3=>Pr F8 (90,g6.2) x3.2.2.In [(Stay.mk v16.1 v17.1 v18.1 v19.1)] _ (J9<|fun _=>W) W (gq W) hv20 (B5 W<|B5 W<|B5 W<|B5 W<|Fc hu23) (N5 (.ptr _ _) W W (Ke _ _ _ _ _ (Mo _ _) W W (gq W) (nl W) [(di x3.2.2.Tick),(oS x3.2.2.Agents (70,g6.1)),(oS v20 (90,u23))] W (Ua<|DQ (fun q=>⟨⟨by first|rfl|((generalize x3.2.2.In=l0;cases l0)<;>(generalize v20=l1;cases l1)<;>rfl),q⟩,⟨by first|rfl|((generalize x3.2.2.In=l0;cases l0)<;>(generalize v20=l1;cases l1)<;>rfl),q⟩,⟨by first|rfl|((generalize x3.2.2.In=l0;cases l0)<;>(generalize v20=l1;cases l1)<;>rfl),q⟩⟩) ?_)))))))))))))))
 refine E5<|C3<|sv W<|sv W<|sv W<|A1<|E0 ?_
 cases hz3
 exact ⟨W,(g6.1,u23),(D0 (S5 W)<|sg W<|sg W<|A8 A2 (.of W)<|B4 (gq W)<|B4 (gq W) trivial)⟩
 refine D1 W ?_
 cases hz3
 obtain rfl:=ez3 _ rfl
 refine ⟨nofun,C5 W<|U6 ?_⟩
 exact ⟨(g6.1,g6.2),(D0 (S5 W)<|A8 A2 (.of W)<|sg W<|sg W<|B4 (gq W)<|B4 (gq W) trivial)⟩
 rintro _ ⟨g5,q3⟩
 refine B6 q3<|A6<|B3<|sq W<|sp W W<|sq W<|sl W (gq W) W (sv W<|gp W (N7 W) (fun _=>W) ?_)
 refine P5 _ (.ptr _ _) W (N7 W) (fun w5=>(by simp only [A5 w5];rfl)) ?_
 refine P5 _ (.ptr _ _) W (N7 W) (fun w6=>(by simp only [A5 w6];rfl)) ?_
 refine gf W (vl W (gq W) W)<|gf W (fun w8=>(KX (A5 w8) W))<|sd W (U2 W W<|fun hc=>A5<|N2 hc)<|A1<|cc W h (fun c5 h=> ?_)<|fun c5 h=> ?_
 refine B3<|sv W<|T6 W A2 [(di 0),(.d .nilS),(.d .nilS)] W (sv W<|A1<|B7 ?_)
 cases h
 exact A9 (.inr W) (Ic (K7 W A2 (nl W) W) (B8 W) C6 C6) (.tup (.cons (.agg (ca W<|.cons ⟨DLe.nil,W⟩ (.cons ⟨DLe.nil,W⟩ .nil))) A3))
 refine B0<|B3<|C2 (W1 [(di y3.2.Tick),(oS y3.2.Agents (70,g5.1)),(oS y3.2.In (90,g5.2))]) W (C1 W (gq W) W W) (Fu _ _ _ _ _ (S8 _) W W A2 (nl W) [(di y3.2.Tick),(oS y3.2.Agents (70,g5.1)),(oS y3.2.In (90,g5.2))] W (sv W<|A1<|B7 ?_))
 cases h
 exact A9 (.inr W) (Ic (K7 W A2 (nl W) W) (B8 W) (Iu<|rD<|D4 (U8<|gq W)<|D4 (U8<|gq W) E4) C6) (.tup (.cons (.agg (ca W<|.cons ⟨U7,W⟩ (.cons ⟨U7,W⟩ .nil))) A3))
def Hh (p1:State)(p2:State)(x3:Int):Option (Stp Int (Sum Unit Bool)):=
  cond (decide (x3< (p1.In.length:Int))) ((F2 p1.In x3).bind fun v5=>(F2 p2.In x3).bind fun v6=>cond (!(v5.Agent_==v6.Agent_&& (v5.Zone_==v6.Zone_&& (v5.Since==v6.Since&& (v5.Rank==v6.Rank&&true))))) (some (.out (.inr false))) (some (.go (J6 (x3+1))))) (some (.out (.inl ())))
def Er (v1:Agent)(v2:Agent)(x2:Int):Option (Stp Int (Sum Unit Bool)):=
  cond (decide (x2< (v1.Route.length:Int))) ((F2 v1.Route x2).bind fun v3=>(F2 v2.Route x2).bind fun v4=>cond (v3 !=v4) (some (.out (.inr false))) (some (.go (J6 (x2+1))))) (some (.out (.inl ())))
def Hj [Lp](p1:State)(p2:State)(x1:Int):Option (Stp Int (Sum Unit Bool)):=
  cond (decide (x1< (p1.Agents.length:Int))) ((F2 p1.Agents x1).bind fun v1=>(F2 p2.Agents x1).bind fun v2=>cond ((((((((v1.Route.length:Int) !=(v2.Route.length:Int))||(v1.S !=v2.S))||(v1.V !=v2.V))||(v1.Len !=v2.Len))||(v1.Begin !=v2.Begin))||(!(v1.Obey==v2.Obey)))||(!(v1.Gone==v2.Gone))) (some (.out (.inr false))) (thenS (loop (Er v1 v2) 0) (fun _=>some (.go (J6 (x1+1)))) (fun r=>some (.out (.inr r))))) (some (.out (.inl ())))
def Hy [Lp](p1:State)(p2:State):Option Bool:=
  cond (((p1.Tick !=p2.Tick)||((p1.Agents.length:Int) !=(p2.Agents.length:Int)))||((p1.In.length:Int) !=(p2.In.length:Int))) (some false) (thenS (loop (Hj p1 p2) 0) (fun _=>thenS (loop (Hh p1 p2) 0) (fun _=>some true) (fun r=>some r)) (fun r=>some r))
theorem Pg(p1 p2 r)(h:Hy p1 p2=some r):PCall prog 26 [(.agg (N9 p1)),(.agg (N9 p2))] (bo r):=by
 refine C7 (fk func26 ntmps26 m0 (by with_unfolding_all rfl)) (nl W) ?_
 unfold Hy at h
 refine B6 (s0:=⟨T [(0,(.d _)),(1,(.d _))],G []⟩) (G0 W W) ?_
 refine lr<|fun u1 _=>sm W<|sm W<|sv W<|A1<|A6<|B3<|sq W<|sl W (gq W) W (sq W<|sl W A2 W<|sv W<|sv W<|gp W (N7 W) (fun _=>W) (gf W (vl W (gq W) W)<|gf W (fun w3=>(E3<|A5 w3))<|gp W (N7 W) (fun _=>W) (gf W (vl W A2 W)<|gf W (fun w6=>(E3<|A5 w6))<|gf W (fun w7=>(R1 (A5 w7) (A5 w7) W))<|sd W (U2 W W<|fun hc=>A5<|N2 hc)<|sv W<|gp W (N7 W) (fun _=>W) (gf W (vl W (gq W) W)<|gf W (fun w10=>(E3<|A5 w10))<|gp W (N7 W) (fun _=>W) (gf W (vl W A2 W)<|gf W (fun w13=>(E3<|A5 w13))<|gf W (fun w14=>(R1 (A5 w14) (A5 w14) W))<|sd W (U2 W W<|fun hc=>A5<|N2 hc)<|A1<|cc W h (fun c1 h=> ?_)<|fun c1 h=> ?_)))))
 refine B3<|sv W<|A1<|B7 ?_
 cases h
 exact A9 (.inr W) (C0 (B8 W) C6) (.refl _)
 refine B0<|A6<|B3<|sv W<|A1<|js h fun z1 hz1 h=>D3 (fun s=> ∃(y1:Unit) (g1:Unit),z1= .inl y1∧Sb ⟨T [(2,(.ptr (2,u1) 0)),(3,(.ptr (3,u1) 0))],G [((2,u1),some<|.box 25 (E1 p1)),((3,u1),some<|.box 25 (E1 p2))]⟩ s) ?_ ?_
 refine A7<|D7 (Hj p1 p2) (fun (x1:Int) (g2:Unit)=>⟨T [(2,(.ptr (2,u1) 0)),(3,(.ptr (3,u1) 0)),(5,(di x1))],G [((2,u1),some<|.box 25 (E1 p1)),((3,u1),some<|.box 25 (E1 p2))]⟩) 0 () _ hz1 (G0 W W) ?_
 intro x1 g2 z2 hz2 ez2
 unfold Hj at hz2
 refine A6<|B3<|sv W<|sq W<|sl W A2 W<|sd W (E3 W)<|sv W<|A1<|cc W hz2 (fun c2 hz2=> ?_)<|fun c2 hz2=> ?_
 refine B0<|A6<|A7<|A6<|Kd fun u6 _=>N5 (.ptr _ _) W W (N5 (.d _) W (O8 W A2 W) (N5 (.d _) W W (bs hz2 fun v1 hv1 hz2=>N5 (.d _) W (E7 W W hv1 W) (N5 (.d _) W (E6 W hv1 W W) (N5 (.ptr _ _) W W (N5 (.d _) W (O8 W (gq W) W) (N5 (.d _) W W (bs hz2 fun v2 hv2 hz2=>N5 (.d _) W (E7 W W hv2 W) (N5 (.d _) W (E6 W hv2 W W) (HO (.ptr _ _) (.box _ _) W W (HO (.ptr _ _) (.box _ _) W W (Ke _ _ _ _ _ W W W (gq W) (nl W) (M5 v1) W (Ke _ _ _ _ _ W W W (gq W) (nl W) (M5 v2) W (Ua ⟨W,?_⟩))))))))))))))
 refine A6<|B3<|sq W<|sl W (gq W) W (sd W (E3 W)<|sq W<|sl W A2 W<|sd W (E3 W)<|sv W<|sv W<|gp W (N7 W) (fun _=>W) (gf W (vl W (gq W) W)<|gp W (N7 W) (fun _=>W) (gf W (vl W A2 W)<|gf W (fun w19=>(R1 (A5 w19) (A5 w19) W))<|sd W (U2 W W<|fun hc=>A5<|N2 hc)<|sv W<|gp W (N7 W) (fun _=>W) (gf W (vl W (gq W) W)<|gp W (N7 W) (fun _=>W) (gf W (vl W A2 W)<|gf W (fun w24=>(R1 (A5 w24) (A5 w24) W))<|sd W (U2 W W<|fun hc=>A5<|N2 hc)<|sv W<|gp W (N7 W) (fun _=>W) (gf W (vl W (gq W) W)<|gp W (N7 W) (fun _=>W) (gf W (vl W A2 W)<|gf W (fun w29=>(R1 (A5 w29) (A5 w29) W))<|sd W (U2 W W<|fun hc=>A5<|N2 hc)<|sv W<|gp W (N7 W) (fun _=>W) (gf W (vl W (gq W) W)<|gp W (N7 W) (fun _=>W) (gf W (vl W A2 W)<|gf W (fun w34=>(R1 (A5 w34) (A5 w34) W))<|sd W (U2 W W<|fun hc=>A5<|N2 hc)<|sv W<|gp W (N7 W) (fun _=>W) (gf W (vl W (gq W) W)<|gp W (N7 W) (fun _=>W) (gf W (vl W A2 W) ?_)))))))))))
 refine P5 _ (.d (bo (!(v1.Obey==v2.Obey)))) W (N7 W) (fun w39=>(by simp only [A5 w39];rfl)) ?_
 refine sd W (U2 W W<|fun hc=>A5<|N2 hc)<|sv W<|gp W (N7 W) (fun _=>W) (gf W (vl W (gq W) W)<|gp W (N7 W) (fun _=>W) (gf W (vl W A2 W) ?_))
 refine P5 _ (.d (bo (!(v1.Gone==v2.Gone)))) W (N7 W) (fun w44=>(by simp only [A5 w44];rfl)) ?_
 refine sd W (U2 W W<|fun hc=>A5<|N2 hc)<|A1<|cc W hz2 (fun c3 hz2=> ?_)<|fun c3 hz2=> ?_
 refine B3<|sv W<|A1<|B7 ?_
 cases hz2
 obtain rfl:=ez2 _ rfl
 refine ⟨nofun,G4 ?_⟩
 rw [bI]at h
 cases h
 exact A9 (.inr W) (C0 (B8 W) C6) (.refl _)
 refine B0<|B3<|sv W<|A1<|js hz2 fun z3 hz3 hz2=>D3 (fun s=> ∃(y2:Unit) (g3:Unit),z3= .inl y2∧Sb ⟨T [(2,(.ptr (2,u1) 0)),(3,(.ptr (3,u1) 0)),(5,(di x1))],G [((2,u1),some<|.box 25 (E1 p1)),((3,u1),some<|.box 25 (E1 p2))]⟩ s) ?_ ?_
 refine A7<|D7 (Er v1 v2) (fun (x2:Int) (g4:Unit)=>⟨T [(2,(.ptr (2,u1) 0)),(3,(.ptr (3,u1) 0)),(5,(di x1)),(6,(.ptr (6,u6) 0)),(7,(.ptr (7,u6) 0)),(8,(di x2))],G [((2,u1),some<|.box 25 (E1 p1)),((3,u1),some<|.box 25 (E1 p2)),((6,u6),some<|.box 45 (M5 v1)),((7,u6),some<|.box 45 (M5 v2))]⟩) 0 () _ hz3 (G0 W W) ?_
 intro x2 g4 z4 hz4 ez4
 unfold Er at hz4
 refine A6<|B3<|sv W<|sq W<|sl W (gq W) W (sd W (E3 W)<|sv W<|A1<|cc W hz4 (fun c4 hz4=> ?_)<|fun c4 hz4=> ?_)
 refine B0<|A6<|A7<|A6<|K6 W<|sq W<|sl W (gq W) W (sv W<|bs hz4 fun _ hv3 hz4=>sd W (E7 W W hv3 W)<|sd W (H8 W hv3 W)<|sq W<|sl W (gq W) W (sv W<|bs hz4 fun _ hv4 hz4=>sd W (E7 W W hv4 W)<|sd W (H8 W hv4 W)<|sv W<|A1<|cc W hz4 (fun c5 hz4=> ?_)<|fun c5 hz4=> ?_))
 refine B3<|sv W<|A1<|B7 ?_
 cases hz4
 obtain rfl:=ez4 _ rfl
 refine ⟨nofun,G4 ?_⟩
 rw [bI]at hz2
 cases hz2
 obtain rfl:=ez2 _ rfl
 refine ⟨nofun,G4 ?_⟩
 rw [bI]at h
 cases h
 exact A9 (.inr W) (C0 (B8 W) C6) (.refl _)
 refine B0<|E5<|C3<|sv W<|sv W<|sv W<|A1<|E0 ?_
 cases hz4
 exact ⟨W,(),(G0 W W)⟩
 refine D1 W ?_
 cases hz4
 obtain rfl:=ez4 _ rfl
 refine ⟨nofun,C5 W<|U6 ?_⟩
 exact ⟨_,(),W,(G0 W W)⟩
 rintro _ ⟨y2,g3,rfl,q1⟩
 rw [bH]at hz2
 refine E5<|B6 q1<|C3<|sv W<|sv W<|sv W<|A1<|E0 ?_
 cases hz2
 exact ⟨W,(),(G0 W W)⟩
 refine D1 W ?_
 cases hz2
 obtain rfl:=ez2 _ rfl
 refine ⟨nofun,C5 W<|U6 ?_⟩
 exact ⟨_,(),W,(G0 W W)⟩
 rintro _ ⟨y1,g1,rfl,q2⟩
 rw [bH]at h
 refine B6 q2<|A6<|B3<|sv W<|A1<|js h fun z5 hz5 h=>D3 (fun s=> ∃(y3:Unit) (g5:Unit),z5= .inl y3∧Sb ⟨T [],G []⟩ s) ?_ ?_
 refine A7<|D7 (Hh p1 p2) (fun (x3:Int) (g6:Unit)=>⟨T [(2,(.ptr (2,u1) 0)),(3,(.ptr (3,u1) 0)),(9,(di x3))],G [((2,u1),some<|.box 25 (E1 p1)),((3,u1),some<|.box 25 (E1 p2))]⟩) 0 () _ hz5 (G0 W W) ?_
 intro x3 g6 z6 hz6 ez6
 unfold Hh at hz6
 refine A6<|B3<|sv W<|sq W<|sl W A2 W<|sd W (E3 W)<|sv W<|A1<|cc W hz6 (fun c6 hz6=> ?_)<|fun c6 hz6=> ?_
 refine B0<|A6<|A7<|A6<|K6 W<|sq W<|sl W A2 W<|sv W<|bs hz6 fun v5 hv5 hz6=>sd W (E7 W W hv5 W)<|sd W (E6 W hv5 W W)<|sq W<|sl W (gq W) W (sv W<|bs hz6 fun v6 hv6 hz6=>sd W (E7 W W hv6 W)<|sd W (E6 W hv6 W W)<|C2 (.d (bo (!(v5.Agent_==v6.Agent_&& (v5.Zone_==v6.Zone_&& (v5.Since==v6.Since&& (v5.Rank==v6.Rank&&true))))))) W W (A1<|cc W hz6 (fun c7 hz6=> ?_)<|fun c7 hz6=> ?_))
 refine B3<|sv W<|A1<|B7 ?_
 cases hz6
 obtain rfl:=ez6 _ rfl
 refine ⟨nofun,G4 ?_⟩
 rw [bI]at h
 cases h
 exact A9 (.inr W) (C0 (B8 W) C6) (.refl _)
 refine B0<|E5<|C3<|sv W<|sv W<|sv W<|A1<|E0 ?_
 cases hz6
 exact ⟨W,(),(G0 W W)⟩
 refine D1 W ?_
 cases hz6
 obtain rfl:=ez6 _ rfl
 refine ⟨nofun,C5 W<|U6 ?_⟩
 exact ⟨_,(),W,(G0 W W)⟩
 rintro _ ⟨y3,g5,rfl,q3⟩
 rw [bH]at h
 refine B6 q3<|B3<|sv W<|A1<|B7 ?_
 cases h
 exact A9 (.inr W) (C0 (B8 W) C6) (.refl _)
def Px (p1:Bool):Option Int:=
  cond p1 (some 1) (some 0)
theorem Wi(p1 r)(h:Px p1=some r):PCall prog 116 [(bo p1)] (i64 r):=by
 refine C7 (fk func116 ntmps116 m0 (by with_unfolding_all rfl)) (nl W) ?_
 unfold Px at h
 refine B6 (s0:=⟨T [(0,(.d _))],G []⟩) (G0 W W) ?_
 refine B3<|sv W<|A1<|A6<|B3<|sv W<|A1<|cc W h (fun c1 h=> ?_)<|fun c1 h=> ?_
 refine B3<|sv W<|A1<|B7 ?_
 cases h
 exact A9 (.inr W) (C0 (B8 W) C6) (.refl _)
 refine B0<|B3<|sv W<|A1<|B7 ?_
 cases h
 exact A9 (.inr W) (C0 (B8 W) C6) (.refl _)
end
end Go.Abs.World
