/-
  The functions, part 3.
-/
import Derived.Test.YtgjdiioennhoeaaGreatFns2
set_option maxRecDepth 20000
set_option maxHeartbeats 4000000
set_option linter.unusedVariables false
namespace Go.Abs.World
noncomputable section
open Go Go.Abs Go.Proofs
attribute [local irreducible] M0 Kw Fb
def Bm (p1:Int)(p2:Int)(p3:Int)(p4:Int)(p5:Int):Option Bool:=
  ((cond (decide (p1>p2)) (Mx p3 p4) (some default))).bind fun v1=>((cond ((decide (p1>p2))&& (decide ((C5 (p2+v1))<p1))) (Mx p5 p4) (some default))).bind fun v2=>some (((decide (p1>p2))&& (decide ((C5 (p2+v1))<p1)))&& (decide ((C5 ((C5 (p2+p5))+v2))≥p1)))
theorem Ym(p1 p2 p3 p4 p5 r)(h:Bm p1 p2 p3 p4 p5=some r):PCall Tryz.prog 225 [(i64 p1),(.bp [(i64 p2)] 0),(.bp [(i64 p3)] 0),(.bp [(i64 p4)] 0),(.bp [(i64 p5)] 0)] (bo r):=by
 refine C3 (fk Tryz.func225 Tryz.ntmps225 m0 (by with_unfolding_all rfl)) (nl W) ?_
 unfold Bm at h
 refine B4 (s0:=⟨T [(0,(.d _)),(1,(.d _)),(2,(.d _)),(3,(.d _)),(4,(.d _))],G []⟩) (F3 W W) ?_
 refine A9<|sv W<|A1<|A4<|F4 W<|sv W<|sv W<|sv W<|sv W<|gt W (fun _=>W)<|gt W (fun _=>W)<|gt W (fun _=>W)<|bs h fun v1 hv1 h=> ?_
 refine O3 _ (i64 v1) (M8 W) (fun w4=>⟨_,[(di p3),(di p4)],_,_,(by simp only [A2 w4];rfl),W,A3,Yl _ _ _<|C2 w4 hv1,(.inl W)⟩) ?_
 refine gt W (fun w5=>(N1 (A2 w5) (A2 w5) W))<|gt W (fun _=>W)<|gt W (fun w7=>(N1 (A2 w7) (A2 w7) W))<|sa W W W<|sv W<|gt W (fun _=>W)<|gt W (fun _=>W)<|gt W (fun w10=>(N1 (A2 w10) (A2 w10) W))<|gt W (fun _=>W)<|gt W (fun _=>W)<|bs h fun v2 hv2 h=> ?_
 refine O3 _ (i64 v2) (M8 W) (fun w13=>⟨_,[(di p5),(di p4)],_,_,(by simp only [A2 w13];rfl),W,A3,Yl _ _ _<|C2 w13 hv2,(.inl W)⟩) ?_
 refine gt W (fun w14=>(N1 (A2 w14) (A2 w14) W))<|gt W (fun _=>W)<|gt W (fun w16=>(N1 (A2 w16) (A2 w16) W))<|sa W W W<|sv W<|A1<|B0 ?_
 cases h
 exact A6 (.inr W) (B6 (B2 W) C1) (.refl _)
def J5 (p1:(List Int))(p2:Int)(p3:Int)(p4:Int)(p5:Int)(x1:Int):Option (Stp Int (Sum Unit Int)):=
  cond (decide (x1< (p1.length:Int))) ((B7 p1 x1).bind fun v1=>(Bm v1 p2 p3 p4 p5).bind fun v2=>cond v2 (some (.out (.inr x1))) (some (.go (C5 (x1+1))))) (some (.out (.inl ())))
def K4 (p1:(List Int))(p2:Int)(p3:Int)(p4:Int)(p5:Int):Option Int:=
  thenS (loop (J5 p1 p2 p3 p4 p5) 0) (fun _=>some (-1)) (fun r=>some r)
theorem Gq(p1 p2 p3 p4 p5 r)(h:K4 p1 p2 p3 p4 p5=some r):PCall Tryz.prog 254 [(.list (List.map A5 p1)),(.fn (.func 225) [] [(.bp [(i64 p2)] 0),(.bp [(i64 p3)] 0),(.bp [(i64 p4)] 0),(.bp [(i64 p5)] 0)])] (i64 r):=by
 refine C3 (fk Tryz.func254 Tryz.ntmps254 m0 (by with_unfolding_all rfl)) (nl W) ?_
 unfold K4 at h
 refine B4 (s0:=⟨T [(0,(.d _)),(1,(.d _))],G []⟩) (F3 W W) ?_
 refine A9<|sv W<|A1<|A4<|A9<|sv W<|sd W (D7 W)<|sv W<|A1<|js h fun z1 hz1 h=>E0 (fun s=> ∃(y1:Unit) (g1:Unit),z1= .inl y1∧Sb ⟨T [],G []⟩ s) ?_ ?_
 refine A7<|E3 (J5 p1 p2 p3 p4 p5) (fun (x1:Int) (g2:Unit)=>⟨T [(0,(dl A5 p1)),(1,(.d (.fn (.func 225) [] [(.bp [(i64 p2)] 0),(.bp [(i64 p3)] 0),(.bp [(i64 p4)] 0),(.bp [(i64 p5)] 0)]))),(7,(di (p1.length:Int))),(8,(di x1))],G []⟩) 0 () _ hz1 (F3 W W) ?_
 intro x1 g2 z2 hz2 ez2
 unfold J5 at hz2
 refine A9<|sv W<|A1<|A4<|cc W hz2 (fun c1 hz2=> ?_)<|fun c1 hz2=> ?_
 refine A8<|A4<|A7<|A9<|sv W<|sv W<|A1<|A9<|sv W<|sv W<|sv W<|bs hz2 fun _ hv1 hz2=>sd W (C8 W W hv1 W)<|sd W (D6 W hv1 W)<|bs hz2 fun _ hv2 hz2=>B1 W W A3 (Ym _ _ _ _ _ _ hv2) (.inl W) (A1<|cc W hz2 (fun c2 hz2=> ?_)<|fun c2 hz2=> ?_)
 refine A9<|sv W<|sv W<|A1<|B0 ?_
 cases hz2
 obtain rfl:=ez2 _ rfl
 refine ⟨nofun,F2 ?_⟩
 rw [bT]at h
 cases h
 exact A6 (.inr W) (B6 (B2 W) C1) (.refl _)
 refine A8<|E2<|C0<|sv W<|sv W<|A1<|E5 ?_
 cases hz2
 exact ⟨W,(),(F3 W W)⟩
 refine C6 W ?_
 cases hz2
 obtain rfl:=ez2 _ rfl
 refine ⟨nofun,C4 W<|Aj ?_⟩
 exact ⟨_,(),W,(F3 W W)⟩
 rintro _ ⟨y1,g1,rfl,q1⟩
 rw [bS]at h
 refine B4 q1<|A9<|sv W<|A1<|B0 ?_
 cases h
 exact A6 (.inr W) (B6 (B2 W) C1) (.refl _)
def J6 (p1:(List Int))(p2:Int)(p3:Int)(p4:Int)(p5:Int):Option Bool:=
  (K4 p1 p2 p3 p4 p5).bind fun v1=>some (decide (v1≥0))
theorem Fe(p1 p2 p3 p4 p5 r)(h:J6 p1 p2 p3 p4 p5=some r):PCall Tryz.prog 224 [(.list (List.map A5 p1)),(.fn (.func 225) [] [(.bp [(i64 p2)] 0),(.bp [(i64 p3)] 0),(.bp [(i64 p4)] 0),(.bp [(i64 p5)] 0)])] (bo r):=by
 refine C3 (fk Tryz.func224 Tryz.ntmps224 m0 (by with_unfolding_all rfl)) (nl W) ?_
 unfold J6 at h
 refine B4 (s0:=⟨T [(0,(.d _)),(1,(.d _))],G []⟩) (F3 W W) ?_
 refine A9<|sv W<|A1<|A9<|sv W<|sv W<|bs h fun _ hv1 h=>B1 W W A3 (Gq _ _ _ _ _ _ hv1) (.inl W) (sv W<|sv W<|A1<|B0 ?_)
 cases h
 exact A6 (.inr W) (B6 (B2 W) C1) (.refl _)
def Ps (p1:(List Int))(p2:Int)(p3:Int)(p4:Int)(p5:Int):Option Bool:=
  (J6 p1 p2 p3 p5 p4).bind fun v1=>some (!v1)
theorem OG(p1 p2 p3 p4 p5 r)(h:Ps p1 p2 p3 p4 p5=some r):PCall Tryz.prog 181 [(.list (List.map A5 p1)),(i64 p2),(i64 p3),(i64 p4),(i64 p5)] (bo r):=by
 refine C3 (fk Tryz.func181 Tryz.ntmps181 m0 (by with_unfolding_all rfl)) (nl W) ?_
 unfold Ps at h
 refine B4 (s0:=⟨T [(0,(.d _)),(1,(.d _)),(2,(.d _)),(3,(.d _)),(4,(.d _))],G []⟩) (F3 W W) ?_
 refine A9<|sm W<|sn W W<|sm W<|sn W W<|sv W<|A1<|A9<|sv W<|B9 (.fn _ _ _) W W (bs h fun v1 hv1 h=>B1 W (rD<|E7 (EY G2<|E7 (Df (gq W)<|rD G2)<|E7 (Df (gq W)<|rD G2)<|E7 (Df G_hit<|rD G2)<|E7 (Df (gq W)<|rD G2) G2) G2) A3 (Fe _ _ _ _ _ _ hv1) (.inr W) (B9 (.d (bo (!v1))) W W (sv W<|A1<|B0 ?_)))
 cases h
 exact A6 (.inr W) (B6 (B2 W) C1) (.refl _)
def Lj (p2:Agent)(v1:(Int×Int))(v3:(Int×Int×Int))(v5:(List Int))(x1:Int):Option (Stp Int Int):=
  ((cond (decide (x1>(C5 (0 - v3.2.2)))) (Dh x1 p2 v3.1) (some default))).bind fun v6=>((cond (decide (x1>(C5 (0 - v3.2.2)))) (Ps v5 v1.2 p2.V v6 v3.2.2) (some default))).bind fun v7=>cond ((decide (x1>(C5 (0 - v3.2.2))))&& (!v7)) (some (.go (C5 (x1 - 1)))) (some (.out x1))
def Rm (p1:Map)(p2:Agent)(p3:Int)(p4:Int):Option Agent:=
  (Kc p1 p2).bind fun v1=>(B7 p1.Lanes v1.1).bind fun v2=>(Cq v2.Kind).bind fun v3=>((cond p2.Obey (Dy p1 v1.1) (some default))).bind fun v4=>(cond (p2.Obey&& (decide (v1.2≤v4))) ((Vl p1 v1.1 p3).bind fun v5=>(loop (Lj p2 v1 v3 v5) (Us true (C5 (0 - v3.2.2)) (Us false p4 v3.2.1))).bind fun y2=>some y2) (some (Us true (C5 (0 - v3.2.2)) (Us false p4 v3.2.1)))).bind fun y1=>(Dh y1 p2 v3.1).bind fun v8=>(Kd p1 (Agent.mk p2.Route (C5 (p2.S+v8)) v8 p2.Len p2.Begin p2.Obey p2.Gone)).bind fun v9=>some (Agent.mk p2.Route (C5 (p2.S+v8)) v8 p2.Len p2.Begin p2.Obey v9)
theorem PU(p1 p2 p3 p4 r)(h:Rm p1 p2 p3 p4=some r):PCall Tryz.prog 88 [(.agg (U5 p1)),(.agg (C9 p2)),(i64 p3),(i64 p4)] (.agg (C9 r)):=by
 refine C3 (fk Tryz.func88 Tryz.ntmps88 m0 (by with_unfolding_all rfl)) (nl W) ?_
 unfold Rm at h
 refine B4 (s0:=⟨T [(0,(.d _)),(1,(.d _)),(2,(.d _)),(3,(.d _))],G []⟩) (F3 W W) ?_
 refine lr<|fun u1 _=>sm W<|sm W<|sn W W<|A1<|A9<|sd W (B3 W (gq W) W W)<|sd W (B3 W (gq W) W W)<|bs h fun v1 hv1 h=>B1 W W A3 (FE _ _ _ hv1) (.inl W) (sv W<|sv W<|sv W<|sv W<|sv W<|A1<|lr<|fun u3 _=>sq W<|sl W (gq W) W (sv W<|bs h fun _ hv2 h=>sd W (C8 W W hv2 W)<|sv W<|sd W (D6 W hv2 W)<|bs h fun v3 hv3 h=>B1 W W A3 (Oz _ _ hv3) (.inl W) (sv W<|sv W<|sv W<|sv W<|sm W<|Bc W G_hit [(di v3.1)] W (sv W<|sv W<|A1<|A9<|B9 (.fn _ _ _) W W (B9 (.fn _ _ _) W W (A1<|A9<|sv W<|B9 (di<|C5 (0 - v3.2.2)) W W (sv W<|sv W<|sv W<|sv W<|sv W<|A1<|A4<|A9<|sq W<|sl W (gq W) W (sv W<|gt W (fun _=>W) ?_))))))))
 refine gt W (fun _=>(B3 W (gq W) W W))<|gt W (fun _=>W)<|bs h fun v4 hv4 h=> ?_
 refine O3 p2.Obey (i64 v4) (M8 W) (fun w4=>⟨_,[(.d (.agg (U5 p1))),(di v1.1)],_,_,(by simp only [A2 w4];rfl),W,A3,Tu _ _ _<|C2 w4 hv4,(.inl W)⟩) ?_
 refine gt W (fun w5=>(N1 (A2 w5) (A2 w5) W))<|sa W W W<|A1<|bs h fun y1 hy1 h=>E0 (fun s=> ∃g1:Unit,Sb ⟨T [(3,(di y1)),(4,(.ptr (4,u1) 0)),(5,(.ptr (5,u1) 0)),(8,(.ptr (8,u1) 0)),(14,(.fn (.func 179) [] [(.ptr (5,u1) 0),(.ptr (11,u3) 0)]))],G [((4,u1),some<|.box 33 (M7 p1)),((5,u1),some<|.box 45 (X2 p2)),((8,u1),some<|.box 45 ([(.d .nilS)]++ (zs 4)++ [(.d (bo false)),(.d (bo false))])),((11,u3),some<|.box 2 [(di v3.1)])]⟩ s) ?_ ?_
 refine cc W hy1 (fun c1 hy1=> ?_)<|fun c1 hy1=> ?_
 refine A9<|sd W (B3 W (gq W) W W)<|sv W<|sv W<|bs hy1 fun v5 hv5 hy1=>B1 W W A3 (TG _ _ _ _ hv5) (.inl W) (sv W<|A1<|bs hy1 fun y2 hy2 hy1=>E0 (fun s=> ∃g2:Unit,Sb ⟨T [(3,(di y2)),(4,(.ptr (4,u1) 0)),(5,(.ptr (5,u1) 0)),(8,(.ptr (8,u1) 0)),(14,(.fn (.func 179) [] [(.ptr (5,u1) 0),(.ptr (11,u3) 0)]))],G [((4,u1),some<|.box 33 (M7 p1)),((5,u1),some<|.box 45 (X2 p2)),((8,u1),some<|.box 45 ([(.d .nilS)]++ (zs 4)++ [(.d (bo false)),(.d (bo false))])),((11,u3),some<|.box 2 [(di v3.1)])]⟩ s) ?_ ?_)
 refine A7<|E3 (Lj p2 v1 v3 v5) (fun (x1:Int) (g3:Unit)=>⟨T [(3,(di x1)),(4,(.ptr (4,u1) 0)),(5,(.ptr (5,u1) 0)),(8,(.ptr (8,u1) 0)),(10,(di v1.2)),(13,(di v3.2.2)),(14,(.fn (.func 179) [] [(.ptr (5,u1) 0),(.ptr (11,u3) 0)])),(15,(dl A5 v5))],G [((4,u1),some<|.box 33 (M7 p1)),((5,u1),some<|.box 45 (X2 p2)),((8,u1),some<|.box 45 ([(.d .nilS)]++ (zs 4)++ [(.d (bo false)),(.d (bo false))])),((11,u3),some<|.box 2 [(di v3.1)])]⟩) (Us true (C5 (0 - v3.2.2))<|Us false p4 v3.2.1) () _ hy2 (F3 W W) ?_
 intro x1 g3 z1 hz1 ez1
 unfold Lj at hz1
 refine A4<|A4<|F4 W<|sv W<|sv W<|B9 (di<|C5 (0 - v3.2.2)) W W (sv W<|sv W<|gt W (fun _=>W)<|gt W (fun _=>W)<|gp W (M8 W) (fun _=>W) (gt W (vl W (gq W) W)<|N2 _ (.fn _ _ _) W (M8 W) (fun _=>W) (gt W (fun _=>W)<|bs hz1 fun v6 hv6 hz1=> ?_)))
 refine O3 _ (i64 v6) (M8 W) (fun w12=>⟨_,[(di x1),(.ptr (5,u1) 0),(.ptr (11,u3) 0)],_,_,(by simp only [A2 w12];rfl),(rD<|E7 (Df (gq W)<|rD<|rD<|rD<|rD<|rD<|rD<|rD G2)<|E7 (Df (gq W)<|rD G2) G2),A3,Uv _ _ _ _<|C2 w12 hv6,(.inr W)⟩) ?_
 refine gt W (fun _=>W)<|bs hz1 fun v7 hv7 hz1=> ?_
 refine O3 _ (bo v7) (M8 W) (fun w14=>⟨_,[(dl A5 v5),(di v1.2),(di p2.V),(di v6),(di v3.2.2)],_,_,(by simp only [A2 w14];rfl),W,A3,OG _ _ _ _ _ _<|C2 w14 hv7,(.inl W)⟩) ?_
 refine N2 _ (.d (bo (!v7))) W (M8 W) (fun w15=>(by simp only [A2 w15];rfl)) ?_
 refine sa W W W<|A1<|cc W hz1 (fun c2 hz1=> ?_)<|fun c2 hz1=> ?_
 refine A8<|A7<|C0<|sv W<|sv W<|sv W<|A1<|E2<|E5 ?_
 cases hz1
 exact ⟨W,(),(F3 W W)⟩
 refine C6 W ?_
 cases hz1
 obtain rfl:=ez1 _ rfl
 refine ⟨nofun,C4 W<|Aj ?_⟩
 exact ⟨(),(F3 W W)⟩
 rintro _ ⟨g2,q1⟩
 obtain rfl:=(lD hy1)
 exact Aj ⟨(),(Sb.after q1<|F3 W W)⟩
 refine A8 ?_
 cases hy1
 exact Aj ⟨(),(F3 W W)⟩
 rintro _ ⟨g1,q2⟩
 refine B4 q2<|A9<|B9 (.fn _ _ _) W W (sv W<|bs h fun v8 hv8 h=>B1 W (rD<|E7 (Df (gq W)<|rD<|rD<|rD<|rD<|rD<|rD<|rD G2)<|E7 (Df (gq W)<|rD G2) G2) A3 (Uv _ _ _ _ hv8) (.inr W) (sq W<|Bc W (gq W) ((X2 p2).set 2 (di v8)) W (A1<|A9<|sq W<|sl W G_hit W<|sq W<|sl W G_hit W<|sv W<|sq W<|Bc W G_hit (((X2 p2).set 1 (di<|C5 (p2.S+v8))).set 2 (di v8)) W (A1<|A9<|sd W (B3 W (gq W) W W)<|sd W (B3 W G_hit W W)<|bs h fun v9 hv9 h=>B1 W W A3 (FF _ _ _ hv9) (.inl W) (sq W<|Bc W G_hit ((((X2 p2).set 1 (di<|C5 (p2.S+v8))).set 2 (di v8)).set 6 (.d (bo v9))) W (A1<|A9<|sd W (B3 W G_hit W W)<|Bc W (gq W) ((((X2 p2).set 1 (di<|C5 (p2.S+v8))).set 2 (di v8)).set 6 (.d (bo v9))) W (A1<|B0 ?_)))))))
 cases h
 exact A6 (.inr W) (B6 (L4 W G_hit (nl W) W) C1) (.refl _)
def Rn (p1:Map)(p2:State)(p3:Int)(p4:Int):Option Agent:=
  cond ((decide (p3<0))||(decide (p3≥(p2.Agents.length:Int)))) (some (Agent.mk [] 0 0 0 0 false false)) ((B7 p2.Agents p3).bind fun v1=>(Bp v1).bind fun v2=>(Ec p2 p3).bind fun v3=>((cond (!(!v3)) (Fk p1 p2) (some default))).bind fun v4=>cond ((!v3)||(v4 !=0)) (some v2) ((Rm p1 v2 p2.Tick p4).bind fun v5=>some v5))
theorem PV(p1 p2 p3 p4 r)(h:Rn p1 p2 p3 p4=some r):PCall Tryz.prog 29 [(.agg (U5 p1)),(.agg (Cf p2)),(i64 p3),(i64 p4)] (.agg (C9 r)):=by
 refine C3 (fk Tryz.func29 Tryz.ntmps29 m0 (by with_unfolding_all rfl)) (nl W) ?_
 unfold Rn at h
 refine B4 (s0:=⟨T [(0,(.d _)),(1,(.d _)),(2,(.d _)),(3,(.d _))],G []⟩) (F3 W W) ?_
 refine A9<|sm W<|sn W W<|sm W<|A1<|A4<|A9<|sv W<|sv W<|sv W<|gf W (fun _=>W)<|gp W (K5 W) (fun _=>W) (gf W (vl W (gq W) W)<|gf W (fun w4=>(D7<|A2 w4))<|gf W (fun w5=>(N1 (A2 w5) (A2 w5) W))<|sd W (O2 W W<|fun hc=>A2<|J7 hc)<|A1<|cc W h (fun c1 h=> ?_)<|fun c1 h=> ?_)
 refine A9<|sv W<|Bc W G_hit ([(.d .nilS)]++ (zs 4)++ [(.d (bo false)),(.d (bo false))]) W (A1<|B0 ?_)
 cases h
 exact A6 (.inr W) (B6 (L4 W G_hit (nl W) W) C1) (.agg (.cons ⟨DLe.nil,W⟩ (cz W)))
 refine A8<|A9<|sq W<|sl W (gq W) W (sv W<|bs h fun _ hv1 h=>sd W (C8 W W hv1 W)<|sd W (D2 W hv1 W W)<|bs h fun v2 hv2 h=>B1 W W A3 (Qg _ _ hv2) (.inl W) (sm W<|Bc W G_hit (X2 v2) W (A1<|A4<|A9<|sd W (B3 W (gq W) W W)<|sv W<|bs h fun v3 hv3 h=>B1 W W A3 (Qh _ _ _ hv3) (.inl W) (B9 (.d (bo (!v3))) W W (sv W<|gf W (fun _=>(B3 W (gq W) W W))<|gf W (fun _=>(B3 W (gq W) W W))<|bs h fun v4 hv4 h=> ?_)))))
 refine O3 _ (i64 v4) (K5 W) (fun w8=>⟨_,[(.d (.agg (U5 p1))),(.d (.agg (Cf p2)))],_,_,(by simp only [A2 w8];rfl),W,A3,Vy _ _ _<|C2 w8 hv4,(.inl W)⟩) ?_
 refine gf W (vb W W W)<|sd W (O2 W W<|fun hc=>A2<|J7 hc)<|A1<|cc W h (fun c2 h=> ?_)<|fun c2 h=> ?_
 refine A9<|sd W (B3 W G_hit W W)<|Bc W (gq W) (X2 v2) W (A1<|B0 ?_)
 cases h
 exact A6 (.inr W) (B6 (L4 W G_hit (nl W) W) C1) (.refl _)
 refine A8<|A9<|sd W (B3 W (gq W) W W)<|sd W (B3 W G_hit W W)<|sq W<|sl W (gq W) W (sv W<|bs h fun v5 hv5 h=>B1 W W A3 (PU _ _ _ _ _ hv5) (.inl W) (Bc W (gq W) (X2 v5) W (A1<|B0 ?_)))
 cases h
 exact A6 (.inr W) (B6 (L4 W G_hit (nl W) W) C1) (.refl _)
theorem Wa(p1 r)(h:T7 p1=some r):MCall Tryz.prog 121 [.d (.list (List.map J8 p1))] [] (oE r (800000,0)) [] [oB 127 4 J8 r]:=by
  cases p1 with
  |nil=>
   have hr:r= []:=by obtain ⟨_,rfl⟩:=Np h;rfl
   subst hr
   exact MCall.ofP<|Od [] [] h
  |cons x xs=>
  have hr:Bo ([]:List Stay) (x::xs)=some r:=h
  have e:=(Np hr).2
  rw [lP]at e
  rw [qK (Ba hr),gM (Ba hr)]
  refine TA (fk Tryz.func121 Tryz.ntmps121 m0 (by with_unfolding_all rfl)) W (Nat.le_of_ble_eq_true W) ?_
  refine (B4 (s0:=⟨T [(0, .d (.list (List.map J8 (x::xs))))],G []⟩) (E1 ⟨.of W,trivial⟩ trivial) ?_)
  refine A4 ?_
  refine Eh fun _ _=> ?_
  refine B9 (.d .nilS) W W ?_
  refine A1 ?_
  refine A4 ?_
  refine A4 ?_
  refine Eh fun _ _=> ?_
  refine B9 (.d (.list (List.map J8 (x::xs)))) W W ?_
  refine B9 (.d (bo false)) W W ?_
  refine A1 ?_
  refine Xr W ?_
  refine A8 ?_
  refine A4 ?_
  refine Eh fun u3 _=> ?_
  refine Sv (.sl _) (.arr 127 4 (List.map J8 ([]:List Stay))) W W ?_
  refine B9 (.d (.list (List.map J8 (x::xs)))) W W ?_
  refine CW J8 _ [] (x::xs) _ (N3<|fun _=>W) W G_hit hr ?_
  refine B9 (.sl _) W W ?_
  refine A1 ?_
  refine B0 ?_
  exact hO (v1:= .sl (7,u3)) (.inr W) (VC<|B2 W) (.of W) [((7,u3),some<|.arr 127 4 (List.map J8 r))] (B5 G_hit (.of W) trivial) (hJ [(7,u3)] W trivial ⟨G_hit,trivial⟩ W (by simp only [lT,List.not_mem_nil,or_false,forall_eq];exact fun i=>gZ rfl i) nd1)
def Fs (p1:State)(x1:(Int×State)):Option (Stp (Int×State) State):=
  cond (decide (x1.1< (p1.Agents.length:Int))) ((B7 p1.Agents x1.1).bind fun v2=>(Bp v2).bind fun v3=>(Bo x1.2.Agents [v3]).bind fun v4=>some (.go ((C5 (x1.1+1)),(State.mk x1.2.Tick v4 x1.2.In)))) (some (.out x1.2))
def Lk (p1:State):Option State:=
  (T7 p1.In).bind fun v1=>(loop (Fs p1) (0,(State.mk p1.Tick [] v1))).bind fun y1=>some y1
theorem JX(p1 r)(h:Lk p1=some r):MCall Tryz.prog 56 [(.d (.agg (Cf p1)))] [] (Bg [(di r.Tick),(oS r.Agents (800000,0)),(oE r.In (800001,0))]) [] [oB 45 7 C9 r.Agents,oB 127 4 J8 r.In]:=by
 refine TA (fk Tryz.func56 Tryz.ntmps56 (fun r=>if r==1 then [1001004]else if r==5 then [1004]else []) (by with_unfolding_all rfl)) (by generalize r.Agents=x1;generalize r.In=x2;cases x1<;>cases x2<;>rfl) (nl W) ?_
 unfold Lk at h
 refine B4 (s0:=⟨T [(0,(.d _))],G []⟩) (F3 W W) ?_
 refine lr<|fun u1 _=>sm W<|sm W<|A1<|A4<|AA fun u2 _=>X1 (.ptr _ _) W W (X1 (.d _) W (T6 W (gq W) W) (X1 (.ptr _ _) W W (X1 (.d _) W (T6 W (gq W) W) (bs h fun v1 hv1 h=> ?_))))
 refine qJ (v:=oE v1 (10010040,u2)) (us:= [(10010040,u2)]) (iA (Wa _ _ hv1) [] [] _ (((10010040,u2),oB 127 4 J8 v1)::_) W Qc W Ky trivial (fun _ h=>h) List.nodup_nil (by generalize v1=x1;cases x1<;>rfl) W (NX (W)) W) ?_
 refine X1 (Bg [(di p1.Tick),(.d .nilS),(oE v1 (10010040,u2))]) W (by generalize v1=x1;cases x1<;>rfl) ?_
 refine NR (.ptr _ _) (.box _ _) W W (AB _ _ _ _ _ (Bb _) W W G_hit (nl W) [(di p1.Tick),(.d .nilS),(oE v1 (10010040,u2))] W (NQ ⟨W,?_⟩))
 refine A4<|A9<|sq W<|sl W (gq W) W (sd W (D7 W)<|sv W<|A1<|bs h fun y1 hy1 h=>E0 (fun s=> ∃g1:(Nat×Nat),Sb ⟨T [(2,(.ptr (2,u1) 0)),(3,(.ptr (3,u2) 0))],G [((2,u1),some<|.box 25 [(di 0),(.d .nilS),(.d .nilS)]),((3,u2),some<|.box 25 [(di y1.Tick),(oS y1.Agents (24,g1.1)),(oE y1.In (10010040,g1.2))]),((24,g1.1),oB 45 7 C9 y1.Agents),((10010040,g1.2),oB 127 4 J8 y1.In)]⟩ s) ?_ ?_)
 refine A7<|E3 (Fs p1) (fun (x1:(Int×State)) (g2:(Nat×Nat))=>⟨T [(2,(.ptr (2,u1) 0)),(3,(.ptr (3,u2) 0)),(13,(dl C9 p1.Agents)),(14,(di (p1.Agents.length:Int))),(15,(di x1.1))],G [((2,u1),some<|.box 25 [(di 0),(.d .nilS),(.d .nilS)]),((3,u2),some<|.box 25 [(di x1.2.Tick),(oS x1.2.Agents (24,g2.1)),(oE x1.2.In (10010040,g2.2))]),((24,g2.1),oB 45 7 C9 x1.2.Agents),((10010040,g2.2),oB 127 4 J8 x1.2.In)]⟩) (0,(State.mk p1.Tick [] v1)) (0,u2) _ hy1 (E1 (Ck W)<|sg W<|B5 G_hit (.of W)<|X0<|B8 (gq W) trivial) ?_
 intro x1 g2 z1 hz1 ez1
 unfold Fs at hz1
 refine A9<|sv W<|A1<|A4<|cc W hz1 (fun c1 hz1=> ?_)<|fun c1 hz1=> ?_
 refine A8<|A4<|A7<|A9<|bs hz1 fun v2 hv2 hz1=>sd W (C8 W W hv2 W)<|sd W (D2 W hv2 W W)<|sm W<|Bc W G_hit (X2 v2) W (A1<|Rk W fun u6 _=>sq W<|B9 (oS x1.2.Agents (24,g2.1)) W (T6 W (gq W) W) (sd W (B3 W G_hit W W)<|bs hz1 fun v3 hv3 hz1=>B1 W W A3 (Qg _ _ hv3) (.inl W) (B9 (dl C9 [v3]) W W (bs hz1 fun _ hv4 hz1=>V3 C9 (24,g2.1) x1.2.Agents v3 [] _ (N3<|fun _=>W) W (gq W) hv4 (sq W<|Bc W (gq W) [(di x1.2.Tick),(.sl (24,u6)),(oE x1.2.In (10010040,g2.2))] W (A1<|E2<|C0<|sv W<|sv W<|A1<|E5 ?_))))))
 cases hz1
 exact ⟨W,(u6,g2.2),(E1 (Ck W)<|sg W<|B5 G_hit (.box (cv<|.cons (.of (Aq<|Ba hv4).symm) cw))<|O6 (gq W)<|B8 (gq W) trivial)⟩
 refine C6 W ?_
 cases hz1
 obtain rfl:=ez1 _ rfl
 refine ⟨nofun,C4 W<|Aj ?_⟩
 exact ⟨(g2.1,g2.2),(E1 (Ck W)<|B5 G_hit (.of W)<|sg W<|B8 (gq W)<|B8 (gq W) trivial)⟩
 rintro _ ⟨g1,q1⟩
 refine B4 q1<|A9<|B9 (Bg [(di y1.Tick),(oS y1.Agents (24,g1.1)),(oE y1.In (10010040,g1.2))]) W (B3 W (gq W) W W) (Me _ _ _ _ _ (Bb _) W W G_hit (nl W) [(di y1.Tick),(oS y1.Agents (24,g1.1)),(oE y1.In (10010040,g1.2))] W (A1<|B0 ?_))
 obtain rfl:=(lD h)
 exact hO (v1:=(Bg [(di y1.Tick),(oS y1.Agents (24,g1.1)),(oE y1.In (10010040,g1.2))])) (.inr W) (VC<|L4 W G_hit (Nat.le_of_ble_eq_true W) W) (.of W) [((24,g1.1),oB 45 7 C9 y1.Agents),((10010040,g1.2),oB 127 4 J8 y1.In)] (B8 (gq W)<|B8 (gq W) trivial) (aD [(24,g1.1),(10010040,g1.2)] (by generalize y1.Agents=x1;generalize y1.In=x2;cases x1<;>cases x2<;>rfl) trivial ⟨(G_hit).trans oB_ren.symm,((gq W)).trans oB_ren.symm,trivial⟩ W (List.forall_mem_cons.2 ⟨fun i hi=>MG W hi,(List.forall_mem_cons.2 ⟨fun i hi=>MG W hi,(fun _ h=>nomatch h)⟩)⟩) (pV<|Qd W))
def Bi (p1:WorldScene)(p2:Int)(p3:Int):Option (Int×Bool):=
  (B7 p1.before.Agents p2).bind fun v1=>(X7 v1.Route p3).bind fun v2=>cond (decide (v2<0)) (some (0,false)) ((Du p1.m v1.Route).bind fun v3=>(B7 v3 v2).bind fun v4=>some (v4,true))
theorem Ql(p1 p2 p3 r)(h:Bi p1 p2 p3=some r):PCall Tryz.prog 227 [(.bp (Sy p1) 0),(i64 p2),(i64 p3)] (.tup [(i64 r.1),(bo r.2)]):=by
 refine C3 (fk Tryz.func227 Tryz.ntmps227 m0 (by with_unfolding_all rfl)) (nl W) ?_
 unfold Bi at h
 refine B4 (s0:=⟨T [(0,(.d _)),(1,(.d _)),(2,(.d _))],G []⟩) (F3 W W) ?_
 refine A9<|sv W<|sv W<|A1<|A9<|sv W<|sv W<|sv W<|sv W<|sv W<|sv W<|bs h fun _ hv1 h=>sd W (C8 W W hv1 W)<|sv W<|sd W (D6 W hv1 W)<|sv W<|A1<|A9<|sv W<|sv W<|bs h fun _ hv2 h=>B1 W W A3 (Pr _ _ _ hv2) (.inl W) (sv W<|A1<|A4<|A9<|sv W<|sv W<|A1<|cc W h (fun c1 h=> ?_)<|fun c1 h=> ?_)
 refine A9<|sv W<|sv W<|A1<|B0 ?_
 cases h
 exact A6 (.inr W) (Po (B2 W) (B2 W) C1 C1) (.refl _)
 refine A8<|A9<|sv W<|sv W<|sv W<|sv W<|sv W<|bs h fun _ hv3 h=>B1 W W A3 (Tt _ _ _ hv3) (.inl W) (sv W<|bs h fun _ hv4 h=>sd W (C8 W W hv4 W)<|sd W (D6 W hv4 W)<|sv W<|sv W<|A1<|B0 ?_)
 cases h
 exact A6 (.inr W) (Po (B2 W) (B2 W) C1 C1) (.refl _)
def Bz (p1:WorldScene)(p2:Int)(p3:Int):Option Stay:=
  (D0 p1.after.In (Stay.mk p2 p3 0 0)).bind fun v1=>(B7 p1.after.In v1.1).bind fun v2=>some v2
theorem Rg(p1 p2 p3 r)(h:Bz p1 p2 p3=some r):PCall Tryz.prog 228 [(.bp (Sy p1) 0),(i64 p2),(i64 p3)] (.agg (J8 r)):=by
 refine C3 (fk Tryz.func228 Tryz.ntmps228 m0 (by with_unfolding_all rfl)) (nl W) ?_
 unfold Bz at h
 refine B4 (s0:=⟨T [(0,(.d _)),(1,(.d _)),(2,(.d _))],G []⟩) (F3 W W) ?_
 refine A9<|sm W<|A1<|A9<|sv W<|sv W<|sv W<|sv W<|sv W<|sv W<|sv W<|sv W<|bs h fun _ hv1 h=>B1 W W A3 (P6 _ _ _ hv1) (.inl W) (sv W<|sv W<|sv W<|sv W<|sv W<|A1<|A9<|sv W<|sv W<|sv W<|sv W<|sv W<|sv W<|bs h fun v2 hv2 h=>sd W (C8 W W hv2 W)<|sd W (D2 W hv2 W W)<|Bc W G_hit (BM v2) W (A1<|B0 ?_))
 cases h
 exact A6 (.inr W) (B6 (L4 W G_hit (nl W) W) C1) (.refl _)
def Jb (p1:Map)(p2:State)(p3:(List Int))(v2:State)(y2:(List Agent))(y5:(List Stay))(a1:(Int×Int))(x6:(Int× (List Crash))):Option (Stp (Int× (List Crash)) (List Crash)):=
  cond (decide (x6.1< (p1.Zones.length:Int))) ((W2 (WorldScene.mk p1 p2 (State.mk v2.Tick y2 y5) p3 x6.2) a1.1 a1.2 x6.1).bind fun v28=>cond (!v28) (some (.go ((C5 (x6.1+1)),x6.2))) ((Bz (WorldScene.mk p1 p2 (State.mk v2.Tick y2 y5) p3 x6.2) a1.1 x6.1).bind fun v29=>(Bz (WorldScene.mk p1 p2 (State.mk v2.Tick y2 y5) p3 x6.2) a1.2 x6.1).bind fun v30=>(Y6 v29.Rank v30.Rank).bind fun v31=>(Af v30.Since v29.Since).bind fun v32=>(Et [v31,v32]).bind fun v33=>(cond (v33==(-1)) (some [a1.1]) (cond (v33==1) (some [a1.2]) (some [a1.1,a1.2]))).bind fun y17=>(Bo x6.2 [(Crash.mk p2.Tick a1.1 a1.2 (-1) x6.1 y17)]).bind fun v34=>some (.go ((C5 (x6.1+1)),v34)))) (some (.out x6.2))
def My (p1:Map)(p2:State)(p3:(List Int))(v2:State)(y2:(List Agent))(y5:(List Stay))(a1:(Int×Int))(y12:(List Crash)):Option (List Crash):=
  (loop (Jb p1 p2 p3 v2 y2 y5 a1) (0,y12)).bind fun y16=>some y16
def Jc (p1:Map)(p2:State)(p3:(List Int))(v2:State)(y2:(List Agent))(y5:(List Stay))(x4:(List Crash))(a1:(Int×Int))(x5:Int):Option (Stp Int (Sum Unit (List Crash))):=
  cond (decide (x5< (p1.Lanes.length:Int))) ((Bi (WorldScene.mk p1 p2 (State.mk v2.Tick y2 y5) p3 x4) a1.1 x5).bind fun v13=>(Bi (WorldScene.mk p1 p2 (State.mk v2.Tick y2 y5) p3 x4) a1.2 x5).bind fun v14=>cond ((!v13.2)||(!v14.2)) (some (.go (C5 (x5+1)))) ((B7 p2.Agents a1.1).bind fun v15=>(B7 p2.Agents a1.2).bind fun v16=>(cond (decide ((C5 (v15.S - v13.1))< (C5 (v16.S - v14.1)))) (some (v14.1,v13.1,a1.2,a1.1)) (some (v13.1,v14.1,a1.1,a1.2))).bind fun y14=>(B7 y2 y14.2.2.1).bind fun v17=>(Bx v17).bind fun v18=>(Az v18 y14.1).bind fun v19=>(B7 y2 y14.2.2.2).bind fun v20=>(Bx v20).bind fun v21=>(Az v21 y14.2.1).bind fun v22=>(B7 p2.Agents y14.2.2.2).bind fun v23=>(Bx v23).bind fun v24=>(Az v24 y14.2.1).bind fun v25=>(Dy p1 x5).bind fun v26=>cond (((((decide (v19.to≥0))&& (decide (v22.to≥0)))&& (decide (v25.from_≤v26)))&& (decide (v19.from_≤v26)))&& (decide (v22.to≥v19.from_))) ((Bo x4 [(Crash.mk p2.Tick a1.1 a1.2 x5 (-1) [y14.2.2.2])]).bind fun v27=>some (.out (.inr v27))) (some (.go (C5 (x5+1)))))) (some (.out (.inl ())))
def Om (p1:Map)(p2:State)(p3:(List Int))(v2:State)(y2:(List Agent))(y5:(List Stay))(x4:(List Crash))(a1:(Int×Int)):Option (List Crash):=
  thenS (loop (Jc p1 p2 p3 v2 y2 y5 x4 a1) 0) (fun _=>some x4) (fun r=>some r)
def Ll (p1:Map)(p2:State)(p3:(List Int))(v2:State)(y2:(List Agent))(y5:(List Stay))(x4:(List Crash))(a1:(Int×Int)):Option (Stp (List Crash) (List Crash)):=
  (Om p1 p2 p3 v2 y2 y5 x4 a1).bind fun y12=>(My p1 p2 p3 v2 y2 y5 a1 y12).bind fun y15=>some (.go y15)
def On:Option Unit:=
  some ()
def Oo (p1:Map)(p2:State)(p3:(List Int))(v2:State)(y2:(List Agent))(y5:(List Stay)):Option (List Crash):=
  (On).bind fun y10=>((AN p2).bind fun v12=>loopL (Ll p1 p2 p3 v2 y2 y5) (fun (x4:(List Crash))=>x4) v12 []).bind fun y11=>some y11
def Lm (p1:Map)(p2:State)(p3:(List Int))(v2:State)(y2:(List Agent))(x2:(Int× (List Stay)))(v6:Agent)(x3:(Int× (List Stay))):Option (Stp (Int× (List Stay)) (List Stay)):=
  cond (decide (x3.1< (p1.Zones.length:Int))) ((N9 (WorldScene.mk p1 p2 (State.mk v2.Tick y2 x3.2) p3 []) x2.1 x3.1).bind fun v7=>cond (!v7) (some (.go ((C5 (x3.1+1)),x3.2))) ((D0 p2.In (Stay.mk x2.1 x3.1 p2.Tick 0)).bind fun v8=>(cond v8.2 ((B7 p2.In v8.1).bind fun v9=>some v9) ((Ic p1 v6 x3.1 p2.Tick).bind fun v10=>some (Stay.mk x2.1 x3.1 p2.Tick v10))).bind fun y8=>(Bo x3.2 [y8]).bind fun v11=>some (.go ((C5 (x3.1+1)),v11)))) (some (.out x3.2))
def Ln (p1:Map)(p2:State)(p3:(List Int))(v2:State)(y2:(List Agent))(x2:(Int× (List Stay))):Option (Stp (Int× (List Stay)) (List Stay)):=
  cond (decide (x2.1< (p2.Agents.length:Int))) ((B7 p2.Agents x2.1).bind fun v6=>(loop (Lm p1 p2 p3 v2 y2 x2 v6) (0,x2.2)).bind fun y7=>some (.go ((C5 (x2.1+1)),y7))) (some (.out x2.2))
def Oq (p1:Map)(p2:State)(p3:(List Int))(v2:State)(y2:(List Agent)):Option (List Stay):=
  (loop (Ln p1 p2 p3 v2 y2) (0,[])).bind fun y6=>some y6
def Lp (p1:Map)(p2:State)(p3:(List Int))(x1:(Int× (List Agent))):Option (Stp (Int× (List Agent)) (List Agent)):=
  cond (decide (x1.1< (p2.Agents.length:Int))) ((cond (decide (x1.1< (p3.length:Int))) ((B7 p3 x1.1).bind fun v3=>some v3) (some 0)).bind fun y4=>(Rn p1 p2 x1.1 y4).bind fun v4=>(B7 x1.2 x1.1).bind fun v5=>some (.go ((C5 (x1.1+1)),(Mo x1.2 x1.1 v4)))) (some (.out x1.2))
def Ot (p1:Map)(p2:State)(p3:(List Int))(v2:State):Option (List Agent):=
  (loop (Lp p1 p2 p3) (0,v2.Agents)).bind fun y3=>some y3
def Ro (p1:Map)(p2:State)(p3:(List Int)):Option (State× (List Crash)×Int):=
  (Fk p1 p2).bind fun v1=>cond (v1 !=0) (some ((State.mk 0 [] []),[],v1)) (cond (decide (p2.Tick≥1099511627776)) (some ((State.mk 0 [] []),[],2)) ((Lk p2).bind fun v2=>((Ot p1 p2 p3 v2).bind fun y2=>(Oq p1 p2 p3 v2 y2).bind fun y5=>(Oo p1 p2 p3 v2 y2 y5).bind fun y9=>some (y2,y5,y9)).bind fun y1=>some ((State.mk (C5 (v2.Tick+1)) y1.1 y1.2.1),y1.2.2,0)))
theorem PW(p1 p2 p3 r)(h:Ro p1 p2 p3=some r):PCall Tryz.prog 31 [(.agg (U5 p1)),(.agg (Cf p2)),(.list (List.map A5 p3))] (.tup [(.agg (Cf r.1)),(.list (List.map Gu r.2.1)),(i64 r.2.2)]):=by
 refine C3 (fk Tryz.func31 Tryz.ntmps31 (fun r=>if r==6 then [1006003]else if r==10 then [2]else []) (by with_unfolding_all rfl)) (nl W) ?_
 unfold Ro at h
 refine B4 (s0:=⟨T [(0,(.d _)),(1,(.d _)),(2,(.d _))],G []⟩) (F3 W W) ?_
 refine lr<|fun u1 _=>sm W<|sm W<|sn W W<|sv W<|sv W<|A1<|A4<|A9<|sd W (B3 W (gq W) W W)<|sd W (B3 W (gq W) W W)<|bs h fun _ hv1 h=>B1 W W A3 (Vy _ _ _ hv1) (.inl W) (sv W<|A1<|A9<|sv W<|sv W<|A1<|cc W h (fun c1 h=> ?_)<|fun c1 h=> ?_)
 refine A9<|sv W<|sv W<|Bc W G_hit [(di 0),(.d .nilS),(.d .nilS)] W (sv W<|sv W<|A1<|B0 ?_)
 cases h
 exact A6 (.inr W) (HW (L4 W G_hit (nl W) W) (B2 W) (B2 W) C1 C1 C1) (.tup (.cons (.agg (ca W<|.cons ⟨DLe.nil,W⟩ (.cons ⟨DLe.nil,W⟩ .nil))) (.cons DLe.nil A3)))
 refine A8<|A4<|A9<|sq W<|sl W (gq W) W (sv W<|A1<|cc W h (fun c2 h=> ?_)<|fun c2 h=> ?_)
 refine A9<|sv W<|Bc W G_hit [(di 0),(.d .nilS),(.d .nilS)] W (sv W<|sv W<|A1<|B0 ?_)
 cases h
 exact A6 (.inr W) (HW (L4 W G_hit (nl W) W) (B2 W) (B2 W) C1 C1 C1) (.tup (.cons (.agg (ca W<|.cons ⟨DLe.nil,W⟩ (.cons ⟨DLe.nil,W⟩ .nil))) (.cons DLe.nil A3)))
 refine A8<|A4<|AA fun u7 _=>X1 (.d _) W (B3 W (gq W) W W) (X1 (.d _) W (B3 W (gq W) W W) (X1 (.d _) W (B3 W (gq W) W W) (bs h fun v2 hv2 h=> ?_)))
 refine qJ (v:=Bg [(di v2.Tick),(oS v2.Agents (10060030,u7)),(oE v2.In (10060031,u7))]) (us:= [(10060030,u7),(10060031,u7)]) (iA (JX _ _ hv2) [] [] _ (((10060031,u7),oB 127 4 J8 v2.In)::(((10060030,u7),oB 45 7 C9 v2.Agents)::_)) W Qc W Ky trivial (fun _ h=>h) List.nodup_nil (by generalize v2.Agents=x1;generalize v2.In=x2;cases x1<;>cases x2<;>rfl) W (NX<|NX (W)) W) ?_
 refine X1 (.d _) W W ?_
 refine X1 (Bg ((M7 p1)++ (L0 p2)++ [(di v2.Tick),(oS v2.Agents (10060030,u7)),(oE v2.In (10060031,u7)),(dl A5 p3),(.d .nilS)])) W (by generalize v2.Agents=x1;generalize v2.In=x2;cases x1<;>cases x2<;>rfl) ?_
 refine NR (.ptr _ _) (.box _ _) W (YE W) (X1 (.ptr _ _) W W (NQ ⟨W,?_⟩))
 refine A4<|A9<|sv W<|sv W<|A1<|bs h fun y1 hy1 h=>E0 (fun s=> ∃g1:(Nat×Nat× ({d:Nat // d∈ [72,158]}×Nat)),Sb ⟨T [(6,(.ptr (6,u1) 0)),(10,(.ptr (30,u7) 0))],G [((6,u1),some<|.box 25 [(di 0),(.d .nilS),(.d .nilS)]),((30,u7),some<|.box 135 ((M7 p1)++ (L0 p2)++ [(di v2.Tick),(oS y1.1 (10060030,g1.1)),(oS y1.2.1 (85,g1.2.1)),(dl A5 p3),(oS y1.2.2 (g1.2.2.1.val,g1.2.2.2))])),((10060030,g1.1),oB 45 7 C9 y1.1),((85,g1.2.1),oB 127 4 J8 y1.2.1),((g1.2.2.1.val,g1.2.2.2),oB 77 6 Gu y1.2.2)]⟩ s) ?_ ?_
 refine A7<|HZ<|A9<|sv W<|A1<|A4<|EF W<|A8<|A4<|A7<|A9<|sv W<|sv W<|A1<|C0<|sv W<|sq W<|bs hy1 fun y2 hy2 hy1=>GG (fk Tryz.func90 Tryz.ntmps90 m0 (by with_unfolding_all rfl)) (fun (g2:Nat)=> [(6,(.ptr (6,u1) 0)),(10,(.ptr (30,u7) 0)),(31,(.d (.agg [(.fn (.func 90) [] []),(.fn (.func 80) [] []),(.fn (.func 91) [] [])]))),(32,(di 0))]) (fun (g2:Nat)=> [((6,u1),some<|.box 25 [(di 0),(.d .nilS),(.d .nilS)]),((30,u7),some<|.box 135 ((M7 p1)++ (L0 p2)++ [(di v2.Tick),(oS y2 (10060030,g2)),(oE v2.In (10060031,u7)),(dl A5 p3),(.d .nilS)])),((10060031,u7),oB 127 4 J8 v2.In),((10060030,g2),oB 45 7 C9 y2)]) W (nl W) ?_ ?_
 unfold Ot at hy2
 refine B4 (s0:=⟨T [(0,(.ptr (30,u7) 0))],G [((30,u7),some<|.box 135 ((M7 p1)++ (L0 p2)++ [(di v2.Tick),(oS v2.Agents (10060030,u7)),(oE v2.In (10060031,u7)),(dl A5 p3),(.d .nilS)])),((10060030,u7),oB 45 7 C9 v2.Agents),((10060031,u7),oB 127 4 J8 v2.In),((6,u1),some<|.box 25 [(di 0),(.d .nilS),(.d .nilS)])]⟩) (E1 ⟨.of W,trivial⟩<|B5 G_hit (.of W)<|B8 (gq W)<|B8 (gq W)<|sg W trivial) ?_
 refine A9<|sq W<|sp W W<|sq W<|sp W W<|sl W G_hit W<|sd W (D7 W)<|sv W<|A1<|bs hy2 fun y3 hy3 hy2=>E0 (fun s=> ∃g3:Nat,Sb ⟨T [],G [((6,u1),some<|.box 25 [(di 0),(.d .nilS),(.d .nilS)]),((30,u7),some<|.box 135 ((M7 p1)++ (L0 p2)++ [(di v2.Tick),(oS y3 (10060030,g3)),(oE v2.In (10060031,u7)),(dl A5 p3),(.d .nilS)])),((10060031,u7),oB 127 4 J8 v2.In),((10060030,g3),oB 45 7 C9 y3)]⟩ s) ?_ ?_
 refine A7<|E3 (Lp p1 p2 p3) (fun (x1:(Int× (List Agent))) (g4:Nat)=>⟨T [(0,(.ptr (30,u7) 0)),(9,(di (p2.Agents.length:Int))),(10,(di x1.1))],G [((30,u7),some<|.box 135 ((M7 p1)++ (L0 p2)++ [(di v2.Tick),(oS x1.2 (10060030,g4)),(oE v2.In (10060031,u7)),(dl A5 p3),(.d .nilS)])),((6,u1),some<|.box 25 [(di 0),(.d .nilS),(.d .nilS)]),((10060031,u7),oB 127 4 J8 v2.In),((10060030,g4),oB 45 7 C9 x1.2)]⟩) (0,v2.Agents) u7 _ hy3 (E1 (Ck W)<|B5 G_hit (.of W)<|sg W<|B8 (gq W)<|B8 (gq W) trivial) ?_
 intro x1 g4 z1 hz1 ez1
 unfold Lp at hz1
 refine A9<|sv W<|A1<|A4<|cc W hz1 (fun c3 hz1=> ?_)<|fun c3 hz1=> ?_
 refine A8<|A4<|A7<|A9<|sv W<|sv W<|A1<|A9<|sv W<|A1<|A4<|A9<|sv W<|sq W<|sp W W<|sq W<|sl W G_hit W<|sd W (D7 W)<|sv W<|A1<|bs hz1 fun y4 hy4 hz1=>E0 (fun s=> ∃g5:Unit,Sb ⟨T [(0,(.ptr (30,u7) 0)),(2,(di x1.1)),(3,(di y4)),(9,(di (p2.Agents.length:Int))),(10,(di x1.1))],G [((30,u7),some<|.box 135 ((M7 p1)++ (L0 p2)++ [(di v2.Tick),(oS x1.2 (10060030,g4)),(oE v2.In (10060031,u7)),(dl A5 p3),(.d .nilS)])),((6,u1),some<|.box 25 [(di 0),(.d .nilS),(.d .nilS)]),((10060030,g4),oB 45 7 C9 x1.2),((10060031,u7),oB 127 4 J8 v2.In)]⟩ s) ?_ ?_
 refine cc W hy4 (fun c4 hy4=> ?_)<|fun c4 hy4=> ?_
 refine C0<|sq W<|sq W<|sp W W<|sl W G_hit W<|sv W<|bs hy4 fun _ hv3 hy4=>sd W (C8 W W hv3 W)<|sd W (D6 W hv3 W)<|sv W<|A1 ?_
 obtain rfl:=(lD hy4)
 exact Aj ⟨(),(E1 (Ck W)<|B5 G_hit (.of W)<|sg W<|B8 (gq W)<|B8 (gq W) trivial)⟩
 refine A8 ?_
 cases hy4
 exact Aj ⟨(),(E1 (Ck W)<|B5 G_hit (.of W)<|sg W<|B8 (gq W)<|B8 (gq W) trivial)⟩
 rintro _ ⟨g5,q1⟩
 refine B4 q1<|F4 W<|sq W<|sq W<|sp W W<|sq W<|B9 (oS x1.2 (10060030,g4)) W (T6 W G_hit W) (sv W<|sq W<|sp W W<|sq W<|sd W (B3 W G_hit W W)<|sq W<|sp W W<|sq W<|sd W (B3 W G_hit W W)<|sv W<|sv W<|bs hz1 fun v4 hv4 hz1=>B1 W W A3 (PV _ _ _ _ _ hv4) (.inl W) (bs hz1 fun _ hv5 hz1=>B9 (.aptr _ _ _ _) W (Tn W W (gq W) hv5) ?_))
 rw [Aq (Gm hv5)]
 refine Sw C9 _ _ _ (x1.1) _ v4 (C9 v4) W W W (Jz (gq W)<|Gm hv5) hv5 (nl W) W (A1<|E2<|C0<|sv W<|sv W<|A1<|E5 ?_)
 cases hz1
 exact ⟨W,g4,(E1 (Ck W)<|B5 (gq W) (.box (cv<|cv<|cv<|cv<|cv<|cv<|cv<|cv<|cv<|.cons (.of (Aq<|EG<|Gm hv5).symm) cw)) (sg W<|B8 (gq W)<|O6 G_hit trivial))⟩
 refine C6 W ?_
 cases hz1
 obtain rfl:=ez1 _ rfl
 refine ⟨nofun,C4 W<|Aj ?_⟩
 exact ⟨g4,(E1 trivial<|sg W<|B5 G_hit (.of W)<|B8 (gq W)<|B8 (gq W) trivial)⟩
 rintro _ ⟨g3,q2⟩
 refine E5 ?_
 obtain rfl:=(lD hy2)
 exact CZ q2 (.inl W) g3 (Ck W) (B5 G_hit (.of W)<|sg W<|B8 (gq W)<|B8 (gq W) trivial)
 intro g2
 intro u20 hu20
 refine A1<|E2<|C0<|sv W<|sv W<|A1<|HZ<|A9<|sv W<|A1<|A4<|EF W<|A8<|A4<|A7<|A9<|sv W<|sv W<|A1<|C0<|sv W<|sq W<|bs hy1 fun y5 hy5 hy1=>GG (fk Tryz.func80 Tryz.ntmps80 (fun r=>if r==13 then [1007]else []) (by with_unfolding_all rfl)) (fun (g6:Nat)=> [(6,(.ptr (6,u1) 0)),(10,(.ptr (30,u7) 0)),(31,(.d (.agg [(.fn (.func 90) [] []),(.fn (.func 80) [] []),(.fn (.func 91) [] [])]))),(32,(di 1))]) (fun (g6:Nat)=> [((6,u1),some<|.box 25 [(di 0),(.d .nilS),(.d .nilS)]),((30,u7),some<|.box 135 ((M7 p1)++ (L0 p2)++ [(di v2.Tick),(oS y2 (10060030,g2)),(oS y5 (85,g6)),(dl A5 p3),(.d .nilS)])),((10060030,g2),oB 45 7 C9 y2),((85,g6),oB 127 4 J8 y5)]) W (nl W) ?_ ?_
 unfold Oq at hy5
 refine B4 (s0:=⟨T [(0,(.ptr (30,u7) 0))],G [((30,u7),some<|.box 135 ((M7 p1)++ (L0 p2)++ [(di v2.Tick),(oS y2 (10060030,g2)),(oE v2.In (10060031,u7)),(dl A5 p3),(.d .nilS)])),((10060030,g2),oB 45 7 C9 y2),((10060031,u7),oB 127 4 J8 v2.In),((6,u1),some<|.box 25 [(di 0),(.d .nilS),(.d .nilS)])]⟩) (E1 ⟨.of W,trivial⟩<|sg W<|B8 (gq W)<|B8 (gq W)<|B5 G_hit (.of W) trivial) ?_
 refine A9<|sq W<|sp W W<|sq W<|sp W W<|Bc W G_hit ((M7 p1)++ (L0 p2)++ [(di v2.Tick),(oS y2 (10060030,g2)),(.d .nilS),(dl A5 p3),(.d .nilS)]) W (A1<|A9<|sq W<|sp W W<|sq W<|sp W W<|sl W G_hit W<|sd W (D7 W)<|sv W<|A1<|bs hy5 fun y6 hy6 hy5=>E0 (fun s=> ∃g7:Nat,Sb ⟨T [],G [((6,u1),some<|.box 25 [(di 0),(.d .nilS),(.d .nilS)]),((30,u7),some<|.box 135 ((M7 p1)++ (L0 p2)++ [(di v2.Tick),(oS y2 (10060030,g2)),(oS y6 (85,g7)),(dl A5 p3),(.d .nilS)])),((10060030,g2),oB 45 7 C9 y2),((85,g7),oB 127 4 J8 y6)]⟩ s) ?_ ?_)
 refine A7<|E3 (Ln p1 p2 p3 v2 y2) (fun (x2:(Int× (List Stay))) (g8:Nat)=>⟨T [(0,(.ptr (30,u7) 0)),(16,(dl C9 p2.Agents)),(17,(di (p2.Agents.length:Int))),(18,(di x2.1))],G [((30,u7),some<|.box 135 ((M7 p1)++ (L0 p2)++ [(di v2.Tick),(oS y2 (10060030,g2)),(oS x2.2 (85,g8)),(dl A5 p3),(.d .nilS)])),((6,u1),some<|.box 25 [(di 0),(.d .nilS),(.d .nilS)]),((10060030,g2),oB 45 7 C9 y2),((85,g8),oB 127 4 J8 x2.2)]⟩) (0,[]) 0 _ hy6 (E1 (Ck W)<|B5 G_hit (.of W)<|sg W<|B8 (gq W)<|X0 trivial) ?_
 intro x2 g8 z2 hz2 ez2
 unfold Ln at hz2
 refine A9<|sv W<|A1<|A4<|cc W hz2 (fun c5 hz2=> ?_)<|fun c5 hz2=> ?_
 refine A8<|A4<|A7<|lr<|fun u28 _=>sv W<|bs hz2 fun v6 hv6 hz2=>sd W (C8 W W hv6 W)<|sd W (D2 W hv6 W W)<|sm W<|sv W<|Bc W G_hit (X2 v6) W (A1<|A9<|sq W<|sp W W<|sq W<|sp W W<|sl W (gq W) W (sd W (D7 W)<|sv W<|A1<|bs hz2 fun y7 hy7 hz2=>E0 (fun s=> ∃g9:Nat,Sb ⟨T [(0,(.ptr (30,u7) 0)),(16,(dl C9 p2.Agents)),(17,(di (p2.Agents.length:Int))),(18,(di x2.1))],G [((30,u7),some<|.box 135 ((M7 p1)++ (L0 p2)++ [(di v2.Tick),(oS y2 (10060030,g2)),(oS y7 (85,g9)),(dl A5 p3),(.d .nilS)])),((6,u1),some<|.box 25 [(di 0),(.d .nilS),(.d .nilS)]),((10060030,g2),oB 45 7 C9 y2),((85,g9),oB 127 4 J8 y7)]⟩ s) ?_ ?_))
 refine A7<|E3 (Lm p1 p2 p3 v2 y2 x2 v6) (fun (x3:(Int× (List Stay))) (g10:Nat)=>⟨T [(0,(.ptr (30,u7) 0)),(2,(di x2.1)),(3,(.ptr (3,u28) 0)),(16,(dl C9 p2.Agents)),(17,(di (p2.Agents.length:Int))),(18,(di x2.1)),(28,(di (p1.Zones.length:Int))),(29,(di x3.1))],G [((30,u7),some<|.box 135 ((M7 p1)++ (L0 p2)++ [(di v2.Tick),(oS y2 (10060030,g2)),(oS x3.2 (85,g10)),(dl A5 p3),(.d .nilS)])),((3,u28),some<|.box 45 (X2 v6)),((6,u1),some<|.box 25 [(di 0),(.d .nilS),(.d .nilS)]),((10060030,g2),oB 45 7 C9 y2),((85,g10),oB 127 4 J8 x3.2)]⟩) (0,x2.2) g8 _ hy7 (E1 (Ck W)<|sg W<|B5 G_hit (.of W)<|sg W<|B8 (gq W)<|B8 (gq W) trivial) ?_
 intro x3 g10 z3 hz3 ez3
 unfold Lm at hz3
 refine A9<|sv W<|A1<|A4<|cc W hz3 (fun c6 hz3=> ?_)<|fun c6 hz3=> ?_
 refine A8<|A4<|A7<|A9<|sv W<|sv W<|A1<|A4<|A9<|sq W<|sv W<|sv W<|bs hz3 fun v7 hv7 hz3=>B1 W (E7 (Df G_hit<|rD<|rD<|rD<|rD<|rD<|rD<|rD<|rD<|rD<|E7 (Y3<|gq W)<|E7 (Y3<|gq W)<|rD<|rD G2)<|rD<|rD G2) (.cons (DLe.bp<|ca W<|ca W<|ca W<|ca W<|ca W<|ca W<|ca W<|ca W<|ca W<|.cons ⟨Y2,W⟩ (.cons ⟨Y2,W⟩ (ca W<|.cons ⟨DLe.nil,W⟩ .nil))) (.cons (.refl _) A3)) (Dx _ _ _ _ hv7) (.inr W) (B9 (.d (bo (!v7))) W W (A1<|cc W hz3 (fun c7 hz3=> ?_)<|fun c7 hz3=> ?_))
 refine Zz W<|C0<|sv W<|sv W<|A1<|E5 ?_
 cases hz3
 exact ⟨W,g10,(E1 (Ck W)<|B5 G_hit (.of W)<|sg W<|sg W<|B8 (gq W)<|B8 (gq W) trivial)⟩
 refine A8<|lr<|fun u34 _=>sv W<|sv W<|sq W<|sp W W<|sq W<|sp W W<|sl W G_hit W<|sv W<|sm W<|Bc W G_hit [(di x2.1),(di x3.1),(di p2.Tick),(di 0)] W (A1<|A4<|A4<|F4 W<|sq W<|sq W<|sp W W<|sq W<|sl W (gq W) W (sd W (B3 W G_hit W W)<|bs hz3 fun _ hv8 hz3=>B1 W W A3 (P6 _ _ _ hv8) (.inl W) (sv W<|sv W<|sv W<|sv W<|sv W<|A1<|A9<|sv W<|A1<|bs hz3 fun y8 hy8 hz3=>E0 (fun s=> ∃g11:Unit,Sb ⟨T [(0,(.ptr (30,u7) 0)),(2,(di x2.1)),(3,(.ptr (3,u28) 0)),(5,(.ptr (5,u34) 0)),(16,(dl C9 p2.Agents)),(17,(di (p2.Agents.length:Int))),(18,(di x2.1)),(28,(di (p1.Zones.length:Int))),(29,(di x3.1))],G [((30,u7),some<|.box 135 ((M7 p1)++ (L0 p2)++ [(di v2.Tick),(oS y2 (10060030,g2)),(oS x3.2 (85,g10)),(dl A5 p3),(.d .nilS)])),((3,u28),some<|.box 45 (X2 v6)),((5,u34),some<|.box 127 (BM y8)),((6,u1),some<|.box 25 [(di 0),(.d .nilS),(.d .nilS)]),((10060030,g2),oB 45 7 C9 y2),((85,g10),oB 127 4 J8 x3.2)]⟩ s) ?_ ?_)))
 refine cc W hy8 (fun c8 hy8=> ?_)<|fun c8 hy8=> ?_
 refine C0<|sq W<|sq W<|sp W W<|sq W<|sl W (gq W) W (sv W<|bs hy8 fun v9 hv9 hy8=>sd W (C8 W W hv9 W)<|sd W (D2 W hv9 W W)<|Bc W G_hit (BM v9) W (A1 ?_))
 obtain rfl:=(lD hy8)
 exact Aj ⟨(),(E1 (Ck W)<|sg W<|sg W<|B5 G_hit (.of W)<|sg W<|B8 (gq W)<|B8 (gq W) trivial)⟩
 refine F4 W<|sq W<|sq W<|sp W W<|sd W (B3 W (gq W) W W)<|sd W (B3 W (gq W) W W)<|sv W<|sq W<|sp W W<|sq W<|sp W W<|sl W (gq W) W (bs hy8 fun v10 hv10 hy8=>B1 W W A3 (FG _ _ _ _ _ hv10) (.inl W) (sq W<|Bc W G_hit [(di x2.1),(di x3.1),(di p2.Tick),(di v10)] W (A1 ?_)))
 cases hy8
 exact Aj ⟨(),(E1 (Ck W)<|sg W<|sg W<|B5 G_hit (.of W)<|sg W<|B8 (gq W)<|B8 (gq W) trivial)⟩
 rintro _ ⟨g11,q3⟩
 refine B4 q3<|Rk W fun u39 _=>sq W<|sq W<|sp W W<|sq W<|sp W W<|B9 (oS x3.2 (85,g10)) W (T6 W G_hit W) (sd W (B3 W (gq W) W W)<|B9 (dl J8 [y8]) W W (bs hz3 fun _ hv11 hz3=>V3 J8 (85,g10) x3.2 y8 [] _ (N3<|fun _=>W) W (gq W) hv11 (sq W<|sp W W<|sq W<|Bc W (gq W) ((M7 p1)++ (L0 p2)++ [(di v2.Tick),(oS y2 (10060030,g2)),(.sl (85,u39)),(dl A5 p3),(.d .nilS)]) W (A1<|E2<|C0<|sv W<|sv W<|A1<|E5 ?_))))
 cases hz3
 exact ⟨W,u39,(E1 (Ck W)<|B5 G_hit (.box (cv<|cv<|cv<|cv<|cv<|cv<|cv<|cv<|cv<|cv<|.cons (.of (Aq<|Ba hv11).symm) cw))<|sg W<|sg W<|B8 (gq W)<|O6 (gq W) trivial)⟩
 refine C6 W ?_
 cases hz3
 obtain rfl:=ez3 _ rfl
 refine ⟨nofun,C4 W<|Aj ?_⟩
 exact ⟨g10,(E1 (Ck W)<|B5 G_hit (.of W)<|sg W<|B8 (gq W)<|B8 (gq W) trivial)⟩
 rintro _ ⟨g9,q4⟩
 refine E2<|B4 q4<|C0<|sv W<|sv W<|A1<|E5 ?_
 cases hz2
 exact ⟨W,g9,(E1 (Ck W)<|B5 G_hit (.of W)<|sg W<|B8 (gq W)<|B8 (gq W) trivial)⟩
 refine C6 W ?_
 cases hz2
 obtain rfl:=ez2 _ rfl
 refine ⟨nofun,C4 W<|Aj ?_⟩
 exact ⟨g8,(E1 trivial<|sg W<|B5 G_hit (.of W)<|B8 (gq W)<|B8 (gq W) trivial)⟩
 rintro _ ⟨g7,q5⟩
 refine E5 ?_
 obtain rfl:=(lD hy5)
 exact CZ q5 (.inl W) g7 (Ck W) (B5 G_hit (.of W)<|sg W<|B8 (gq W)<|B8 (gq W) trivial)
 intro g6
 intro u42 hu42
 refine A1<|E2<|C0<|sv W<|sv W<|A1<|HZ<|A9<|sv W<|A1<|A4<|EF W<|A8<|A4<|A7<|A9<|sv W<|sv W<|A1<|C0<|sv W<|sq W<|bs hy1 fun y9 hy9 hy1=>GG (fk Tryz.func91 Tryz.ntmps91 (fun r=>if r==1 then [1]else if r==4 then [3]else if r==5 then [3]else []) (by with_unfolding_all rfl)) (fun (g12:({d:Nat // d∈ [72,158]}×Nat))=> [(6,(.ptr (6,u1) 0)),(10,(.ptr (30,u7) 0)),(31,(.d (.agg [(.fn (.func 90) [] []),(.fn (.func 80) [] []),(.fn (.func 91) [] [])]))),(32,(di 2))]) (fun (g12:({d:Nat // d∈ [72,158]}×Nat))=> [((6,u1),some<|.box 25 [(di 0),(.d .nilS),(.d .nilS)]),((30,u7),some<|.box 135 ((M7 p1)++ (L0 p2)++ [(di v2.Tick),(oS y2 (10060030,g2)),(oS y5 (85,g6)),(dl A5 p3),(oS y9 (g12.1.val,g12.2))])),((10060030,g2),oB 45 7 C9 y2),((85,g6),oB 127 4 J8 y5),((g12.1.val,g12.2),oB 77 6 Gu y9)]) W (nl W) ?_ ?_
 unfold Oo at hy9
 refine B4 (s0:=⟨T [(0,(.ptr (30,u7) 0))],G [((30,u7),some<|.box 135 ((M7 p1)++ (L0 p2)++ [(di v2.Tick),(oS y2 (10060030,g2)),(oS y5 (85,g6)),(dl A5 p3),(.d .nilS)])),((10060030,g2),oB 45 7 C9 y2),((85,g6),oB 127 4 J8 y5),((6,u1),some<|.box 25 [(di 0),(.d .nilS),(.d .nilS)])]⟩) (E1 ⟨.of W,trivial⟩<|sg W<|B8 (gq W)<|B8 (gq W)<|B5 G_hit (.of W) trivial) ?_
 refine lr<|fun u47 _=>sm W<|A1<|A9<|sp W (T6 W G_hit W)<|bs hy9 fun _ hy10 hy9=>GG (fk Tryz.func81 Tryz.ntmps81 m0 (by with_unfolding_all rfl)) (fun (g13:{g:Nat // g≠u47})=> [(1,(.ptr (1,u47) 0)),(5,(.fn (.func 174) [] [(.ptr (1,g13.1) 0)]))]) (fun (g13:{g:Nat // g≠u47})=> [((1,u47),some<|.box 133 [(.ptr (30,u7) 0)]),((30,u7),some<|.box 135 ((M7 p1)++ (L0 p2)++ [(di v2.Tick),(oS y2 (10060030,g2)),(oS y5 (85,g6)),(dl A5 p3),(.d .nilS)])),((6,u1),some<|.box 25 [(di 0),(.d .nilS),(.d .nilS)]),((10060030,g2),oB 45 7 C9 y2),((85,g6),oB 127 4 J8 y5),((1,g13.1),some<|.box 133 [(.ptr (30,u7) 0)])]) W (nl W) ?_ ?_
 unfold On at hy10
 refine B4 (s0:=⟨T [(0,(.ptr (30,u7) 0))],G [((30,u7),some<|.box 135 ((M7 p1)++ (L0 p2)++ [(di v2.Tick),(oS y2 (10060030,g2)),(oS y5 (85,g6)),(dl A5 p3),(.d .nilS)])),((10060030,g2),oB 45 7 C9 y2),((85,g6),oB 127 4 J8 y5),((6,u1),some<|.box 25 [(di 0),(.d .nilS),(.d .nilS)]),((1,u47),some<|.box 133 [(.ptr (30,u7) 0)])]⟩) (E1 ⟨.of W,trivial⟩<|sg W<|B8 (gq W)<|B8 (gq W)<|sg W<|B5 G_hit (.of W) trivial) ?_
 refine lr<|fun u49 hu49=>sm W<|sv W<|A1<|A9<|B9 (.fn _ _ _) W W (B9 (.fn _ _ _) W W (A1<|B0 ?_))
 cases hy10
 exact TC (.inr W) (VC<|B2 W) ⟨u49,(Ne.symm<|UU (k:=(1,u47)) hu49 (gq W))⟩ (Ck W) (B5 (Cn (UU hu49<|gq W)<|gq W) (.of W) (sg W<|sg W<|B8 (gq W)<|B8 (gq W)<|B5 G_hit (.of W) trivial))
 intro g13
 intro u51 hu51
 refine A1<|bs hy9 fun y11 hy11 hy9=>E0 (fun s=> ∃g14:({d:Nat // d∈ [72,158]}×Nat),Sb ⟨T [],G [((6,u1),some<|.box 25 [(di 0),(.d .nilS),(.d .nilS)]),((30,u7),some<|.box 135 ((M7 p1)++ (L0 p2)++ [(di v2.Tick),(oS y2 (10060030,g2)),(oS y5 (85,g6)),(dl A5 p3),(oS y11 (g14.1.val,g14.2))])),((10060030,g2),oB 45 7 C9 y2),((85,g6),oB 127 4 J8 y5),((g14.1.val,g14.2),oB 77 6 Gu y11)]⟩ s) ?_ ?_
 refine A7<|bs hy11 fun v12 hv12 hy11=>B4 (s0:=⟨T [(1,(.ptr (1,u47) 0)),(5,(.fn (.func 174) [] [(.ptr (1,g13.1) 0)]))],G [((1,u47),some<|.box 133 [(.ptr (30,u7) 0)]),((30,u7),some<|.box 135 ((M7 p1)++ (L0 p2)++ [(di v2.Tick),(oS y2 (10060030,g2)),(oS y5 (85,g6)),(dl A5 p3),(.d .nilS)])),((10060030,g2),oB 45 7 C9 y2),((85,g6),oB 127 4 J8 y5),((1,g13.1),some<|.box 133 [(.ptr (30,u7) 0)]),((6,u1),some<|.box 25 [(di 0),(.d .nilS),(.d .nilS)])]⟩) (E1 (Ck W)<|B5 G_hit (.of W)<|sg W<|B8 (gq W)<|B8 (gq W)<|B5 (Cn g13.2<|gq W) (.of W) (sg W trivial)) ?_
 refine VK (.fn (.func 174) [] [(.ptr (1,g13.1) 0)]) (AO (1,g13.1) (30,u7) p2) OE v12 (Ll p1 p2 p3 v2 y2 y5) (fun (x4:(List Crash))=>x4) (fun (x4:(List Crash)) (g15:({d:Nat // d∈ [72,158]}×Nat))=> [((1,u47),some<|.box 133 [(.ptr (30,u7) 0)]),((1,g13.1),some<|.box 133 [(.ptr (30,u7) 0)]),((6,u1),some<|.box 25 [(di 0),(.d .nilS),(.d .nilS)]),((30,u7),some<|.box 135 ((M7 p1)++ (L0 p2)++ [(di v2.Tick),(oS y2 (10060030,g2)),(oS y5 (85,g6)),(dl A5 p3),(oS x4 (g15.1.val,g15.2))])),((10060030,g2),oB 45 7 C9 y2),((85,g6),oB 127 4 J8 y5),((g15.1.val,g15.2),oB 77 6 Gu x4)]) [] (⟨72, .head _⟩,0) _ W (OF hv12 _ _) (fun x4 g15 _ _=>⟨F9 W<|Cn g13.2 G_hit,_,_,_,_,_,_,_,_,_,_,F9 W<|gq W⟩) (fun _=>W) hy11 (E1 trivial<|B5 G_hit (.of W)<|B5 (Cn g13.2<|gq W) (.of W) (sg W<|sg W<|B8 (gq W)<|B8 (gq W)<|X0 trivial)) nofun ?_ ?_
 intro u53 hu53 hku53
 refine ⟨fun x4 g15=>(F9 W<|F9 W<|F9 W<|F9 W<|F9 W<|F9 W<|F9 (HD g15.1.property W) W),?_⟩
 intro r1 x4 g15 a1 z4 hrr1 hz4 ez4
 unfold Ll at hz4
 show Fb _ _ _ _ _ _ ⟨T [(7,(di a1.2)),(6,(di a1.1)),(1,(.ptr (1,u47) 0)),(5,(.fn (.func 174) [] [(.ptr (1,g13.1) 0)]))],G [((1000000,u53),some (.obj (T [(1,(.ptr (1,u47) 0)),(5,(.fn (.func 174) [] [(.ptr (1,g13.1) 0)]))]) r1)),((1,u47),some (.box 133 [(.ptr (30,u7) 0)])),((1,g13.1),some (.box 133 [(.ptr (30,u7) 0)])),((6,u1),some (.box 25 [(di 0),(.d .nilS),(.d .nilS)])),((30,u7),some (.box 135 ((M7 p1)++ (L0 p2)++ [(di v2.Tick),(oS y2 (10060030,g2)),(oS y5 (85,g6)),(dl A5 p3),(oS x4 (g15.1.val,g15.2))]))),((10060030,g2),oB 45 7 C9 y2),((85,g6),oB 127 4 J8 y5),((g15.1.val,g15.2),oB 77 6 Gu x4)]⟩
 refine A9<|sv W<|A1<|C0<|sv W<|A1<|Aj<|YC G_hit ?_
 refine A7<|A9<|sp W (T6 W (gq W) W)<|sv W<|sv W<|bs hz4 fun y12 hy12 hz4=>GG (fk Tryz.func183 Tryz.ntmps183 (fun r=>if r==13 then [1014,1016]else []) (by with_unfolding_all rfl)) (fun (g16:({d:Nat // d∈ [72,158]}×Nat))=> [(1,(.ptr (1,u47) 0)),(2,(di a1.1)),(3,(di a1.2))]) (fun (g16:({d:Nat // d∈ [72,158]}×Nat))=> [((1,u47),some<|.box 133 [(.ptr (30,u7) 0)]),((6,u1),some<|.box 25 [(di 0),(.d .nilS),(.d .nilS)]),((30,u7),some<|.box 135 ((M7 p1)++ (L0 p2)++ [(di v2.Tick),(oS y2 (10060030,g2)),(oS y5 (85,g6)),(dl A5 p3),(oS y12 (g16.1.val,g16.2))])),((1,g13.1),some<|.box 133 [(.ptr (30,u7) 0)]),((1000000,u53),some<|.obj (T [(1,(.ptr (1,u47) 0)),(5,(.fn (.func 174) [] [(.ptr (1,g13.1) 0)]))]) {r1 with state:= .busy}),((10060030,g2),oB 45 7 C9 y2),((85,g6),oB 127 4 J8 y5),((g16.1.val,g16.2),oB 77 6 Gu y12)]) W (nl W) ?_ ?_
 unfold Om at hy12
 refine B4 (s0:=⟨T [(0,(.ptr (30,u7) 0)),(1,(di a1.1)),(2,(di a1.2))],G [((30,u7),some<|.box 135 ((M7 p1)++ (L0 p2)++ [(di v2.Tick),(oS y2 (10060030,g2)),(oS y5 (85,g6)),(dl A5 p3),(oS x4 (g15.1.val,g15.2))])),((10060030,g2),oB 45 7 C9 y2),((85,g6),oB 127 4 J8 y5),((g15.1.val,g15.2),oB 77 6 Gu x4),((6,u1),some<|.box 25 [(di 0),(.d .nilS),(.d .nilS)]),((1,u47),some<|.box 133 [(.ptr (30,u7) 0)]),((1,g13.1),some<|.box 133 [(.ptr (30,u7) 0)]),((1000000,u53),some<|.obj (T [(1,(.ptr (1,u47) 0)),(5,(.fn (.func 174) [] [(.ptr (1,g13.1) 0)]))]) {r1 with state:= .busy})]⟩) (E1 (Ck W)<|sg W<|B8 (gq W)<|B8 (gq W)<|B8 (AF g15.1.property 8 W G_hit)<|sg W<|sg W<|B5 (BK 2 W<|Cn g13.2 G_hit) (.of W) (B5 G_hit (.of W) trivial)) ?_
 refine A9<|sq W<|sp W W<|sq W<|sp W W<|sl W G_hit W<|sd W (D7 W)<|sv W<|A1<|js hy12 fun z5 hz5 hy12=>E0 (fun s=> ∃(y13:Unit) (g17:Unit),z5= .inl y13∧Sb ⟨T [],G [((6,u1),some<|.box 25 [(di 0),(.d .nilS),(.d .nilS)]),((30,u7),some<|.box 135 ((M7 p1)++ (L0 p2)++ [(di v2.Tick),(oS y2 (10060030,g2)),(oS y5 (85,g6)),(dl A5 p3),(oS x4 (g15.1.val,g15.2))])),((1,u47),some<|.box 133 [(.ptr (30,u7) 0)]),((1,g13.1),some<|.box 133 [(.ptr (30,u7) 0)]),((1000000,u53),some<|.obj (T [(1,(.ptr (1,u47) 0)),(5,(.fn (.func 174) [] [(.ptr (1,g13.1) 0)]))]) {r1 with state:= .busy}),((10060030,g2),oB 45 7 C9 y2),((85,g6),oB 127 4 J8 y5),((g15.1.val,g15.2),oB 77 6 Gu x4)]⟩ s) ?_ ?_
 refine A7<|E3 (Jc p1 p2 p3 v2 y2 y5 x4 a1) (fun (x5:Int) (g18:Unit)=>⟨T [(0,(.ptr (30,u7) 0)),(1,(di a1.1)),(2,(di a1.2)),(22,(di (p1.Lanes.length:Int))),(23,(di x5))],G [((30,u7),some<|.box 135 ((M7 p1)++ (L0 p2)++ [(di v2.Tick),(oS y2 (10060030,g2)),(oS y5 (85,g6)),(dl A5 p3),(oS x4 (g15.1.val,g15.2))])),((6,u1),some<|.box 25 [(di 0),(.d .nilS),(.d .nilS)]),((1,u47),some<|.box 133 [(.ptr (30,u7) 0)]),((1,g13.1),some<|.box 133 [(.ptr (30,u7) 0)]),((1000000,u53),some<|.obj (T [(1,(.ptr (1,u47) 0)),(5,(.fn (.func 174) [] [(.ptr (1,g13.1) 0)]))]) {r1 with state:= .busy}),((10060030,g2),oB 45 7 C9 y2),((85,g6),oB 127 4 J8 y5),((g15.1.val,g15.2),oB 77 6 Gu x4)]⟩) 0 () _ hz5 (E1 (Ck W)<|B5 G_hit (.of W)<|B5 (BK 3 W<|F9 (HD g15.1.property W) G_hit) (.of W) (B5 (BK 3 W<|F9 (HD g15.1.property W)<|gq W) (.of W) (B5 (BK 3 W<|F9 (HD g15.1.property W)<|F9 W<|Cn g13.2 G_hit) (.of W) (B5 (BK 3 W<|F9 (HD g15.1.property W)<|gq W) (.of W) (B8 (gq W)<|B8 (gq W)<|B8 (AF g15.1.property 3 W G_hit) trivial))))) ?_
 intro x5 g18 z6 hz6 ez6
 unfold Jc at hz6
 refine A9<|sv W<|A1<|A4<|cc W hz6 (fun c9 hz6=> ?_)<|fun c9 hz6=> ?_
 refine A8<|A4<|A7<|A9<|sv W<|sv W<|A1<|A9<|sq W<|sv W<|sv W<|bs hz6 fun v13 hv13 hz6=>B1 W (E7 (Df G_hit<|rD<|rD<|rD<|rD<|rD<|rD<|rD<|rD<|rD<|E7 (Y3<|gq W)<|E7 (Y3<|gq W)<|rD<|E7 (Y3<|AF g15.1.property 7 W G_hit) G2)<|rD<|rD G2) (.cons (DLe.bp<|ca W<|ca W<|ca W<|ca W<|ca W<|ca W<|ca W<|ca W<|ca W<|.cons ⟨Y2,W⟩ (.cons ⟨Y2,W⟩ (ca W<|.cons ⟨Y2,W⟩ .nil))) (.cons (.refl _) A3)) (Ql _ _ _ _ hv13) (.inr W) (sv W<|sv W<|sv W<|sv W<|sv W<|A1<|A9<|sq W<|sv W<|sv W<|bs hz6 fun v14 hv14 hz6=>B1 W (E7 (Df G_hit<|rD<|rD<|rD<|rD<|rD<|rD<|rD<|rD<|rD<|E7 (Y3<|gq W)<|E7 (Y3<|gq W)<|rD<|E7 (Y3<|AF g15.1.property 7 W G_hit) G2)<|rD<|rD G2) (.cons (DLe.bp<|ca W<|ca W<|ca W<|ca W<|ca W<|ca W<|ca W<|ca W<|ca W<|.cons ⟨Y2,W⟩ (.cons ⟨Y2,W⟩ (ca W<|.cons ⟨Y2,W⟩ .nil))) (.cons (.refl _) A3)) (Ql _ _ _ _ hv14) (.inr W) (sv W<|sv W<|sv W<|sv W<|sv W<|A1<|A4<|A9<|sv W<|B9 (.d (bo (!v13.2))) W W (sv W<|gf W (fun _=>W) ?_)))
 refine N2 _ (.d (bo (!v14.2))) W (K5 W) (fun w2=>(by simp only [A2 w2];rfl)) ?_
 refine sd W (O2 W W<|fun hc=>A2<|J7 hc)<|A1<|cc W hz6 (fun c10 hz6=> ?_)<|fun c10 hz6=> ?_
 refine Zz W<|C0<|sv W<|sv W<|A1<|E5 ?_
 cases hz6
 exact ⟨W,(),(E1 (Ck W)<|B5 G_hit (.of W)<|sg W<|sg W<|B5 (BK 2 W<|Cn g13.2 G_hit) (.of W) (sg W<|B8 (gq W)<|B8 (gq W)<|B8 (AF g15.1.property 7 W G_hit) trivial))⟩
 refine A8<|A9<|sv W<|sv W<|sv W<|sv W<|A1<|A4<|A4<|F4 W<|sq W<|sq W<|sp W W<|sq W<|sl W G_hit W<|sv W<|bs hz6 fun _ hv15 hz6=>sd W (C8 W W hv15 W)<|sv W<|sd W (D6 W hv15 W)<|sv W<|sv W<|sq W<|sp W W<|sq W<|sp W W<|sl W G_hit W<|sv W<|bs hz6 fun _ hv16 hz6=>sd W (C8 W W hv16 W)<|sv W<|sd W (D6 W hv16 W)<|sv W<|sv W<|sv W<|A1<|bs hz6 fun y14 hy14 hz6=>E0 (fun s=> ∃g19:Unit,Sb ⟨T [(0,(.ptr (30,u7) 0)),(1,(di a1.1)),(2,(di a1.2)),(6,(di x5)),(7,(di y14.1)),(9,(di y14.2.1)),(11,(di y14.2.2.1)),(12,(di y14.2.2.2)),(22,(di (p1.Lanes.length:Int))),(23,(di x5))],G [((30,u7),some<|.box 135 ((M7 p1)++ (L0 p2)++ [(di v2.Tick),(oS y2 (10060030,g2)),(oS y5 (85,g6)),(dl A5 p3),(oS x4 (g15.1.val,g15.2))])),((6,u1),some<|.box 25 [(di 0),(.d .nilS),(.d .nilS)]),((1,u47),some<|.box 133 [(.ptr (30,u7) 0)]),((1,g13.1),some<|.box 133 [(.ptr (30,u7) 0)]),((1000000,u53),some<|.obj (T [(1,(.ptr (1,u47) 0)),(5,(.fn (.func 174) [] [(.ptr (1,g13.1) 0)]))]) {r1 with state:= .busy}),((10060030,g2),oB 45 7 C9 y2),((85,g6),oB 127 4 J8 y5),((g15.1.val,g15.2),oB 77 6 Gu x4)]⟩ s) ?_ ?_
 refine cc W hy14 (fun c11 hy14=> ?_)<|fun c11 hy14=> ?_
 refine C0<|sv W<|sv W<|sv W<|sv W<|sv W<|sv W<|sv W<|sv W<|A1 ?_
 cases hy14
 exact Aj ⟨(),(E1 (Ck W)<|B5 G_hit (.of W)<|sg W<|sg W<|B5 (BK 2 W<|Cn g13.2 G_hit) (.of W) (sg W<|B8 (gq W)<|B8 (gq W)<|B8 (AF g15.1.property 7 W G_hit) trivial))⟩
 refine A8 ?_
 cases hy14
 exact Aj ⟨(),(E1 (Ck W)<|B5 G_hit (.of W)<|sg W<|sg W<|B5 (BK 2 W<|Cn g13.2 G_hit) (.of W) (sg W<|B8 (gq W)<|B8 (gq W)<|B8 (AF g15.1.property 7 W G_hit) trivial))⟩
 rintro _ ⟨g19,q6⟩
 refine B4 q6<|A4<|F4 W<|sq W<|sq W<|sp W W<|sq W<|B9 (oS y2 (10060030,g2)) W (T6 W G_hit W) (sv W<|bs hz6 fun _ hv17 hz6=>B9 (.aptr _ _ _ _) W (Tn W W (gq W) hv17) (sd W (Sx W (Jz (gq W)<|Gm hv17) hv17 W W)<|bs hz6 fun _ hv18 hz6=>B1 W W A3 (Li _ _ hv18) (.inl W) (sv W<|bs hz6 fun v19 hv19 hz6=>B1 W W A3 (Kg _ _ _ hv19) (.inl W) (sq W<|sp W W<|sq W<|sp W W<|B9 (oS y2 (10060030,g2)) W (T6 W G_hit W) (sv W<|bs hz6 fun _ hv20 hz6=>B9 (.aptr _ _ _ _) W (Tn W W (gq W) hv20) (sd W (Sx W (Jz (gq W)<|Gm hv20) hv20 W W)<|bs hz6 fun _ hv21 hz6=>B1 W W A3 (Li _ _ hv21) (.inl W) (sv W<|bs hz6 fun v22 hv22 hz6=>B1 W W A3 (Kg _ _ _ hv22) (.inl W) (sm W<|sn W W<|Bc W (gq W) [(di v19.from_),(di v19.to)] W (Bc W (gq W) [(di v22.from_),(di v22.to)] W (A1<|A9<|sq W<|sp W W<|sq W<|sp W W<|sl W (gq W) W (sv W<|bs hz6 fun _ hv23 hz6=>sd W (C8 W W hv23 W)<|sd W (D2 W hv23 W W)<|bs hz6 fun _ hv24 hz6=>B1 W W A3 (Li _ _ hv24) (.inl W) (sv W<|bs hz6 fun v25 hv25 hz6=>B1 W W A3 (Kg _ _ _ hv25) (.inl W) (sm W<|Bc W G_hit [(di v25.from_),(di v25.to)] W (A1<|A9<|sq W<|sp W W<|sp W W ?_))))))))))))))
 refine sd W (B3 W (gq W) W W)<|sv W<|bs hz6 fun _ hv26 hz6=>B1 W W A3 (Tu _ _ _ hv26) (.inl W) (sv W<|A1<|A9<|sq W<|sl W (gq W) W (sv W<|sv W<|gp W (M8 W) (fun _=>W) (gt W (vl W (gq W) W)<|gt W (vb W W W)<|sa W W W<|sv W<|gp W (M8 W) (fun _=>W) (gt W (vl W G_hit W)<|gt W (fun _=>W)<|gt W (fun w9=>(N1 (A2 w9) (A2 w9) W))<|sa W W W<|sv W<|gp W (M8 W) (fun _=>W) (gt W (vl W (gq W) W)<|gt W (fun _=>W)<|gt W (fun w13=>(N1 (A2 w13) (A2 w13) W))<|sa W W W<|sv W<|gp W (M8 W) (fun _=>W) (gt W (vl W (gq W) W)<|gp W (M8 W) (fun _=>W) (gt W (vl W (gq W) W)<|gt W (fun w18=>(N1 (A2 w18) (A2 w18) W))<|sa W W W<|A1<|cc W hz6 (fun c12 hz6=> ?_)<|fun c12 hz6=> ?_)))))))
 refine A4<|Rk W fun u71 _=>sq W<|sq W<|sp W W<|sq W<|B9 (oS x4 (g15.1.val,g15.2)) W (T6 W (gq W) W) (sq W<|sp W W<|sq W<|sp W W<|sl W (gq W) W (sv W<|sv W<|sv W<|sv W<|B9 (dl A5 [y14.2.2.2]) W W (sv W<|B9 (dl Gu [(Crash.mk p2.Tick a1.1 a1.2 x5 (-1) [y14.2.2.2])]) W W (bs hz6 fun _ hv27 hz6=>V3 Gu (g15.1.val,g15.2) x4 (Crash.mk p2.Tick a1.1 a1.2 x5 (-1) [y14.2.2.2]) [] _ (N3<|fun _=>W) W (F9 (IG g15.1.property W)<|F9 (IG g15.1.property W)<|F9 (IG g15.1.property W)<|F9 (IG g15.1.property W)<|F9 (IG g15.1.property W)<|F9 (IG g15.1.property W)<|F9 (IG g15.1.property W)<|F9 (IG g15.1.property W)<|F9 (IG g15.1.property W)<|F9 (IG g15.1.property W)<|F9 (IG g15.1.property W)<|F9 (IG g15.1.property W)<|F9 (IG g15.1.property W) G_hit) hv27 (sq W<|sp W W<|Me _ _ _ _ _ W W W (F9 W<|F9 (HD g15.1.property W)<|gq W) (nl W) ((M7 p1)++ (L0 p2)++ [(di v2.Tick),(oS y2 (10060030,g2)),(oS y5 (85,g6)),(dl A5 p3),(.sl (158,u71))]) W (A1<|B0 ?_))))))
 cases hz6
 obtain rfl:=ez6 _ rfl
 refine ⟨nofun,F2 ?_⟩
 rw [bT]at hy12
 cases hy12
 exact TC (.inr W) (qI) (⟨158, .tail _ (.head _)⟩,u71) (Ck W) (B5 (BK 2 W<|F9 (HD g15.1.property W)<|gq W) (.of W) (B5 (BK 2 W<|F9 (HD g15.1.property W)<|gq W) (.of W) (B5 G_hit (.box (cv<|cv<|cv<|cv<|cv<|cv<|cv<|cv<|cv<|cv<|cv<|cv<|.cons (.of (Aq<|Ba hv27).symm) .nil))<|B5 (BK 2 W<|F9 (HD g15.1.property W)<|F9 W<|F9 W<|F9 W<|F9 W<|F9 W<|F9 W<|F9 W<|F9 W<|Cn g13.2 G_hit) (.of W) (B5 (BK 2 W<|F9 (HD g15.1.property W)<|gq W) (.of W) (B8 (BK 2 W<|F9 (HD g15.1.property W)<|gq W)<|B8 (BK 2 W<|F9 (HD g15.1.property W)<|gq W)<|O6 (gq W) trivial)))))
 refine A8<|E2<|C0<|sv W<|sv W<|A1<|E5 ?_
 cases hz6
 exact ⟨W,(),(E1 (Ck W)<|sg W<|sg W<|sg W<|B5 (BK 8 W<|Cn g13.2 G_hit) (.of W) (sg W<|B8 (gq W)<|B8 (gq W)<|B8 (AF g15.1.property 13 W G_hit) trivial))⟩
 refine C6 W ?_
 cases hz6
 obtain rfl:=ez6 _ rfl
 refine ⟨nofun,C4 W<|Aj ?_⟩
 exact ⟨_,(),W,(E1 trivial<|sg W<|B5 G_hit (.of W)<|sg W<|B5 (BK 2 W<|Cn g13.2 G_hit) (.of W) (sg W<|B8 (gq W)<|B8 (gq W)<|B8 (AF g15.1.property 7 W G_hit) trivial))⟩
 rintro _ ⟨y13,g17,rfl,q7⟩
 rw [bS]at hy12
 refine E5 ?_
 obtain rfl:=(lD hy12)
 exact CZ q7 (.inl W) (g15.1,g15.2) (Ck W) (sg W<|B5 G_hit (.of W)<|sg W<|B5 (BK 2 W<|Cn g13.2 G_hit) (.of W) (sg W<|B8 (gq W)<|B8 (gq W)<|B8 (AF g15.1.property 7 W G_hit) trivial))
 intro g16
 intro u73 hu73
 refine A1<|C0<|sp W (T6 W G_hit W)<|sv W<|sv W<|bs hz4 fun y15 hy15 hz4=>GG (fk Tryz.func184 Tryz.ntmps184 (fun r=>if r==5 then [1002]else if r==6 then [1010]else if r==8 then [1001]else if r==10 then [1001]else if r==11 then [1015]else []) (by with_unfolding_all rfl)) (fun (g20:({d:Nat // d∈ [72,158]}×Nat))=> []) (fun (g20:({d:Nat // d∈ [72,158]}×Nat))=> [((6,u1),some<|.box 25 [(di 0),(.d .nilS),(.d .nilS)]),((30,u7),some<|.box 135 ((M7 p1)++ (L0 p2)++ [(di v2.Tick),(oS y2 (10060030,g2)),(oS y5 (85,g6)),(dl A5 p3),(oS y15 (g20.1.val,g20.2))])),((1,u47),some<|.box 133 [(.ptr (30,u7) 0)]),((1,g13.1),some<|.box 133 [(.ptr (30,u7) 0)]),((1000000,u53),some<|.obj (T [(1,(.ptr (1,u47) 0)),(5,(.fn (.func 174) [] [(.ptr (1,g13.1) 0)]))]) {r1 with state:= .busy}),((10060030,g2),oB 45 7 C9 y2),((85,g6),oB 127 4 J8 y5),((g20.1.val,g20.2),oB 77 6 Gu y15)]) W (nl W) ?_ ?_
 unfold My at hy15
 refine B4 (s0:=⟨T [(0,(.ptr (30,u7) 0)),(1,(di a1.1)),(2,(di a1.2))],G [((30,u7),some<|.box 135 ((M7 p1)++ (L0 p2)++ [(di v2.Tick),(oS y2 (10060030,g2)),(oS y5 (85,g6)),(dl A5 p3),(oS y12 (g16.1.val,g16.2))])),((10060030,g2),oB 45 7 C9 y2),((85,g6),oB 127 4 J8 y5),((g16.1.val,g16.2),oB 77 6 Gu y12),((6,u1),some<|.box 25 [(di 0),(.d .nilS),(.d .nilS)]),((1,u47),some<|.box 133 [(.ptr (30,u7) 0)]),((1,g13.1),some<|.box 133 [(.ptr (30,u7) 0)]),((1000000,u53),some<|.obj (T [(1,(.ptr (1,u47) 0)),(5,(.fn (.func 174) [] [(.ptr (1,g13.1) 0)]))]) {r1 with state:= .busy})]⟩) (E1 (Ck W)<|sg W<|B8 (gq W)<|B8 (gq W)<|B8 (AF g16.1.property 7 W G_hit)<|sg W<|B5 G_hit (.of W)<|B5 (Cn g13.2<|gq W) (.of W) (sg W trivial)) ?_
 refine A9<|sq W<|sp W W<|sq W<|sp W W<|sl W G_hit W<|sd W (D7 W)<|sv W<|A1<|bs hy15 fun y16 hy16 hy15=>E0 (fun s=> ∃g21:({d:Nat // d∈ [72,158]}×Nat),Sb ⟨T [],G [((6,u1),some<|.box 25 [(di 0),(.d .nilS),(.d .nilS)]),((30,u7),some<|.box 135 ((M7 p1)++ (L0 p2)++ [(di v2.Tick),(oS y2 (10060030,g2)),(oS y5 (85,g6)),(dl A5 p3),(oS y16 (g21.1.val,g21.2))])),((1,u47),some<|.box 133 [(.ptr (30,u7) 0)]),((1,g13.1),some<|.box 133 [(.ptr (30,u7) 0)]),((1000000,u53),some<|.obj (T [(1,(.ptr (1,u47) 0)),(5,(.fn (.func 174) [] [(.ptr (1,g13.1) 0)]))]) {r1 with state:= .busy}),((10060030,g2),oB 45 7 C9 y2),((85,g6),oB 127 4 J8 y5),((g21.1.val,g21.2),oB 77 6 Gu y16)]⟩ s) ?_ ?_
 refine A7<|E3 (Jb p1 p2 p3 v2 y2 y5 a1) (fun (x6:(Int× (List Crash))) (g22:({d:Nat // d∈ [72,158]}×Nat))=>⟨T [(0,(.ptr (30,u7) 0)),(1,(di a1.1)),(2,(di a1.2)),(15,(di (p1.Zones.length:Int))),(16,(di x6.1))],G [((30,u7),some<|.box 135 ((M7 p1)++ (L0 p2)++ [(di v2.Tick),(oS y2 (10060030,g2)),(oS y5 (85,g6)),(dl A5 p3),(oS x6.2 (g22.1.val,g22.2))])),((6,u1),some<|.box 25 [(di 0),(.d .nilS),(.d .nilS)]),((1,u47),some<|.box 133 [(.ptr (30,u7) 0)]),((1,g13.1),some<|.box 133 [(.ptr (30,u7) 0)]),((1000000,u53),some<|.obj (T [(1,(.ptr (1,u47) 0)),(5,(.fn (.func 174) [] [(.ptr (1,g13.1) 0)]))]) {r1 with state:= .busy}),((10060030,g2),oB 45 7 C9 y2),((85,g6),oB 127 4 J8 y5),((g22.1.val,g22.2),oB 77 6 Gu x6.2)]⟩) (0,y12) (g16.1,g16.2) _ hy16 (E1 (Ck W)<|B5 G_hit (.of W)<|B5 (BK 3 W<|F9 (HD g16.1.property W) G_hit) (.of W) (B5 (BK 3 W<|F9 (HD g16.1.property W)<|gq W) (.of W) (B5 (BK 3 W<|F9 (HD g16.1.property W)<|F9 W<|Cn g13.2 G_hit) (.of W) (B5 (BK 3 W<|F9 (HD g16.1.property W)<|gq W) (.of W) (B8 (gq W)<|B8 (gq W)<|B8 (AF g16.1.property 3 W G_hit) trivial))))) ?_
 intro x6 g22 z7 hz7 ez7
 unfold Jb at hz7
 refine A9<|sv W<|A1<|A4<|cc W hz7 (fun c13 hz7=> ?_)<|fun c13 hz7=> ?_
 refine A8<|A4<|A7<|A9<|sv W<|sv W<|A1<|A4<|A9<|sq W<|sv W<|sv W<|sv W<|bs hz7 fun v28 hv28 hz7=>B1 W (E7 (Df G_hit<|rD<|rD<|rD<|rD<|rD<|rD<|rD<|rD<|rD<|E7 (Y3<|gq W)<|E7 (Y3<|gq W)<|rD<|E7 (Y3<|AF g22.1.property 7 W G_hit) G2)<|rD<|rD<|rD G2) (.cons (DLe.bp<|ca W<|ca W<|ca W<|ca W<|ca W<|ca W<|ca W<|ca W<|ca W<|.cons ⟨Y2,W⟩ (.cons ⟨Y2,W⟩ (ca W<|.cons ⟨Y2,W⟩ .nil))) (.cons (.refl _) (.cons (.refl _) A3))) (Qi _ _ _ _ _ hv28) (.inr W) (B9 (.d (bo (!v28))) W W (A1<|cc W hz7 (fun c14 hz7=> ?_)<|fun c14 hz7=> ?_))
 refine Zz W<|C0<|sv W<|sv W<|A1<|E5 ?_
 cases hz7
 exact ⟨W,(g22.1,g22.2),(E1 (Ck W)<|B5 G_hit (.of W)<|sg W<|sg W<|B5 (BK 2 W<|Cn g13.2 G_hit) (.of W) (sg W<|B8 (gq W)<|B8 (gq W)<|B8 (AF g22.1.property 7 W G_hit) trivial))⟩
 refine A8<|A9<|sq W<|sv W<|sv W<|bs hz7 fun v29 hv29 hz7=>B1 W (E7 (Df G_hit<|rD<|rD<|rD<|rD<|rD<|rD<|rD<|rD<|rD<|E7 (Y3<|gq W)<|E7 (Y3<|gq W)<|rD<|E7 (Y3<|AF g22.1.property 7 W G_hit) G2)<|rD<|rD G2) (.cons (DLe.bp<|ca W<|ca W<|ca W<|ca W<|ca W<|ca W<|ca W<|ca W<|ca W<|.cons ⟨Y2,W⟩ (.cons ⟨Y2,W⟩ (ca W<|.cons ⟨Y2,W⟩ .nil))) (.cons (.refl _) A3)) (Rg _ _ _ _ hv29) (.inr W) (sq W<|sv W<|sv W<|bs hz7 fun v30 hv30 hz7=>B1 W (E7 (Df G_hit<|rD<|rD<|rD<|rD<|rD<|rD<|rD<|rD<|rD<|E7 (Y3<|gq W)<|E7 (Y3<|gq W)<|rD<|E7 (Y3<|AF g22.1.property 7 W G_hit) G2)<|rD<|rD G2) (.cons (DLe.bp<|ca W<|ca W<|ca W<|ca W<|ca W<|ca W<|ca W<|ca W<|ca W<|.cons ⟨Y2,W⟩ (.cons ⟨Y2,W⟩ (ca W<|.cons ⟨Y2,W⟩ .nil))) (.cons (.refl _) A3)) (Rg _ _ _ _ hv30) (.inr W) (sm W<|sn W W<|Bc W (gq W) (BM v29) W (Bc W (gq W) (BM v30) W (A1<|A9<|sv W<|sv W<|B9 (dl A5 [a1.1,a1.2]) W W (B9 (dl A5 [a1.1,a1.2]) W W (A1<|A4<|A4<|F4 W<|sq W<|sl W (gq W) W (sq W<|sl W G_hit W<|bs hz7 fun v31 hv31 hz7=>B1 W W A3 (Ke _ _ _ hv31) (.inl W) (sq W<|sl W G_hit W<|sq W<|sl W (gq W) W (bs hz7 fun v32 hv32 hz7=>B1 W W A3 (Tc _ _ _ hv32) (.inl W) (B9 (dl A5 [v31,v32]) W W (bs hz7 fun _ hv33 hz7=>B1 W W A3 (Yi _ _ hv33) (.inl W) (A1<|bs hz7 fun y17 hy17 hz7=>E0 (fun s=> ∃g23:Unit,Sb ⟨T [(0,(.ptr (30,u7) 0)),(1,(di a1.1)),(2,(di a1.2)),(6,(di x6.1)),(9,(dl A5 y17)),(15,(di (p1.Zones.length:Int))),(16,(di x6.1))],G [((30,u7),some<|.box 135 ((M7 p1)++ (L0 p2)++ [(di v2.Tick),(oS y2 (10060030,g2)),(oS y5 (85,g6)),(dl A5 p3),(oS x6.2 (g22.1.val,g22.2))])),((6,u1),some<|.box 25 [(di 0),(.d .nilS),(.d .nilS)]),((1,u47),some<|.box 133 [(.ptr (30,u7) 0)]),((1,g13.1),some<|.box 133 [(.ptr (30,u7) 0)]),((1000000,u53),some<|.obj (T [(1,(.ptr (1,u47) 0)),(5,(.fn (.func 174) [] [(.ptr (1,g13.1) 0)]))]) {r1 with state:= .busy}),((10060030,g2),oB 45 7 C9 y2),((85,g6),oB 127 4 J8 y5),((g22.1.val,g22.2),oB 77 6 Gu x6.2)]⟩ s) ?_ ?_))))))))))))
 refine A7<|A9<|sv W<|sv W<|A1<|cc W hy17 (fun c15 hy17=> ?_)<|fun c15 hy17=> ?_
 refine C0<|sv W<|B9 (dl A5 [a1.1]) W W (B9 (dl A5 [a1.1]) W W (A1<|E2 ?_))
 cases hy17
 exact Aj ⟨(),(E1 (Ck W)<|sg W<|sg W<|sg W<|B5 (BK 6 W<|Cn g13.2 G_hit) (.of W) (sg W<|B8 (gq W)<|B8 (gq W)<|B8 (AF g22.1.property 11 W G_hit) trivial))⟩
 refine A9<|sv W<|sv W<|A1<|cc W hy17 (fun c16 hy17=> ?_)<|fun c16 hy17=> ?_
 refine C0<|sv W<|B9 (dl A5 [a1.2]) W W (B9 (dl A5 [a1.2]) W W (A1<|E2 ?_))
 cases hy17
 exact Aj ⟨(),(E1 (Ck W)<|sg W<|sg W<|sg W<|B5 (BK 6 W<|Cn g13.2 G_hit) (.of W) (sg W<|B8 (gq W)<|B8 (gq W)<|B8 (AF g22.1.property 11 W G_hit) trivial))⟩
 refine A8<|E2 ?_
 cases hy17
 exact Aj ⟨(),(E1 (Ck W)<|sg W<|sg W<|sg W<|B5 (BK 6 W<|Cn g13.2 G_hit) (.of W) (sg W<|B8 (gq W)<|B8 (gq W)<|B8 (AF g22.1.property 11 W G_hit) trivial))⟩
 rintro _ ⟨g23,q8⟩
 refine B4 q8<|Rk W fun u87 _=>sq W<|sq W<|sp W W<|sq W<|B9 (oS x6.2 (g22.1.val,g22.2)) W (T6 W G_hit W) (sq W<|sp W W<|sq W<|sp W W<|sl W G_hit W<|sv W<|sv W<|sv W<|sv W<|sv W<|B9 (dl Gu [(Crash.mk p2.Tick a1.1 a1.2 (-1) x6.1 y17)]) W W (bs hz7 fun _ hv34 hz7=>V3 Gu (g22.1.val,g22.2) x6.2 (Crash.mk p2.Tick a1.1 a1.2 (-1) x6.1 y17) [] _ (N3<|fun _=>W) W (F9 (IG g22.1.property W)<|F9 (IG g22.1.property W)<|F9 (IG g22.1.property W)<|F9 (IG g22.1.property W)<|F9 (IG g22.1.property W)<|F9 (IG g22.1.property W)<|F9 (IG g22.1.property W) G_hit) hv34 (sq W<|sp W W<|Me _ _ _ _ _ W W W (F9 W<|F9 (HD g22.1.property W) G_hit) (nl W) ((M7 p1)++ (L0 p2)++ [(di v2.Tick),(oS y2 (10060030,g2)),(oS y5 (85,g6)),(dl A5 p3),(.sl (72,u87))]) W (A1<|E2<|C0<|sv W<|sv W<|A1<|E5 ?_))))
 cases hz7
 exact ⟨W,(⟨72, .head _⟩,u87),(E1 (Ck W)<|B5 G_hit (.box (cv<|cv<|cv<|cv<|cv<|cv<|cv<|cv<|cv<|cv<|cv<|cv<|.cons (.of (Aq<|Ba hv34).symm) .nil))<|B5 (BK 2 W<|F9 (HD g22.1.property W)<|gq W) (.of W) (B5 (BK 2 W<|F9 (HD g22.1.property W)<|gq W) (.of W) (B5 (BK 2 W<|F9 (HD g22.1.property W)<|F9 W<|F9 W<|Cn g13.2 G_hit) (.of W) (B5 (BK 2 W<|F9 (HD g22.1.property W)<|gq W) (.of W) (B8 (BK 2 W<|F9 (HD g22.1.property W)<|gq W)<|B8 (BK 2 W<|F9 (HD g22.1.property W)<|gq W)<|O6 (gq W) trivial)))))⟩
 refine C6 W ?_
 cases hz7
 obtain rfl:=ez7 _ rfl
 refine ⟨nofun,C4 W<|Aj ?_⟩
 exact ⟨(g22.1,g22.2),(E1 trivial<|sg W<|B5 G_hit (.of W)<|sg W<|B5 (BK 2 W<|Cn g13.2 G_hit) (.of W) (sg W<|B8 (gq W)<|B8 (gq W)<|B8 (AF g22.1.property 7 W G_hit) trivial))⟩
 rintro _ ⟨g21,q9⟩
 refine E5 ?_
 obtain rfl:=(lD hy15)
 exact CZ q9 (.inl W) (g21.1,g21.2) trivial (B5 G_hit (.of W)<|sg W<|sg W<|B5 (BK 2 W<|Cn g13.2 G_hit) (.of W) (sg W<|B8 (gq W)<|B8 (gq W)<|B8 (AF g21.1.property 7 W G_hit) trivial))
 intro g20
 intro u89 hu89
 refine A1<|E2<|E5 ?_
 cases hz4
 exact gQ (gq W) (g20.1,g20.2) (sg W<|B5 (BK 2 W<|Cn g13.2 G_hit) (.of W) (B5 G_hit (.of W)<|sg W<|B8 (gq W)<|B8 (gq W)<|B8 (AF g20.1.property 7 W G_hit) trivial))
 rintro x4 g15 _ rfl qx4
 refine E2<|Aj ?_
 exact ⟨(g15.1,g15.2),(Sb.after qx4<|E1 trivial<|sg W<|sg W<|B8 (gq W)<|B8 (gq W)<|B8 (AF g15.1.property 6 W G_hit) trivial)⟩
 rintro _ ⟨g14,q10⟩
 refine E5 ?_
 obtain rfl:=(lD hy9)
 exact CZ q10 (.inl W) (g14.1,g14.2) (Ck W) (B5 G_hit (.of W)<|sg W<|B8 (gq W)<|B8 (gq W)<|B8 (AF g14.1.property 4 W G_hit) trivial)
 intro g12
 intro u90 hu90
 refine A1<|E2<|C0<|sv W<|sv W<|A1<|HZ<|A9<|sv W<|A1<|A4<|Xr W<|Zz W ?_
 cases hy1
 exact Aj ⟨(g2,g6,(g12.1,g12.2)),(E1 (Ck W)<|B5 G_hit (.of W)<|sg W<|B8 (gq W)<|B8 (gq W)<|B8 (AF g12.1.property 4 W G_hit) trivial)⟩
 rintro _ ⟨g1,q11⟩
 refine B4 q11<|A9<|sq W<|sp W W<|sq W<|sp W W<|sl W (gq W) W (sv W<|sq W<|sp W W<|sq W<|Bc W (gq W) ((M7 p1)++ (L0 p2)++ [(di<|C5 (v2.Tick+1)),(oS y1.1 (10060030,g1.1)),(oS y1.2.1 (85,g1.2.1)),(dl A5 p3),(oS y1.2.2 (g1.2.2.1.val,g1.2.2.2))]) W (A1<|A4<|AA fun _ _=>X1 (.ptr _ _) W W (X1 (.ptr _ _) W W (X1 (.ptr _ _) W W (X1 (Bg [(di<|C5 (v2.Tick+1)),(oS y1.1 (10060030,g1.1)),(oS y1.2.1 (85,g1.2.1))]) W (B3 W G_hit W W) (X1 (.ptr _ _) W W (X1 (.ptr _ _) W W (X1 (.ptr _ _) W W (X1 (oS y1.2.2 (g1.2.2.1.val,g1.2.2.2)) W (T6 W G_hit W) (AB _ _ _ _ _ (Bb _) W W (gq W) (nl W) [(di<|C5 (v2.Tick+1)),(oS y1.1 (10060030,g1.1)),(oS y1.2.1 (85,g1.2.1))] W (X1 (oS y1.2.2 (g1.2.2.1.val,g1.2.2.2)) W W (X1 (.d _) W W (NQ ⟨by first|rfl|((generalize g1.2.2.1=q0;rcases q0 with ⟨d0,_|⟨_,_|⟨_,h0⟩⟩⟩)<;>(generalize y1.2.2=z4;cases z4)<;>first|rfl|contradiction),?_⟩)))))))))))))
 refine B0 ?_
 cases h
 exact A6 (.inr W) (HW (L4 W G_hit (nl W) W) (B2 W) (B2 W) (Qa<|rD<|E7 (Y3<|gq W)<|E7 (Y3<|gq W) G2) (Y3<|AF g1.2.2.1.property 6 W G_hit) C1) (.tup (.cons (.agg (ca W<|.cons ⟨Y2,W⟩ (.cons ⟨Y2,W⟩ .nil))) (.cons Y2 A3)))
def Jv:Option Bool:=
  (Vj).bind fun v1=>(Mq 0 10000 1000).bind fun v2=>(Mq 1 46000 1000).bind fun v3=>(Nt v1 [v2,v3]).bind fun v4=>cond (((v4.2 !=0)||((v4.1.In.length:Int) !=0))||((v4.1.Agents.length:Int) !=2)) (some false) ((Ro v1 v4.1 [50,(-90)]).bind fun v5=>((cond (((v5.2.2==0)&& ((v5.2.1.length:Int)==0))&& ((v5.1.Agents.length:Int)==2)) (B7 v5.1.Agents 0) (some default))).bind fun v6=>((cond ((((v5.2.2==0)&& ((v5.2.1.length:Int)==0))&& ((v5.1.Agents.length:Int)==2))&& (v6.S==11030)) (B7 v5.1.Agents 1) (some default))).bind fun v7=>((cond (((((v5.2.2==0)&& ((v5.2.1.length:Int)==0))&& ((v5.1.Agents.length:Int)==2))&& (v6.S==11030))&& (v7.V==910)) (Mx 100 30) (some default))).bind fun v8=>some ((((((v5.2.2==0)&& ((v5.2.1.length:Int)==0))&& ((v5.1.Agents.length:Int)==2))&& (v6.S==11030))&& (v7.V==910))&& (v8==120)))
theorem DI(r)(h:Jv=some r):PCall Tryz.prog 21 [] (bo r):=by
 refine C3 (fk Tryz.func21 Tryz.ntmps21 (fun r=>if r==2 then [1003]else if r==5 then [1002]else []) (by with_unfolding_all rfl)) (nl W) ?_
 unfold Jv at h
 refine B4 (s0:=⟨T [],G []⟩) (F3 W W) ?_
 refine A9<|sv W<|A1<|A9<|bs h fun v1 hv1 h=>B1 W W A3 (TD _ hv1) (.inl W) (sm W<|Bc W G_hit (M7 v1) W (A1<|A4<|F4 W<|sd W (B3 W G_hit W W)<|bs h fun v2 hv2 h=>B1 W W A3 (DA _ _ _ _ hv2) (.inl W) (bs h fun v3 hv3 h=>B1 W W A3 (DA _ _ _ _ hv3) (.inl W) (B9 (dl C9 [v2,v3]) W (JU C9 ([v2,v3]:List Agent) (fun _=>W) W W ⟨W,W,W,W,W,W,trivial⟩ (fun _=>W)) (bs h fun v4 hv4 h=>B1 W W A3 (IP _ _ _ hv4) (.inl W) (sv W<|sv W<|sv W<|sm W<|Bc W G_hit (L0 v4.1) W (sv W<|A1<|A4<|A9<|sv W<|sv W<|sv W<|gp W (K5 W) (fun _=>W) (gf W (vl W G_hit W)<|gf W (fun w3=>(D7<|A2 w3))<|gf W (vb W W W)<|sd W (O2 W W<|fun hc=>A2<|J7 hc)<|sv W<|gp W (K5 W) (fun _=>W) (gf W (vl W G_hit W)<|gf W (fun w7=>(D7<|A2 w7))<|gf W (vb W W W)<|sd W (O2 W W<|fun hc=>A2<|J7 hc)<|A1<|cc W h (fun c1 h=> ?_)<|fun c1 h=> ?_)))))))))
 refine A9<|sv W<|A1<|B0 ?_
 cases h
 exact A6 (.inr W) (B6 (B2 W) C1) (.refl _)
 refine A8<|A9<|sd W (B3 W (gq W) W W)<|sd W (B3 W G_hit W W)<|B9 (dl A5 [50,(-90)]) W W (bs h fun v5 hv5 h=>B1 W W A3 (PW _ _ _ _ hv5) (.inl W) (sv W<|sv W<|sv W<|sv W<|sm W<|Bc W G_hit (L0 v5.1) W (sv W<|sv W<|A1<|A9<|sv W<|sv W<|sv W<|gt W (fun _=>W)<|gt W (fun w10=>(D7<|A2 w10))<|gt W (vb W W W)<|sa W W W<|sv W<|gp W (M8 W) (fun _=>W) (gt W (vl W G_hit W)<|gt W (fun w14=>(D7<|A2 w14))<|gt W (vb W W W)<|sa W W W<|sv W<|gp W (M8 W) (fun _=>W) (gt W (vl W G_hit W)<|bs h fun _ hv6 h=>gt W (fun w18=>(C8 (A2 w18) W (C2 w18 hv6) W)) ?_)))))
 refine gt W (fun w19=>(by simp only [A2 w19];rfl)) ?_
 refine gt W (fun w20=>(D6 (A2 w20) (C2 w20 hv6) W))<|gt W (vb W W W)<|sa W W W<|sv W<|gp W (M8 W) (fun _=>W) (gt W (vl W G_hit W)<|bs h fun _ hv7 h=>gt W (fun w24=>(C8 (A2 w24) W (C2 w24 hv7) W)) ?_)
 refine gt W (fun w25=>(by simp only [A2 w25];rfl)) ?_
 refine gt W (fun w26=>(D6 (A2 w26) (C2 w26 hv7) W))<|gt W (vb W W W)<|sa W W W<|sv W<|bs h fun v8 hv8 h=>O3 _ (i64 v8) (M8 W) (fun w28=>⟨_,_,_,_,W,W,A3,Yl _ _ _<|C2 w28 hv8,(.inl W)⟩) (gt W (vb W W W)<|sa W W W<|sv W<|A1<|B0 ?_)
 cases h
 exact A6 (.inr W) (B6 (B2 W) C1) (.refl _)
def IR (p1:Int)(p2:Int):Option Int:=
  (ER p1 p2).bind fun v1=>cond (decide (v1<0)) (some (C5 (v1+p2))) (some v1)
theorem YJ(p1 p2 r)(h:IR p1 p2=some r):PCall Tryz.prog 37 [(i64 p1),(i64 p2)] (i64 r):=by
 refine C3 (fk Tryz.func37 Tryz.ntmps37 m0 (by with_unfolding_all rfl)) (nl W) ?_
 unfold IR at h
 refine B4 (s0:=⟨T [(0,(.d _)),(1,(.d _))],G []⟩) (F3 W W) ?_
 refine A9<|sv W<|A1<|A9<|sv W<|sv W<|bs h fun _ hv1 h=>sd W (NP W W hv1)<|sv W<|A1<|A4<|A9<|sv W<|sv W<|A1<|cc W h (fun c1 h=> ?_)<|fun c1 h=> ?_
 refine C0<|sv W<|sv W<|sv W<|sv W<|A1<|A9<|sv W<|sv W<|A1<|B0 ?_
 cases h
 exact A6 (.inr W) (B6 (B2 W) C1) (.refl _)
 refine A8<|A9<|sv W<|sv W<|A1<|B0 ?_
 cases h
 exact A6 (.inr W) (B6 (B2 W) C1) (.refl _)
def Wb (p1:Int)(p2:Int)(p3:Int):Option Signal:=
  some (Signal.mk p1 [(Phase.mk 12 [p2]),(Phase.mk 5 []),(Phase.mk 9 [p3]),(Phase.mk 4 [])])
theorem Yn(p1 p2 p3 r)(h:Wb p1 p2 p3=some r):PCall Tryz.prog 70 [(i64 p1),(i64 p2),(i64 p3)] (.agg [(i64 r.Offset),(.list (List.map Dg r.Phases))]):=by
 refine C3 (fk Tryz.func70 Tryz.ntmps70 (fun r=>if r==1 then [1002,1006,1009]else []) (by with_unfolding_all rfl)) (nl W) ?_
 unfold Wb at h
 refine B4 (s0:=⟨T [(0,(.d _)),(1,(.d _)),(2,(.d _))],G []⟩) (F3 W W) ?_
 refine A9<|sm W<|A1<|A9<|sv W<|sv W<|B9 (dl A5 [p2]) W W (sv W<|sv W<|sv W<|B9 (dl A5 [p3]) W W (sv W<|sv W<|B9 (dl Dg [(Phase.mk 12 [p2]),(Phase.mk 5 []),(Phase.mk 9 [p3]),(Phase.mk 4 [])]) W W (sv W<|Bc W G_hit [(di p1),(dl Dg [(Phase.mk 12 [p2]),(Phase.mk 5 []),(Phase.mk 9 [p3]),(Phase.mk 4 [])])] W (A1<|B0 ?_))))
 cases h
 exact A6 (.inr W) (B6 (L4 W G_hit (nl W) W) C1) (.refl _)
def EJ (p1:Int):Option Map:=
  (IR p1 16777216).bind fun v1=>(B7 [1500,600,1000,300] ((C5 (v1.tdiv 7)).tmod 4)).bind fun v2=>(cond ((v1.tmod 7)==0) ((Y4 1 v2 [] [0,0,60000,0]).bind fun v3=>some ([v3],[],[])) ((cond ((v1.tmod 7)==1) (some ((v1.tmod 7)==1)) (some ((v1.tmod 7)==2))).bind fun y2=>cond y2 ((Y4 1 v2 [] [0,0,50000,0]).bind fun v4=>(Y4 1 1500 [] [30000,(-20000),30000,20000]).bind fun v5=>cond ((v1.tmod 7)==2) ((B7 [(Zone.mk [(Part.mk 0 28000 32000 ((C5 (v1.tdiv 28)).tmod 2)),(Part.mk 1 18000 22000 (C5 (2 - (C5 (2* ((C5 (v1.tdiv 28)).tmod 2))))))] 0)] 0).bind fun v6=>(Wb ((C5 (v1.tdiv 28)).tmod 31) 0 1).bind fun v7=>some ([v4,v5],(Mo [(Zone.mk [(Part.mk 0 28000 32000 ((C5 (v1.tdiv 28)).tmod 2)),(Part.mk 1 18000 22000 (C5 (2 - (C5 (2* ((C5 (v1.tdiv 28)).tmod 2))))))] 0)] 0 (Zone.mk v6.Parts 1)),[v7])) (some ([v4,v5],[(Zone.mk [(Part.mk 0 28000 32000 ((C5 (v1.tdiv 28)).tmod 2)),(Part.mk 1 18000 22000 (C5 (2 - (C5 (2* ((C5 (v1.tdiv 28)).tmod 2))))))] 0)],[]))) (cond ((v1.tmod 7)==3) ((Y4 1 v2 [1,2] [0,0,30000,0]).bind fun v8=>(Y4 1 1500 [] [30000,0,60000,0]).bind fun v9=>(Y4 1 800 [] [30000,0,54000,10000]).bind fun v10=>some ([v8,v9,v10],[],[])) (cond ((v1.tmod 7)==4) ((Y4 1 v2 [2] [0,0,30000,0]).bind fun v11=>(Y4 1 1500 [2] [6000,(-10000),30000,0]).bind fun v12=>(Y4 1 1500 [] [30000,0,60000,0]).bind fun v13=>some ([v11,v12,v13],[(Zone.mk [(Part.mk 0 25000 30000 1),(Part.mk 1 20000 26000 0),(Part.mk 2 0 5000 0)] 0)],[])) (cond ((v1.tmod 7)==5) ((Y4 1 v2 [1] [0,0,20000,0]).bind fun v14=>(Y4 1 v2 [] [20000,0,50000,0]).bind fun v15=>(Y4 3 200 [] [35000,(-8000),35000,8000]).bind fun v16=>some ([v14,v15,v16],[(Zone.mk [(Part.mk 1 14000 16000 0),(Part.mk 2 6000 10000 3)] 0)],[])) (cond ((v1.tmod 7)==6) ((Y4 1 v2 [1,2] [0,0,20000,0]).bind fun v17=>(Y4 1 1500 [] [20000,0,50000,0]).bind fun v18=>(Y4 1 1000 [] [20000,0,44000,10000]).bind fun v19=>(Y4 2 700 [] [36000,(-12000),36000,18000]).bind fun v20=>cond (((C5 (v1.tdiv 28)).tmod 2)==1) ((B7 [(Zone.mk [(Part.mk 1 14000 18000 1),(Part.mk 3 10000 14000 0)] 0),(Zone.mk [(Part.mk 2 14000 21000 1),(Part.mk 3 14500 23000 0)] 0)] 0).bind fun v21=>(B7 (Mo [(Zone.mk [(Part.mk 1 14000 18000 1),(Part.mk 3 10000 14000 0)] 0),(Zone.mk [(Part.mk 2 14000 21000 1),(Part.mk 3 14500 23000 0)] 0)] 0 (Zone.mk v21.Parts 1)) 1).bind fun v22=>(Wb ((C5 (v1.tdiv 56)).tmod 31) 1 3).bind fun v23=>(Wb ((C5 (v1.tdiv 56)).tmod 17) 2 3).bind fun v24=>some ([v17,v18,v19,v20],(Mo (Mo [(Zone.mk [(Part.mk 1 14000 18000 1),(Part.mk 3 10000 14000 0)] 0),(Zone.mk [(Part.mk 2 14000 21000 1),(Part.mk 3 14500 23000 0)] 0)] 0 (Zone.mk v21.Parts 1)) 1 (Zone.mk v22.Parts 2)),[v23,v24])) (some ([v17,v18,v19,v20],[(Zone.mk [(Part.mk 1 14000 18000 1),(Part.mk 3 10000 14000 0)] 0),(Zone.mk [(Part.mk 2 14000 21000 1),(Part.mk 3 14500 23000 0)] 0)],[]))) (some ([],[],[])))))))).bind fun y1=>cond (((C5 (v1.tdiv 1736)).tmod 3)==1) (some (Map.mk ((C5 (v1.tdiv 28)).tmod 5) y1.1 y1.2.1 y1.2.2 [(Work.mk 0 10000 15000 ((C5 (v1.tdiv 5208)).tmod 40) (C5 (((C5 (v1.tdiv 5208)).tmod 40)+20)) (C5 (((C5 (v1.tdiv 208320)).tmod 3)*200)))])) (some (Map.mk ((C5 (v1.tdiv 28)).tmod 5) y1.1 y1.2.1 y1.2.2 []))
theorem YK(p1 r)(h:EJ p1=some r):PCall Tryz.prog 22 [(i64 p1)] (.agg (U5 r)):=by
 refine C3 (fk Tryz.func22 Tryz.ntmps22 (fun r=>if r==2 then [1000]else if r==6 then [1001]else if r==9 then [1001,1003]else if r==10 then [1010]else if r==15 then [1001,1002,1004,1006]else if r==17 then [1001,1002,1004,1005,1007]else if r==18 then [1003]else if r==20 then [1001,1002,1005,1007]else if r==21 then [1002]else if r==23 then [1001,1002,1004,1006,1008]else if r==24 then [1002,1006]else if r==30 then [1012]else []) (by with_unfolding_all rfl)) (nl W) ?_
 unfold EJ at h
 refine B4 (s0:=⟨T [(0,(.d _))],G []⟩) (F3 W W) ?_
 refine lr<|fun u1 _=>sm W<|A1<|A9<|sv W<|bs h fun v1 hv1 h=>B1 W W A3 (YJ _ _ _ hv1) (.inl W) (sv W<|A1<|A9<|B9 (dl A5 [1500,600,1000,300]) W W (sv W<|sv W<|sv W<|bs h fun v2 hv2 h=>sd W (C8 W W hv2 W)<|sd W (D6 W hv2 W)<|sv W<|A1<|lr<|fun u4 _=>sm W<|A1<|A4<|A9<|sv W<|sv W<|A1<|bs h fun y1 hy1 h=>E0 (fun s=> ∃g1:(({d:Nat // d∈ [20,30,69,82,102,122]}×Nat)× ({d:Nat // d∈ [44,89,108,132]}×Nat)× ({d:Nat // d∈ [57,154]}×Nat)),Sb ⟨T [(0,(di v1)),(2,(.ptr (2,u1) 0)),(4,(.ptr (4,u4) 0))],G [((2,u1),some<|.box 33 [(di 0),(.d .nilS),(.d .nilS),(.d .nilS),(.d .nilS)]),((4,u4),some<|.box 33 [(di 0),(oS y1.1 (g1.1.1.val,g1.1.2)),(oS y1.2.1 (g1.2.1.1.val,g1.2.1.2)),(oS y1.2.2 (g1.2.2.1.val,g1.2.2.2)),(.d .nilS)]),((g1.1.1.val,g1.1.2),oB 63 5 Io y1.1),((g1.2.1.1.val,g1.2.1.2),oB 117 2 Ip y1.2.1),((g1.2.2.1.val,g1.2.2.2),oB 120 2 Qf y1.2.2)]⟩ s) ?_ ?_))
 refine A7<|A9<|sv W<|sv W<|A1<|cc W hy1 (fun c1 hy1=> ?_)<|fun c1 hy1=> ?_
 refine Eh fun u7 _=>sv W<|B9 (dl A5 [0,0,60000,0]) W W (bs hy1 fun v3 hv3 hy1=>B1 W W (.cons (.refl _) (.cons (.refl _) (.cons DLe.nil A3))) (V9 _ _ _ _ _ hv3) (.inl W) (Sv (.sl _) (.arr 63 5 (List.map Io ([v3]:List Lane))) W W (sq W<|Bc W (gq W) [(di 0),(.sl (20,u7)),(.d .nilS),(.d .nilS),(.d .nilS)] W (A1<|E2 ?_))))
 cases hy1
 exact Aj ⟨((⟨20, .head _⟩,u7),(⟨44, .head _⟩,0),(⟨57, .head _⟩,0)),(E1 (Ck W)<|sg W<|B5 G_hit (.box (cv<|.cons (.of (Aq<|List.cons_ne_nil _ _).symm) cw))<|O6 (gq W)<|X0<|X0 trivial)⟩
 refine A4<|A9<|sv W<|sv W<|A1<|bs hy1 fun y2 hy2 hy1=>E0 (fun s=> ∃g2:Unit,Sb ⟨T [(0,(di v1)),(2,(.ptr (2,u1) 0)),(3,(di v2)),(4,(.ptr (4,u4) 0)),(14,(di<|v1.tmod 7)),(22,(.d (bo y2)))],G [((2,u1),some<|.box 33 [(di 0),(.d .nilS),(.d .nilS),(.d .nilS),(.d .nilS)]),((4,u4),some<|.box 33 [(di 0),(.d .nilS),(.d .nilS),(.d .nilS),(.d .nilS)])]⟩ s) ?_ ?_
 refine cc W hy2 (fun c2 hy2=> ?_)<|fun c2 hy2=> ?_
 refine A8 ?_
 cases hy2
 exact Aj ⟨(),(F3 W W)⟩
 refine C0<|sv W<|sv W<|A1 ?_
 cases hy2
 exact Aj ⟨(),(F3 W W)⟩
 rintro _ ⟨g2,q1⟩
 refine B4 q1<|cc W hy1 (fun c3 hy1=> ?_)<|fun c3 hy1=> ?_
 refine lr<|fun u10 _=>sv W<|B9 (dl A5 [0,0,50000,0]) W W (bs hy1 fun v4 hv4 hy1=>B1 W W (.cons (.refl _) (.cons (.refl _) (.cons DLe.nil A3))) (V9 _ _ _ _ _ hv4) (.inl W) (B9 (dl A5 [30000,(-20000),30000,20000]) W W (bs hy1 fun v5 hv5 hy1=>B1 W W (.cons (.refl _) (.cons (.refl _) (.cons DLe.nil A3))) (V9 _ _ _ _ _ hv5) (.inl W) (Sv (.sl _) (.arr 63 5 (List.map Io ([v4,v5]:List Lane))) W (Qe Io _ (fun _=>W) W W ⟨W,W,W,W,W,W,trivial⟩) (sq W<|Bc W (gq W) [(di 0),(.sl (30,u10)),(.d .nilS),(.d .nilS),(.d .nilS)] W (A1<|lr<|fun u11 _=>sv W<|sv W<|sv W<|sv W<|sv W<|sv W<|sv W<|sv W<|sv W<|sv W<|B9 (dl Dp [(Part.mk 0 28000 32000 ((C5<|v1.tdiv 28).tmod 2)),(Part.mk 1 18000 22000<|C5 (2 - (C5 (2* ((C5<|v1.tdiv 28).tmod 2)))))]) W W (sv W<|Sv (.sl _) (.arr 117 2 (List.map Ip ([(Zone.mk [(Part.mk 0 28000 32000 ((C5<|v1.tdiv 28).tmod 2)),(Part.mk 1 18000 22000<|C5 (2 - (C5 (2* ((C5<|v1.tdiv 28).tmod 2)))))] 0)]:List Zone))) W W (sq W<|Bc W (gq W) [(di 0),(.sl (30,u10)),(.sl (44,u11)),(.d .nilS),(.d .nilS)] W (A1<|A9<|sv W<|sv W<|sv W<|A1<|cc W hy1 (fun c4 hy1=> ?_)<|fun c4 hy1=> ?_)))))))))
 refine A9<|sq W<|B9 (.sl _) W (T6 W G_hit W) (bs hy1 fun v6 hv6 hy1=>B9 (.aptr _ _ _ _) W (Mp W W (gq W) hv6) (B9 (.aptr _ _ _ _) W W (Sw Ip _ _ _ (0) _ (Zone.mk v6.Parts 1) [(i64 1)] W W W (gq W) hv6 (nl W) W (A1<|Eh fun u14 _=>sv W<|sv W<|sv W<|bs hy1 fun v7 hv7 hy1=>B1 W W A3 (Yn _ _ _ _ hv7) (.inl W) (Sv (.sl _) (.arr 120 2 (List.map Qf ([v7]:List Signal))) W W (sq W<|Bc W (gq W) [(di 0),(.sl (30,u10)),(.sl (44,u11)),(.sl (57,u14)),(.d .nilS)] W (A1<|E2 ?_)))))))
 cases hy1
 exact Aj ⟨((⟨30, .tail _ (.head _)⟩,u10),(⟨44, .head _⟩,u11),(⟨57, .head _⟩,u14)),(E1 (Ck W)<|sg W<|B5 G_hit (.box (cv<|.cons (.of (Aq<|List.cons_ne_nil _ _).symm) (.cons (.of (Aq<|EG<|List.cons_ne_nil _ _).symm) (.cons (.of (Aq<|List.cons_ne_nil _ _).symm) cw))))<|O6 (gq W)<|O6 (gq W)<|O6 (gq W) trivial)⟩
 refine A8<|E2 ?_
 cases hy1
 exact Aj ⟨((⟨30, .tail _ (.head _)⟩,u10),(⟨44, .head _⟩,u11),(⟨57, .head _⟩,0)),(E1 (Ck W)<|sg W<|B5 G_hit (.box (cv<|.cons (.of (Aq<|List.cons_ne_nil _ _).symm) (.cons (.of (Aq<|List.cons_ne_nil _ _).symm) cw)))<|O6 (gq W)<|O6 (gq W)<|X0 trivial)⟩
 refine A9<|sv W<|sv W<|A1<|cc W hy1 (fun c5 hy1=> ?_)<|fun c5 hy1=> ?_
 refine Eh fun u16 _=>sv W<|B9 (dl A5 [1,2]) W W (B9 (dl A5 [0,0,30000,0]) W W (bs hy1 fun v8 hv8 hy1=>B1 W W A3 (V9 _ _ _ _ _ hv8) (.inl W) (B9 (dl A5 [30000,0,60000,0]) W W (bs hy1 fun v9 hv9 hy1=>B1 W W (.cons (.refl _) (.cons (.refl _) (.cons DLe.nil A3))) (V9 _ _ _ _ _ hv9) (.inl W) (B9 (dl A5 [30000,0,54000,10000]) W W (bs hy1 fun v10 hv10 hy1=>B1 W W (.cons (.refl _) (.cons (.refl _) (.cons DLe.nil A3))) (V9 _ _ _ _ _ hv10) (.inl W) (Sv (.sl _) (.arr 63 5 (List.map Io ([v8,v9,v10]:List Lane))) W (Qe Io _ (fun _=>W) W W ⟨W,W,W,W,W,W,W,W,W,trivial⟩) (sq W<|Bc W (gq W) [(di 0),(.sl (69,u16)),(.d .nilS),(.d .nilS),(.d .nilS)] W (A1<|E2 ?_)))))))))
 cases hy1
 exact Aj ⟨((⟨69, .tail _ (.tail _ (.head _))⟩,u16),(⟨44, .head _⟩,0),(⟨57, .head _⟩,0)),(E1 (Ck W)<|sg W<|B5 G_hit (.box (cv<|.cons (.of (Aq<|List.cons_ne_nil _ _).symm) cw))<|O6 (gq W)<|X0<|X0 trivial)⟩
 refine A9<|sv W<|sv W<|A1<|cc W hy1 (fun c6 hy1=> ?_)<|fun c6 hy1=> ?_
 refine lr<|fun u18 _=>sv W<|B9 (dl A5 [2]) W W (B9 (dl A5 [0,0,30000,0]) W W (bs hy1 fun v11 hv11 hy1=>B1 W W A3 (V9 _ _ _ _ _ hv11) (.inl W) (B9 (dl A5 [2]) W W (B9 (dl A5 [6000,(-10000),30000,0]) W W (bs hy1 fun v12 hv12 hy1=>B1 W W A3 (V9 _ _ _ _ _ hv12) (.inl W) (B9 (dl A5 [30000,0,60000,0]) W W (bs hy1 fun v13 hv13 hy1=>B1 W W (.cons (.refl _) (.cons (.refl _) (.cons DLe.nil A3))) (V9 _ _ _ _ _ hv13) (.inl W) (Sv (.sl _) (.arr 63 5 (List.map Io ([v11,v12,v13]:List Lane))) W (Qe Io _ (fun _=>W) W W ⟨W,W,W,W,W,W,W,W,W,trivial⟩) (sq W<|Bc W (gq W) [(di 0),(.sl (82,u18)),(.d .nilS),(.d .nilS),(.d .nilS)] W (A1<|Eh fun u19 _=>sv W<|sv W<|sv W<|B9 (dl Dp [(Part.mk 0 25000 30000 1),(Part.mk 1 20000 26000 0),(Part.mk 2 0 5000 0)]) W (JU Dp ([(Part.mk 0 25000 30000 1),(Part.mk 1 20000 26000 0),(Part.mk 2 0 5000 0)]:List Part) (fun _=>W) W W ⟨W,W,W,W,W,W,W,W,W,trivial⟩ (fun _=>W)) (sv W<|Sv (.sl _) (.arr 117 2 (List.map Ip ([(Zone.mk [(Part.mk 0 25000 30000 1),(Part.mk 1 20000 26000 0),(Part.mk 2 0 5000 0)] 0)]:List Zone))) W W (sq W<|Bc W (gq W) [(di 0),(.sl (82,u18)),(.sl (89,u19)),(.d .nilS),(.d .nilS)] W (A1<|E2 ?_)))))))))))))
 cases hy1
 exact Aj ⟨((⟨82, .tail _ (.tail _ (.tail _ (.head _)))⟩,u18),(⟨89, .tail _ (.head _)⟩,u19),(⟨57, .head _⟩,0)),(E1 (Ck W)<|sg W<|B5 G_hit (.box (cv<|.cons (.of (Aq<|List.cons_ne_nil _ _).symm) (.cons (.of (Aq<|List.cons_ne_nil _ _).symm) cw)))<|O6 (gq W)<|O6 (gq W)<|X0 trivial)⟩
 refine A9<|sv W<|sv W<|A1<|cc W hy1 (fun c7 hy1=> ?_)<|fun c7 hy1=> ?_
 refine lr<|fun u21 _=>sv W<|B9 (dl A5 [1]) W W (B9 (dl A5 [0,0,20000,0]) W W (bs hy1 fun v14 hv14 hy1=>B1 W W A3 (V9 _ _ _ _ _ hv14) (.inl W) (sv W<|B9 (dl A5 [20000,0,50000,0]) W W (bs hy1 fun v15 hv15 hy1=>B1 W W (.cons (.refl _) (.cons (.refl _) (.cons DLe.nil A3))) (V9 _ _ _ _ _ hv15) (.inl W) (B9 (dl A5 [35000,(-8000),35000,8000]) W W (bs hy1 fun v16 hv16 hy1=>B1 W W (.cons (.refl _) (.cons (.refl _) (.cons DLe.nil A3))) (V9 _ _ _ _ _ hv16) (.inl W) (Sv (.sl _) (.arr 63 5 (List.map Io ([v14,v15,v16]:List Lane))) W (Qe Io _ (fun _=>W) W W ⟨W,W,W,W,W,W,W,W,W,trivial⟩) (sq W<|Bc W (gq W) [(di 0),(.sl (102,u21)),(.d .nilS),(.d .nilS),(.d .nilS)] W (A1<|Eh fun u22 _=>sv W<|sv W<|B9 (dl Dp [(Part.mk 1 14000 16000 0),(Part.mk 2 6000 10000 3)]) W W (sv W<|Sv (.sl _) (.arr 117 2 (List.map Ip ([(Zone.mk [(Part.mk 1 14000 16000 0),(Part.mk 2 6000 10000 3)] 0)]:List Zone))) W W (sq W<|Bc W (gq W) [(di 0),(.sl (102,u21)),(.sl (108,u22)),(.d .nilS),(.d .nilS)] W (A1<|E2 ?_))))))))))))
 cases hy1
 exact Aj ⟨((⟨102, .tail _ (.tail _ (.tail _ (.tail _ (.head _))))⟩,u21),(⟨108, .tail _ (.tail _ (.head _))⟩,u22),(⟨57, .head _⟩,0)),(E1 (Ck W)<|sg W<|B5 G_hit (.box (cv<|.cons (.of (Aq<|List.cons_ne_nil _ _).symm) (.cons (.of (Aq<|List.cons_ne_nil _ _).symm) cw)))<|O6 (gq W)<|O6 (gq W)<|X0 trivial)⟩
 refine A9<|sv W<|sv W<|A1<|cc W hy1 (fun c8 hy1=> ?_)<|fun c8 hy1=> ?_
 refine lr<|fun u24 _=>sv W<|B9 (dl A5 [1,2]) W W (B9 (dl A5 [0,0,20000,0]) W W (bs hy1 fun v17 hv17 hy1=>B1 W W A3 (V9 _ _ _ _ _ hv17) (.inl W) (B9 (dl A5 [20000,0,50000,0]) W W (bs hy1 fun v18 hv18 hy1=>B1 W W (.cons (.refl _) (.cons (.refl _) (.cons DLe.nil A3))) (V9 _ _ _ _ _ hv18) (.inl W) (B9 (dl A5 [20000,0,44000,10000]) W W (bs hy1 fun v19 hv19 hy1=>B1 W W (.cons (.refl _) (.cons (.refl _) (.cons DLe.nil A3))) (V9 _ _ _ _ _ hv19) (.inl W) (B9 (dl A5 [36000,(-12000),36000,18000]) W W (bs hy1 fun v20 hv20 hy1=>B1 W W (.cons (.refl _) (.cons (.refl _) (.cons DLe.nil A3))) (V9 _ _ _ _ _ hv20) (.inl W) (Sv (.sl _) (.arr 63 5 (List.map Io ([v17,v18,v19,v20]:List Lane))) W (Qe Io _ (fun _=>W) W W ⟨W,W,W,W,W,W,W,W,W,W,W,W,trivial⟩) (sq W<|Bc W (gq W) [(di 0),(.sl (122,u24)),(.d .nilS),(.d .nilS),(.d .nilS)] W (A1<|lr<|fun u25 _=>sv W<|sv W<|B9 (dl Dp [(Part.mk 1 14000 18000 1),(Part.mk 3 10000 14000 0)]) W W (sv W<|sv W<|sv W<|B9 (dl Dp [(Part.mk 2 14000 21000 1),(Part.mk 3 14500 23000 0)]) W W (sv W<|Sv (.sl _) (.arr 117 2 (List.map Ip ([(Zone.mk [(Part.mk 1 14000 18000 1),(Part.mk 3 10000 14000 0)] 0),(Zone.mk [(Part.mk 2 14000 21000 1),(Part.mk 3 14500 23000 0)] 0)]:List Zone))) W W (sq W<|Bc W (gq W) [(di 0),(.sl (122,u24)),(.sl (132,u25)),(.d .nilS),(.d .nilS)] W (A1<|A9<|sv W<|sv W<|sv W<|sv W<|A1<|cc W hy1 (fun c9 hy1=> ?_)<|fun c9 hy1=> ?_)))))))))))))))
 refine A4<|AA fun _ _=>X1 (.ptr _ _) W W (X1 (.sl _) W (T6 W G_hit W) (X1 (.ptr _ _) W W (X1 (.sl _) W (T6 W G_hit W) (bs hy1 fun v21 hv21 hy1=>X1 (.aptr _ _ _ _) W (Mp W W (gq W) hv21) (X1 (.aptr _ _ _ _) W W (VJ Ip _ _ _ (0) _ (Zone.mk v21.Parts 1) [(i64 1)] W W W (gq W) hv21 (nl W) W (bs hy1 fun v22 hv22 hy1=>X1 (.aptr _ _ _ _) W (Mp W W G_hit hv22) (X1 (.aptr _ _ _ _) W W (VJ Ip _ _ _ (1) _ (Zone.mk v22.Parts 2) [(i64 2)] W W W G_hit hv22 (nl W) W (NQ ⟨W,?_⟩))))))))))
 refine Eh fun u28 _=>sv W<|sv W<|sv W<|bs hy1 fun v23 hv23 hy1=>B1 W W A3 (Yn _ _ _ _ hv23) (.inl W) (sv W<|sv W<|sv W<|bs hy1 fun v24 hv24 hy1=>B1 W W A3 (Yn _ _ _ _ hv24) (.inl W) (Sv (.sl _) (.arr 120 2 (List.map Qf ([v23,v24]:List Signal))) W W (sq W<|Bc W (gq W) [(di 0),(.sl (122,u24)),(.sl (132,u25)),(.sl (154,u28)),(.d .nilS)] W (A1<|E2 ?_))))
 cases hy1
 exact Aj ⟨((⟨122, .tail _ (.tail _ (.tail _ (.tail _ (.tail _ (.head _)))))⟩,u24),(⟨132, .tail _ (.tail _ (.tail _ (.head _)))⟩,u25),(⟨154, .tail _ (.head _)⟩,u28)),(E1 (Ck W)<|sg W<|B5 G_hit (.box (cv<|.cons (.of (Aq<|List.cons_ne_nil _ _).symm) (.cons (.of (Aq<|EG<|EG<|List.cons_ne_nil _ _).symm) (.cons (.of (Aq<|List.cons_ne_nil _ _).symm) cw))))<|O6 (gq W)<|O6 (gq W)<|O6 (gq W) trivial)⟩
 refine A8<|E2 ?_
 cases hy1
 exact Aj ⟨((⟨122, .tail _ (.tail _ (.tail _ (.tail _ (.tail _ (.head _)))))⟩,u24),(⟨132, .tail _ (.tail _ (.tail _ (.head _)))⟩,u25),(⟨57, .head _⟩,0)),(E1 (Ck W)<|sg W<|B5 G_hit (.box (cv<|.cons (.of (Aq<|List.cons_ne_nil _ _).symm) (.cons (.of (Aq<|List.cons_ne_nil _ _).symm) cw)))<|O6 (gq W)<|O6 (gq W)<|X0 trivial)⟩
 refine A8<|E2 ?_
 cases hy1
 exact Aj ⟨((⟨20, .head _⟩,0),(⟨44, .head _⟩,0),(⟨57, .head _⟩,0)),(E1 (Ck W)<|B5 G_hit (.of W)<|sg W<|X0<|X0<|X0 trivial)⟩
 rintro _ ⟨g1,q2⟩
 refine B4 q2<|A9<|sv W<|sv W<|sv W<|sq W<|Bc W (gq W) [(di ((C5<|v1.tdiv 28).tmod 5)),(oS y1.1 (g1.1.1.val,g1.1.2)),(oS y1.2.1 (g1.2.1.1.val,g1.2.1.2)),(oS y1.2.2 (g1.2.2.1.val,g1.2.2.2)),(.d .nilS)] W (A1<|A4<|A9<|sv W<|sv W<|sv W<|sv W<|A1<|cc W h (fun c10 h=> ?_)<|fun c10 h=> ?_)
 refine C0<|sv W<|sv W<|sv W<|sv W<|sv W<|sv W<|sv W<|sv W<|sv W<|sv W<|sv W<|sv W<|B9 (dl Ze [(Work.mk 0 10000 15000 ((C5<|v1.tdiv 5208).tmod 40) (C5 (((C5<|v1.tdiv 5208).tmod 40)+20)) (C5 (((C5<|v1.tdiv 208320).tmod 3)*200)))]) W W (sq W<|Bc W G_hit [(di ((C5<|v1.tdiv 28).tmod 5)),(oS y1.1 (g1.1.1.val,g1.1.2)),(oS y1.2.1 (g1.2.1.1.val,g1.2.1.2)),(oS y1.2.2 (g1.2.2.1.val,g1.2.2.2)),(dl Ze [(Work.mk 0 10000 15000 ((C5<|v1.tdiv 5208).tmod 40) (C5 (((C5<|v1.tdiv 5208).tmod 40)+20)) (C5 (((C5<|v1.tdiv 208320).tmod 3)*200)))])] W (A1<|A9<|B9 (Bg [(di ((C5<|v1.tdiv 28).tmod 5)),(oS y1.1 (g1.1.1.val,g1.1.2)),(oS y1.2.1 (g1.2.1.1.val,g1.2.1.2)),(oS y1.2.2 (g1.2.2.1.val,g1.2.2.2)),(dl Ze [(Work.mk 0 10000 15000 ((C5<|v1.tdiv 5208).tmod 40) (C5 (((C5<|v1.tdiv 5208).tmod 40)+20)) (C5 (((C5<|v1.tdiv 208320).tmod 3)*200)))])]) W (B3 W G_hit W W) (Me _ _ _ _ _ (Bb _) W W (gq W) (nl W) [(di ((C5<|v1.tdiv 28).tmod 5)),(oS y1.1 (g1.1.1.val,g1.1.2)),(oS y1.2.1 (g1.2.1.1.val,g1.2.1.2)),(oS y1.2.2 (g1.2.2.1.val,g1.2.2.2)),(dl Ze [(Work.mk 0 10000 15000 ((C5<|v1.tdiv 5208).tmod 40) (C5 (((C5<|v1.tdiv 5208).tmod 40)+20)) (C5 (((C5<|v1.tdiv 208320).tmod 3)*200)))])] W (A1<|B0 ?_))))
 cases h
 exact A6 (.inr W) (B6 (L4 W G_hit (nl W) W)<|Qa<|rD<|E7 (Y3<|AF g1.1.1.property 5 W G_hit)<|E7 (Y3<|AF g1.2.1.1.property 5 W<|F9 (cU g1.2.1.1.property g1.1.1.property W) G_hit)<|E7 (Y3<|AF g1.2.2.1.property 5 W<|F9 (cU g1.2.2.1.property g1.1.1.property W)<|F9 (cU g1.2.2.1.property g1.2.1.1.property W) G_hit)<|rD G2) (.agg (ca W<|.cons ⟨Y2,W⟩ (.cons ⟨Y2,W⟩ (.cons ⟨Y2,W⟩ (cz W)))))
 refine A8<|A9<|B9 (Bg [(di ((C5<|v1.tdiv 28).tmod 5)),(oS y1.1 (g1.1.1.val,g1.1.2)),(oS y1.2.1 (g1.2.1.1.val,g1.2.1.2)),(oS y1.2.2 (g1.2.2.1.val,g1.2.2.2)),(.d .nilS)]) W (B3 W G_hit W W) (Me _ _ _ _ _ (Bb _) W W (gq W) (nl W) [(di ((C5<|v1.tdiv 28).tmod 5)),(oS y1.1 (g1.1.1.val,g1.1.2)),(oS y1.2.1 (g1.2.1.1.val,g1.2.1.2)),(oS y1.2.2 (g1.2.2.1.val,g1.2.2.2)),(.d .nilS)] W (A1<|B0 ?_))
 cases h
 exact A6 (.inr W) (B6 (L4 W G_hit (nl W) W)<|Qa<|rD<|E7 (Y3<|AF g1.1.1.property 4 W G_hit)<|E7 (Y3<|AF g1.2.1.1.property 4 W<|F9 (cU g1.2.1.1.property g1.1.1.property W) G_hit)<|E7 (Y3<|AF g1.2.2.1.property 4 W<|F9 (cU g1.2.2.1.property g1.1.1.property W)<|F9 (cU g1.2.2.1.property g1.2.1.1.property W) G_hit)<|rD G2) (.agg (ca W<|.cons ⟨Y2,W⟩ (.cons ⟨Y2,W⟩ (.cons ⟨Y2,W⟩ (.cons ⟨DLe.nil,W⟩ .nil)))))
def Ff (p1:Int)(p2:Int)(p3:Int):Option Bool:=
  some ((decide (p1≥p2))&& (decide (p1≤p3)))
theorem Gy(p1 p2 p3 r)(h:Ff p1 p2 p3=some r):PCall Tryz.prog 162 [(i64 p1),(i64 p2),(i64 p3)] (bo r):=by
 refine C3 (fk Tryz.func162 Tryz.ntmps162 m0 (by with_unfolding_all rfl)) (nl W) ?_
 unfold Ff at h
 refine B4 (s0:=⟨T [(0,(.d _)),(1,(.d _)),(2,(.d _))],G []⟩) (F3 W W) ?_
 refine A9<|sv W<|A1<|A9<|sv W<|sv W<|sv W<|sv W<|gt W (fun _=>W)<|gt W (fun _=>W)<|gt W (fun w3=>(N1 (A2 w3) (A2 w3) W))<|sa W W W<|sv W<|A1<|B0 ?_
 cases h
 exact A6 (.inr W) (B6 (B2 W) C1) (.refl _)
def Td (p1:Spot):Option Bool:=
  some ((((decide (p1.X≥(-16777216)))&& (decide (p1.X≤16777216)))&& (decide (p1.Y≥(-16777216))))&& (decide (p1.Y≤16777216)))
theorem OH(p1 r)(h:Td p1=some r):PCall Tryz.prog 234 [(.agg [(i64 p1.X),(i64 p1.Y)])] (bo r):=by
 refine C3 (fk Tryz.func234 Tryz.ntmps234 m0 (by with_unfolding_all rfl)) (nl W) ?_
 unfold Td at h
 refine B4 (s0:=⟨T [(0,(.d _))],G []⟩) (F3 W W) ?_
 refine A9<|sm W<|sv W<|A1<|A9<|sq W<|sl W G_hit W<|sv W<|sv W<|gp W (M8 W) (fun _=>W) (gt W (vl W G_hit W)<|gt W (vb W W W)<|sa W W W<|sv W<|gp W (M8 W) (fun _=>W) (gt W (vl W G_hit W)<|gt W (vb W W W)<|sa W W W<|sv W<|gp W (M8 W) (fun _=>W) (gt W (vl W G_hit W)<|gt W (vb W W W)<|sa W W W<|sv W<|A1<|B0 ?_)))
 cases h
 exact A6 (.inr W) (B6 (B2 W) C1) (.refl _)
def Mz (p1:Spot)(p2:Spot):Option Spot:=
  some (Spot.mk (C5 (p1.X - p2.X)) (C5 (p1.Y - p2.Y)))
theorem Wc(p1 p2 r)(h:Mz p1 p2=some r):PCall Tryz.prog 136 [(.agg [(i64 p1.X),(i64 p1.Y)]),(.agg [(i64 p2.X),(i64 p2.Y)])] (.agg [(i64 r.X),(i64 r.Y)]):=by
 refine C3 (fk Tryz.func136 Tryz.ntmps136 m0 (by with_unfolding_all rfl)) (nl W) ?_
 unfold Mz at h
 refine B4 (s0:=⟨T [(0,(.d _)),(1,(.d _))],G []⟩) (F3 W W) ?_
 refine A9<|sm W<|sn W W<|sm W<|A1<|A9<|sq W<|sl W (gq W) W (sq W<|sl W (gq W) W (sv W<|sq W<|sl W (gq W) W (sq W<|sl W (gq W) W (sv W<|sv W<|Bc W G_hit [(di<|C5 (p1.X - p2.X)),(di<|C5 (p1.Y - p2.Y))] W (A1<|B0 ?_)))))
 cases h
 exact A6 (.inr W) (B6 (L4 W G_hit (nl W) W) C1) (.refl _)
def Pt (p1:Spot)(p2:Spot):Option Int:=
  some (C5 ((C5 (p1.X*p2.X))+ (C5 (p1.Y*p2.Y))))
theorem Vb(p1 p2 r)(h:Pt p1 p2=some r):PCall Tryz.prog 203 [(.agg [(i64 p1.X),(i64 p1.Y)]),(.agg [(i64 p2.X),(i64 p2.Y)])] (i64 r):=by
 refine C3 (fk Tryz.func203 Tryz.ntmps203 m0 (by with_unfolding_all rfl)) (nl W) ?_
 unfold Pt at h
 refine B4 (s0:=⟨T [(0,(.d _)),(1,(.d _))],G []⟩) (F3 W W) ?_
 refine A9<|sm W<|sn W W<|sv W<|A1<|A9<|sq W<|sl W (gq W) W (sq W<|sl W G_hit W<|sv W<|sq W<|sl W (gq W) W (sq W<|sl W G_hit W<|sv W<|sv W<|sv W<|A1<|B0 ?_))
 cases h
 exact A6 (.inr W) (B6 (B2 W) C1) (.refl _)
def Ou (p1:Int)(x1:(Int×Int)):Option (Stp (Int×Int) Int):=
  cond (decide (x1.2>0)) (cond (decide ((C5 ((C5 (x1.1+x1.2))* (C5 (x1.1+x1.2))))≤p1)) (some (.go ((C5 (x1.1+x1.2)),(C5 (x1.2.tdiv 2))))) (some (.go (x1.1,(C5 (x1.2.tdiv 2)))))) (some (.out x1.1))
def Na (p1:Int):Option Int:=
  (loop (Ou p1) (0,67108864)).bind fun y1=>some y1
theorem FI(p1 r)(h:Na p1=some r):PCall Tryz.prog 202 [(i64 p1)] (i64 r):=by
 refine C3 (fk Tryz.func202 Tryz.ntmps202 m0 (by with_unfolding_all rfl)) (nl W) ?_
 unfold Na at h
 refine B4 (s0:=⟨T [(0,(.d _))],G []⟩) (F3 W W) ?_
 refine A9<|sv W<|A1<|A9<|sv W<|A1<|A4<|A9<|sv W<|A1<|bs h fun y1 hy1 h=>E0 (fun s=> ∃g1:Unit,Sb ⟨T [(3,(di y1))],G []⟩ s) ?_ ?_
 refine A7<|E3 (Ou p1) (fun (x1:(Int×Int)) (g2:Unit)=>⟨T [(0,(di p1)),(3,(di x1.1)),(4,(di x1.2))],G []⟩) (0,67108864) () _ hy1 (F3 W W) ?_
 intro x1 g2 z1 hz1 ez1
 unfold Ou at hz1
 refine A4<|A9<|sv W<|sv W<|A1<|cc W hz1 (fun c1 hz1=> ?_)<|fun c1 hz1=> ?_
 refine A8<|A4<|A7<|A9<|sv W<|sv W<|sv W<|sv W<|sv W<|sv W<|sv W<|sv W<|sv W<|A1<|cc W hz1 (fun c2 hz1=> ?_)<|fun c2 hz1=> ?_
 refine C0<|sv W<|sv W<|sv W<|sv W<|A1<|E2<|C0<|sv W<|sv W<|sv W<|A1<|E5 ?_
 cases hz1
 exact ⟨W,(),(F3 W W)⟩
 refine A8<|E2<|C0<|sv W<|sv W<|sv W<|A1<|E5 ?_
 cases hz1
 exact ⟨W,(),(F3 W W)⟩
 refine C6 W ?_
 cases hz1
 obtain rfl:=ez1 _ rfl
 refine ⟨nofun,C4 W<|Aj ?_⟩
 exact ⟨(),(F3 W W)⟩
 rintro _ ⟨g1,q1⟩
 refine B4 q1<|A9<|sv W<|sv W<|A1<|B0 ?_
 cases h
 exact A6 (.inr W) (B6 (B2 W) C1) (.refl _)
def Gf (p1:Curve)(x2:Int):Option (Stp Int (Sum Unit Int)):=
  cond (decide ((C5 (x2+1))< (p1.Pts.length:Int))) ((B7 p1.Pts (C5 (x2+1))).bind fun v3=>(B7 p1.Pts x2).bind fun v4=>(Mz v3 v4).bind fun v5=>(Pt v5 v5).bind fun v6=>(Na v6).bind fun v7=>(Pt v5 v5).bind fun v8=>cond ((C5 (v7*v7)) !=v8) (some (.out (.inr 3))) (cond ((decide (v7<1000))||(decide (v7>1048576))) (some (.out (.inr 2))) (((cond (decide (x2>0)) (B7 p1.Pts x2) (some default))).bind fun v9=>((cond (decide (x2>0)) (B7 p1.Pts (C5 (x2 - 1))) (some default))).bind fun v10=>((cond (decide (x2>0)) (Mz v9 v10) (some default))).bind fun v11=>((cond (decide (x2>0)) (Pt v5 v11) (some default))).bind fun v12=>cond ((decide (x2>0))&& (decide (v12≤0))) (some (.out (.inr 12))) (some (.go (C5 (x2+1))))))) (some (.out (.inl ())))
def Gg (p1:Curve)(x1:Int):Option (Stp Int (Sum Unit Int)):=
  cond (decide (x1< (p1.Pts.length:Int))) ((B7 p1.Pts x1).bind fun v1=>(Td v1).bind fun v2=>cond (!v2) (some (.out (.inr 2))) (some (.go (C5 (x1+1))))) (some (.out (.inl ())))
def Pu (p1:Curve):Option Int:=
  cond (decide ((p1.Pts.length:Int)<2)) (some 6) (cond (decide ((p1.Pts.length:Int)>16)) (some 5) (thenS (loop (Gg p1) 0) (fun _=>thenS (loop (Gf p1) 0) (fun _=>some 0) (fun r=>some r)) (fun r=>some r)))
theorem DJ(p1 r)(h:Pu p1=some r):PCall Tryz.prog 201 [(.agg [(.list (List.map Ek p1.Pts))])] (i64 r):=by
 refine C3 (fk Tryz.func201 Tryz.ntmps201 m0 (by with_unfolding_all rfl)) (nl W) ?_
 unfold Pu at h
 refine B4 (s0:=⟨T [(0,(.d _))],G []⟩) (F3 W W) ?_
 refine lr<|fun u1 _=>sm W<|sv W<|A1<|A4<|A9<|sq W<|sl W G_hit W<|sd W (D7 W)<|sv W<|A1<|cc W h (fun c1 h=> ?_)<|fun c1 h=> ?_
 refine A9<|sv W<|A1<|B0 ?_
 cases h
 exact A6 (.inr W) (B6 (B2 W) C1) (.refl _)
 refine A8<|A4<|A9<|sq W<|sl W G_hit W<|sd W (D7 W)<|sv W<|A1<|cc W h (fun c2 h=> ?_)<|fun c2 h=> ?_
 refine A9<|sv W<|A1<|B0 ?_
 cases h
 exact A6 (.inr W) (B6 (B2 W) C1) (.refl _)
 refine A8<|A4<|A9<|sv W<|A1<|js h fun z1 hz1 h=>E0 (fun s=> ∃(y1:Unit) (g1:Unit),z1= .inl y1∧Sb ⟨T [(1,(.ptr (1,u1) 0))],G [((1,u1),some<|.box 61 [(dl Ek p1.Pts)])]⟩ s) ?_ ?_
 refine A7<|E3 (Gg p1) (fun (x1:Int) (g2:Unit)=>⟨T [(1,(.ptr (1,u1) 0)),(3,(di x1))],G [((1,u1),some<|.box 61 [(dl Ek p1.Pts)])]⟩) 0 () _ hz1 (F3 W W) ?_
 intro x1 g2 z2 hz2 ez2
 unfold Gg at hz2
 refine A4<|A9<|sv W<|sq W<|sl W G_hit W<|sd W (D7 W)<|sv W<|A1<|cc W hz2 (fun c3 hz2=> ?_)<|fun c3 hz2=> ?_
 refine A8<|A4<|A7<|A9<|sq W<|sl W G_hit W<|sv W<|bs hz2 fun _ hv1 hz2=>sd W (C8 W W hv1 W)<|sd W (D2 W hv1 W W)<|bs hz2 fun v2 hv2 hz2=>B1 W W A3 (OH _ _ hv2) (.inl W) (B9 (.d (bo (!v2))) W W (A1<|cc W hz2 (fun c4 hz2=> ?_)<|fun c4 hz2=> ?_))
 refine A9<|sv W<|A1<|B0 ?_
 cases hz2
 obtain rfl:=ez2 _ rfl
 refine ⟨nofun,F2 ?_⟩
 rw [bT]at h
 cases h
 exact A6 (.inr W) (B6 (B2 W) C1) (.refl _)
 refine A8<|E2<|C0<|sv W<|sv W<|sv W<|A1<|E5 ?_
 cases hz2
 exact ⟨W,(),(F3 W W)⟩
 refine C6 W ?_
 cases hz2
 obtain rfl:=ez2 _ rfl
 refine ⟨nofun,C4 W<|Aj ?_⟩
 exact ⟨_,(),W,(F3 W W)⟩
 rintro _ ⟨y1,g1,rfl,q1⟩
 rw [bS]at h
 refine B4 q1<|A4<|A9<|sv W<|A1<|js h fun z3 hz3 h=>E0 (fun s=> ∃(y2:Unit) (g3:Unit),z3= .inl y2∧Sb ⟨T [],G []⟩ s) ?_ ?_
 refine A7<|E3 (Gf p1) (fun (x2:Int) (g4:Unit)=>⟨T [(1,(.ptr (1,u1) 0)),(4,(di x2))],G [((1,u1),some<|.box 61 [(dl Ek p1.Pts)])]⟩) 0 () _ hz3 (F3 W W) ?_
 intro x2 g4 z4 hz4 ez4
 unfold Gf at hz4
 refine A4<|A9<|sv W<|sv W<|sq W<|sl W G_hit W<|sd W (D7 W)<|sv W<|A1<|cc W hz4 (fun c5 hz4=> ?_)<|fun c5 hz4=> ?_
 refine A8<|A4<|A7<|A4<|F4 W<|sq W<|sl W G_hit W<|sv W<|sv W<|bs hz4 fun _ hv3 hz4=>sd W (C8 W W hv3 W)<|sd W (D2 W hv3 W W)<|sq W<|sl W G_hit W<|sv W<|bs hz4 fun _ hv4 hz4=>sd W (C8 W W hv4 W)<|sd W (D2 W hv4 W W)<|bs hz4 fun v5 hv5 hz4=>B1 W W A3 (Wc _ _ _ hv5) (.inl W) (sm W<|Bc W G_hit [(di v5.X),(di v5.Y)] W (A1<|A9<|sd W (B3 W G_hit W W)<|sd W (B3 W G_hit W W)<|bs hz4 fun _ hv6 hz4=>B1 W W A3 (Vb _ _ _ hv6) (.inl W) (bs hz4 fun _ hv7 hz4=>B1 W W A3 (FI _ _ hv7) (.inl W) (sv W<|A1<|A4<|A9<|sv W<|sv W<|sv W<|sd W (B3 W G_hit W W)<|sd W (B3 W G_hit W W)<|bs hz4 fun _ hv8 hz4=>B1 W W A3 (Vb _ _ _ hv8) (.inl W) (sv W<|A1<|cc W hz4 (fun c6 hz4=> ?_)<|fun c6 hz4=> ?_)))))
 refine A9<|sv W<|A1<|B0 ?_
 cases hz4
 obtain rfl:=ez4 _ rfl
 refine ⟨nofun,F2 ?_⟩
 rw [bT]at h
 cases h
 exact A6 (.inr W) (B6 (B2 W) C1) (.refl _)
 refine A8<|A4<|A9<|sv W<|sv W<|sv W<|gf W (fun _=>W)<|gf W (vb W W W)<|sd W (O2 W W<|fun hc=>A2<|J7 hc)<|A1<|cc W hz4 (fun c7 hz4=> ?_)<|fun c7 hz4=> ?_
 refine A9<|sv W<|A1<|B0 ?_
 cases hz4
 obtain rfl:=ez4 _ rfl
 refine ⟨nofun,F2 ?_⟩
 rw [bT]at h
 cases h
 exact A6 (.inr W) (B6 (B2 W) C1) (.refl _)
 refine A8<|A4<|F4 W<|sv W<|sv W<|sv W<|gt W (fun _=>(B3 W G_hit W W))<|gp W (M8 W) (fun _=>W) (gt W (vl W (gq W) W)<|gt W (fun _=>W)<|bs hz4 fun v9 hv9 hz4=>gt W (fun w7=>(C8 (A2 w7) (A2 w7) (C2 w7 hv9) W))<|gt W (fun w8=>(D2 (A2 w8) (C2 w8 hv9) W W))<|gp W (M8 W) (fun _=>W) (gt W (vl W (gq W) W)<|gt W (fun _=>W)<|gt W (vb W W W)<|bs hz4 fun v10 hv10 hz4=>gt W (fun w13=>(C8 (A2 w13) (A2 w13) (C2 w13 hv10) W))<|gt W (fun w14=>(D2 (A2 w14) (C2 w14 hv10) W W))<|bs hz4 fun v11 hv11 hz4=> ?_))
 refine O3 _ (.agg [(i64 v11.X),(i64 v11.Y)]) (M8 W) (fun w15=>⟨_,[(.d (.agg [(i64 v9.X),(i64 v9.Y)])),(.d (.agg [(i64 v10.X),(i64 v10.Y)]))],_,_,(by simp only [A2 w15];rfl),W,A3,Wc _ _ _<|C2 w15 hv11,(.inl W)⟩) ?_
 refine bs hz4 fun v12 hv12 hz4=> ?_
 refine O3 _ (i64 v12) (M8 W) (fun w16=>⟨_,[(.d (.agg [(i64 v5.X),(i64 v5.Y)])),(.d (.agg [(i64 v11.X),(i64 v11.Y)]))],_,_,(by simp only [A2 w16];rfl),W,A3,Vb _ _ _<|C2 w16 hv12,(.inl W)⟩) ?_
 refine gt W (vb W W W)<|sa W W W<|A1<|cc W hz4 (fun c8 hz4=> ?_)<|fun c8 hz4=> ?_
 refine A9<|sv W<|A1<|B0 ?_
 cases hz4
 obtain rfl:=ez4 _ rfl
 refine ⟨nofun,F2 ?_⟩
 rw [bT]at h
 cases h
 exact A6 (.inr W) (B6 (B2 W) C1) (.refl _)
 refine A8<|E2<|C0<|sv W<|sv W<|sv W<|A1<|E5 ?_
 cases hz4
 exact ⟨W,(),(F3 W W)⟩
 refine C6 W ?_
 cases hz4
 obtain rfl:=ez4 _ rfl
 refine ⟨nofun,C4 W<|Aj ?_⟩
 exact ⟨_,(),W,(F3 W W)⟩
 rintro _ ⟨y2,g3,rfl,q2⟩
 rw [bS]at h
 refine B4 q2<|A9<|sv W<|A1<|B0 ?_
 cases h
 exact A6 (.inr W) (B6 (B2 W) C1) (.refl _)
def Ki (p1:Int):Option (Int×Int×Int):=
  cond (p1==1) (some (2000,30,90)) (cond (p1==2) (some (1000,20,60)) (cond (p1==3) (some (300,100,300)) (some (0,0,0))))
theorem Tx(p1 r)(h:Ki p1=some r):PCall Tryz.prog 35 [(i64 p1)] (.tup [(i64 r.1),(i64 r.2.1),(i64 r.2.2)]):=by
 refine C3 (fk Tryz.func35 Tryz.ntmps35 m0 (by with_unfolding_all rfl)) (nl W) ?_
 unfold Ki at h
 refine B4 (s0:=⟨T [(0,(.d _))],G []⟩) (F3 W W) ?_
 refine A9<|sv W<|sv W<|sv W<|A1<|A4<|A9<|sv W<|A1<|A7<|A9<|sv W<|sv W<|A1<|cc W h (fun c1 h=> ?_)<|fun c1 h=> ?_
 refine A9<|sv W<|sv W<|sv W<|A1<|B0 ?_
 cases h
 exact A6 (.inr W) (HW (B2 W) (B2 W) (B2 W) C1 C1 C1) (.refl _)
 refine A9<|sv W<|sv W<|A1<|cc W h (fun c2 h=> ?_)<|fun c2 h=> ?_
 refine A9<|sv W<|sv W<|sv W<|A1<|B0 ?_
 cases h
 exact A6 (.inr W) (HW (B2 W) (B2 W) (B2 W) C1 C1 C1) (.refl _)
 refine A9<|sv W<|sv W<|A1<|cc W h (fun c3 h=> ?_)<|fun c3 h=> ?_
 refine A9<|sv W<|sv W<|sv W<|A1<|B0 ?_
 cases h
 exact A6 (.inr W) (HW (B2 W) (B2 W) (B2 W) C1 C1 C1) (.refl _)
 refine A8<|E2<|A9<|sv W<|sv W<|sv W<|A1<|B0 ?_
 cases h
 exact A6 (.inr W) (HW (B2 W) (B2 W) (B2 W) C1 C1 C1) (.refl _)
def Di (p1:(List Int))(p2:Int)(p3:Int)(x1:Int):Option (Stp Int (Sum Unit Bool)):=
  cond (decide (x1< (p1.length:Int))) ((B7 p1 x1).bind fun v1=>((cond (!(decide (v1<p2))) (B7 p1 x1) (some default))).bind fun v2=>((cond ((!((decide (v1<p2))||(decide (v2≥p3))))&& (decide (x1>0))) (B7 p1 x1) (some default))).bind fun v3=>((cond ((!((decide (v1<p2))||(decide (v2≥p3))))&& (decide (x1>0))) (B7 p1 (C5 (x1 - 1))) (some default))).bind fun v4=>cond (((decide (v1<p2))||(decide (v2≥p3)))||((decide (x1>0))&& (decide (v3≤v4)))) (some (.out (.inr false))) (some (.go (C5 (x1+1))))) (some (.out (.inl ())))
def If (p1:(List Int))(p2:Int)(p3:Int):Option Bool:=
  thenS (loop (Di p1 p2 p3) 0) (fun _=>some true) (fun r=>some r)
theorem Rp(p1 p2 p3 r)(h:If p1 p2 p3=some r):PCall Tryz.prog 217 [(.list (List.map A5 p1)),(i64 p2),(i64 p3)] (bo r):=by
 refine C3 (fk Tryz.func217 Tryz.ntmps217 m0 (by with_unfolding_all rfl)) (nl W) ?_
 unfold If at h
 refine B4 (s0:=⟨T [(0,(.d _)),(1,(.d _)),(2,(.d _))],G []⟩) (F3 W W) ?_
 refine A9<|sv W<|A1<|A4<|A9<|sv W<|A1<|js h fun z1 hz1 h=>E0 (fun s=> ∃(y1:Unit) (g1:Unit),z1= .inl y1∧Sb ⟨T [],G []⟩ s) ?_ ?_
 refine A7<|E3 (Di p1 p2 p3) (fun (x1:Int) (g2:Unit)=>⟨T [(0,(dl A5 p1)),(1,(di p2)),(2,(di p3)),(7,(di x1))],G []⟩) 0 () _ hz1 (F3 W W) ?_
 intro x1 g2 z2 hz2 ez2
 unfold Di at hz2
 refine A4<|A9<|sv W<|sv W<|sd W (D7 W)<|sv W<|A1<|cc W hz2 (fun c1 hz2=> ?_)<|fun c1 hz2=> ?_
 refine A8<|A4<|A7<|A4<|F4 W<|sv W<|sv W<|bs hz2 fun _ hv1 hz2=>sd W (C8 W W hv1 W)<|sd W (D6 W hv1 W)<|sv W<|sv W<|sv W<|gf W (fun _=>W)<|gf W (fun _=>W)<|bs hz2 fun _ hv2 hz2=>gf W (fun w3=>(C8 (A2 w3) (A2 w3) (C2 w3 hv2) W))<|gf W (fun w4=>(D6 (A2 w4) (C2 w4 hv2) W))<|gf W (fun _=>W)<|gf W (fun w6=>(N1 (A2 w6) (A2 w6) W))<|sd W (O2 W W<|fun hc=>A2<|J7 hc)<|sv W<|gf W (fun _=>W)<|gf W (vb W W W)<|gf W (fun w9=>(SW<|A2 w9))<|gv W (Z8 W) (fun _=>W) (gv W (Z8 W) (fun _=>W) (bs hz2 fun _ hv3 hz2=>gv W (Z8 W) (fun w12=>(C8 (A2 w12) (A2 w12) (C2 w12 hv3) W)) (gv W (Z8 W) (fun w13=>(D6 (A2 w13) (C2 w13 hv3) W)) (gv W (Z8 W) (fun _=>W) (gv W (Z8 W) (fun _=>W) (gv W (Z8 W) (vb W W W) (bs hz2 fun _ hv4 hz2=>gv W (Z8 W) (fun w17=>(C8 (A2 w17) (A2 w17) (C2 w17 hv4) W)) (gv W (Z8 W) (fun w18=>(D6 (A2 w18) (C2 w18 hv4) W)) (gv W (Z8 W) (fun w19=>(N1 (A2 w19) (A2 w19) W)) (gf W (fun w20=>(KS (A2 w20) (fun hc=>A2<|IB w20 hc) W))<|sd W (O2 W W<|fun hc=>A2<|J7 hc)<|A1<|cc W hz2 (fun c2 hz2=> ?_)<|fun c2 hz2=> ?_))))))))))
 refine A9<|sv W<|A1<|B0 ?_
 cases hz2
 obtain rfl:=ez2 _ rfl
 refine ⟨nofun,F2 ?_⟩
 rw [bT]at h
 cases h
 exact A6 (.inr W) (B6 (B2 W) C1) (.refl _)
 refine A8<|E2<|C0<|sv W<|sv W<|sv W<|A1<|E5 ?_
 cases hz2
 exact ⟨W,(),(F3 W W)⟩
 refine C6 W ?_
 cases hz2
 obtain rfl:=ez2 _ rfl
 refine ⟨nofun,C4 W<|Aj ?_⟩
 exact ⟨_,(),W,(F3 W W)⟩
 rintro _ ⟨y1,g1,rfl,q1⟩
 rw [bS]at h
 refine B4 q1<|A9<|sv W<|A1<|B0 ?_
 cases h
 exact A6 (.inr W) (B6 (B2 W) C1) (.refl _)
def Kz (p1:Map)(p2:Int):Option Int:=
  (B7 p1.Lanes p2).bind fun v1=>cond ((decide (v1.Kind<1))||(decide (v1.Kind>3))) (some 4) ((Pu v1.Curve_).bind fun v2=>cond (v2 !=0) (some v2) ((Ki v1.Kind).bind fun v3=>(Ff v1.Half 200 4000).bind fun v4=>((cond (!(!v4)) (Ff v1.Limit 1 v3.1) (some default))).bind fun v5=>cond ((!v4)||(!v5)) (some 2) (cond (decide ((v1.Next.length:Int)>3)) (some 8) ((If v1.Next (C5 (p2+1)) (p1.Lanes.length:Int)).bind fun v6=>cond (!v6) (some 11) (some 0)))))
theorem GJ(p1 p2 r)(h:Kz p1 p2=some r):PCall Tryz.prog 163 [(.agg (U5 p1)),(i64 p2)] (i64 r):=by
 refine C3 (fk Tryz.func163 Tryz.ntmps163 m0 (by with_unfolding_all rfl)) (nl W) ?_
 unfold Kz at h
 refine B4 (s0:=⟨T [(0,(.d _)),(1,(.d _))],G []⟩) (F3 W W) ?_
 refine A9<|sm W<|sv W<|A1<|A9<|sq W<|sl W G_hit W<|sv W<|bs h fun v1 hv1 h=>sd W (C8 W W hv1 W)<|sd W (D2 W hv1 W W)<|sm W<|Bc W G_hit (IJ v1) W (A1<|A4<|A9<|sq W<|sl W G_hit W<|sv W<|sv W<|gp W (K5 W) (fun _=>W) (gf W (vl W G_hit W)<|gf W (vb W W W)<|sd W (O2 W W<|fun hc=>A2<|J7 hc)<|A1<|cc W h (fun c1 h=> ?_)<|fun c1 h=> ?_))
 refine A9<|sv W<|A1<|B0 ?_
 cases h
 exact A6 (.inr W) (B6 (B2 W) C1) (.refl _)
 refine A8<|A9<|sq W<|sd W (B3 W G_hit W W)<|bs h fun _ hv2 h=>B1 W W A3 (DJ _ _ hv2) (.inl W) (sv W<|A1<|A4<|A9<|sv W<|sv W<|A1<|cc W h (fun c2 h=> ?_)<|fun c2 h=> ?_)
 refine A9<|sv W<|sv W<|A1<|B0 ?_
 cases h
 exact A6 (.inr W) (B6 (B2 W) C1) (.refl _)
 refine A8<|A9<|sq W<|sl W G_hit W<|bs h fun v3 hv3 h=>B1 W W A3 (Tx _ _ hv3) (.inl W) (sv W<|sv W<|sv W<|sv W<|sv W<|sv W<|sv W<|A1<|A4<|A9<|sq W<|sl W G_hit W<|bs h fun v4 hv4 h=>B1 W W A3 (Gy _ _ _ _ hv4) (.inl W) (B9 (.d (bo (!v4))) W W (sv W<|gp W (K5 W) (fun _=>W) (gf W (vl W G_hit W)<|gf W (fun _=>W)<|bs h fun v5 hv5 h=> ?_))))
 refine O3 _ (bo v5) (K5 W) (fun w7=>⟨_,[(di v1.Limit),(di 1),(di v3.1)],_,_,(by simp only [A2 w7];rfl),W,A3,Gy _ _ _ _<|C2 w7 hv5,(.inl W)⟩) ?_
 refine N2 _ (.d (bo (!v5))) W (K5 W) (fun w8=>(by simp only [A2 w8];rfl)) ?_
 refine sd W (O2 W W<|fun hc=>A2<|J7 hc)<|A1<|cc W h (fun c3 h=> ?_)<|fun c3 h=> ?_
 refine A9<|sv W<|A1<|B0 ?_
 cases h
 exact A6 (.inr W) (B6 (B2 W) C1) (.refl _)
 refine A8<|A4<|A9<|sq W<|sl W G_hit W<|sd W (D7 W)<|sv W<|A1<|cc W h (fun c4 h=> ?_)<|fun c4 h=> ?_
 refine A9<|sv W<|A1<|B0 ?_
 cases h
 exact A6 (.inr W) (B6 (B2 W) C1) (.refl _)
 refine A8<|A4<|A9<|sq W<|sl W G_hit W<|sv W<|sv W<|sq W<|sl W (gq W) W (sd W (D7 W)<|bs h fun v6 hv6 h=>B1 W W A3 (Rp _ _ _ _ hv6) (.inl W) (B9 (.d (bo (!v6))) W W (A1<|cc W h (fun c5 h=> ?_)<|fun c5 h=> ?_)))
 refine A9<|sv W<|A1<|B0 ?_
 cases h
 exact A6 (.inr W) (B6 (B2 W) C1) (.refl _)
 refine A8<|A9<|sv W<|A1<|B0 ?_
 cases h
 exact A6 (.inr W) (B6 (B2 W) C1) (.refl _)
def Dj (p1:Map)(v1:Lane)(x2:Int):Option (Stp Int (Sum Unit Int)):=
  cond (decide (x2< (v1.Next.length:Int))) ((B7 v1.Next x2).bind fun v2=>(B7 p1.Lanes v2).bind fun v3=>cond (v3.Kind !=v1.Kind) (some (.out (.inr 4))) ((B7 v3.Curve_.Pts 0).bind fun v4=>(B7 v1.Curve_.Pts (C5 ((v1.Curve_.Pts.length:Int) - 1))).bind fun v5=>cond (!(v4.X==v5.X&& (v4.Y==v5.Y&&true))) (some (.out (.inr 3))) (some (.go (C5 (x2+1)))))) (some (.out (.inl ())))
def Dk (p1:Map)(x1:Int):Option (Stp Int (Sum Unit Int)):=
  cond (decide (x1< (p1.Lanes.length:Int))) ((B7 p1.Lanes x1).bind fun v1=>thenS (loop (Dj p1 v1) 0) (fun _=>some (.go (C5 (x1+1)))) (fun r=>some (.out (.inr r)))) (some (.out (.inl ())))
def La (p1:Map):Option Int:=
  thenS (loop (Dk p1) 0) (fun _=>some 0) (fun r=>some r)
theorem GK(p1 r)(h:La p1=some r):PCall Tryz.prog 164 [(.agg (U5 p1))] (i64 r):=by
 refine C3 (fk Tryz.func164 Tryz.ntmps164 m0 (by with_unfolding_all rfl)) (nl W) ?_
 unfold La at h
 refine B4 (s0:=⟨T [(0,(.d _))],G []⟩) (F3 W W) ?_
 refine lr<|fun u1 _=>sm W<|sv W<|A1<|A4<|A9<|sv W<|A1<|js h fun z1 hz1 h=>E0 (fun s=> ∃(y1:Unit) (g1:Unit),z1= .inl y1∧Sb ⟨T [],G []⟩ s) ?_ ?_
 refine A7<|E3 (Dk p1) (fun (x1:Int) (g2:Unit)=>⟨T [(1,(.ptr (1,u1) 0)),(3,(di x1))],G [((1,u1),some<|.box 33 (M7 p1))]⟩) 0 () _ hz1 (F3 W W) ?_
 intro x1 g2 z2 hz2 ez2
 unfold Dk at hz2
 refine A4<|A9<|sv W<|sq W<|sl W G_hit W<|sd W (D7 W)<|sv W<|A1<|cc W hz2 (fun c1 hz2=> ?_)<|fun c1 hz2=> ?_
 refine A8<|A4<|A7<|lr<|fun u4 _=>sq W<|sl W G_hit W<|sv W<|bs hz2 fun v1 hv1 hz2=>sd W (C8 W W hv1 W)<|sd W (D2 W hv1 W W)<|sm W<|Bc W G_hit (IJ v1) W (A1<|A9<|sv W<|A1<|js hz2 fun z3 hz3 hz2=>E0 (fun s=> ∃(y2:Unit) (g3:Unit),z3= .inl y2∧Sb ⟨T [(1,(.ptr (1,u1) 0)),(3,(di x1))],G [((1,u1),some<|.box 33 (M7 p1))]⟩ s) ?_ ?_)
 refine A7<|E3 (Dj p1 v1) (fun (x2:Int) (g4:Unit)=>⟨T [(1,(.ptr (1,u1) 0)),(3,(di x1)),(4,(.ptr (4,u4) 0)),(5,(di x2))],G [((1,u1),some<|.box 33 (M7 p1)),((4,u4),some<|.box 63 (IJ v1))]⟩) 0 () _ hz3 (F3 W W) ?_
 intro x2 g4 z4 hz4 ez4
 unfold Dj at hz4
 refine A4<|A9<|sv W<|sq W<|sl W (gq W) W (sd W (D7 W)<|sv W<|A1<|cc W hz4 (fun c2 hz4=> ?_)<|fun c2 hz4=> ?_)
 refine A8<|A4<|A7<|A4<|F4 W<|sq W<|sl W G_hit W<|sq W<|sl W (gq W) W (sv W<|bs hz4 fun _ hv2 hz4=>sd W (C8 W W hv2 W)<|sd W (D6 W hv2 W)<|bs hz4 fun v3 hv3 hz4=>sd W (C8 W W hv3 W)<|sd W (D2 W hv3 W W)<|sm W<|Bc W G_hit (IJ v3) W (A1<|A4<|A9<|sq W<|sl W G_hit W<|sq W<|sl W (gq W) W (sv W<|A1<|cc W hz4 (fun c3 hz4=> ?_)<|fun c3 hz4=> ?_)))
 refine A9<|sv W<|A1<|B0 ?_
 cases hz4
 obtain rfl:=ez4 _ rfl
 refine ⟨nofun,F2 ?_⟩
 rw [bT]at hz2
 cases hz2
 obtain rfl:=ez2 _ rfl
 refine ⟨nofun,F2 ?_⟩
 rw [bT]at h
 cases h
 exact A6 (.inr W) (B6 (B2 W) C1) (.refl _)
 refine A8<|A4<|F4 W<|sq W<|sq W<|sl W G_hit W<|bs hz4 fun v4 hv4 hz4=>sd W (C8 W W hv4 W)<|sd W (D2 W hv4 W W)<|sq W<|sp W W<|sl W (gq W) W (sq W<|sp W W<|sl W (gq W) W (sd W (D7 W)<|sv W<|bs hz4 fun v5 hv5 hz4=>sd W (C8 W W hv5 W)<|sd W (D2 W hv5 W W)<|B9 (.d (bo (!(v4.X==v5.X&& (v4.Y==v5.Y&&true))))) W W (A1<|cc W hz4 (fun c4 hz4=> ?_)<|fun c4 hz4=> ?_)))
 refine A9<|sv W<|A1<|B0 ?_
 cases hz4
 obtain rfl:=ez4 _ rfl
 refine ⟨nofun,F2 ?_⟩
 rw [bT]at hz2
 cases hz2
 obtain rfl:=ez2 _ rfl
 refine ⟨nofun,F2 ?_⟩
 rw [bT]at h
 cases h
 exact A6 (.inr W) (B6 (B2 W) C1) (.refl _)
 refine A8<|E2<|C0<|sv W<|sv W<|sv W<|A1<|E5 ?_
 cases hz4
 exact ⟨W,(),(F3 W W)⟩
 refine C6 W ?_
 cases hz4
 obtain rfl:=ez4 _ rfl
 refine ⟨nofun,C4 W<|Aj ?_⟩
 exact ⟨_,(),W,(F3 W W)⟩
 rintro _ ⟨y2,g3,rfl,q1⟩
 rw [bS]at hz2
 refine E2<|B4 q1<|C0<|sv W<|sv W<|sv W<|A1<|E5 ?_
 cases hz2
 exact ⟨W,(),(F3 W W)⟩
 refine C6 W ?_
 cases hz2
 obtain rfl:=ez2 _ rfl
 refine ⟨nofun,C4 W<|Aj ?_⟩
 exact ⟨_,(),W,(F3 W W)⟩
 rintro _ ⟨y1,g1,rfl,q2⟩
 rw [bS]at h
 refine B4 q2<|A9<|sv W<|A1<|B0 ?_
 cases h
 exact A6 (.inr W) (B6 (B2 W) C1) (.refl _)
def Av (p1:Map)(p2:Signal)(x2:Int):Option (Stp Int (Sum Unit Int)):=
  cond (decide (x2< (p2.Phases.length:Int))) ((B7 p2.Phases x2).bind fun v4=>(If v4.Green 0 (p1.Lanes.length:Int)).bind fun v5=>cond (!v5) (some (.out (.inr 11))) (some (.go (C5 (x2+1))))) (some (.out (.inl ())))
def Aw (p2:Signal)(x1:(Bool×Int)):Option (Stp (Bool×Int) Bool):=
  cond (decide (x1.2< (p2.Phases.length:Int))) (((cond x1.1 (B7 p2.Phases x1.2) (some default))).bind fun v2=>((cond x1.1 (Ff v2.Ticks 1 10000) (some default))).bind fun v3=>some (.go ((x1.1&&v3),(C5 (x1.2+1))))) (some (.out x1.1))
def Hm (p1:Map)(p2:Signal):Option Int:=
  cond ((p2.Phases.length:Int)==0) (some 6) (cond (decide ((p2.Phases.length:Int)>6)) (some 8) ((Ff p2.Offset 0 1099511627776).bind fun v1=>(loop (Aw p2) (v1,0)).bind fun y1=>cond (!y1) (some 2) (thenS (loop (Av p1 p2) 0) (fun _=>some 0) (fun r=>some r))))
theorem DK(p1 p2 r)(h:Hm p1 p2=some r):PCall Tryz.prog 165 [(.agg (U5 p1)),(.agg [(i64 p2.Offset),(.list (List.map Dg p2.Phases))])] (i64 r):=by
 refine C3 (fk Tryz.func165 Tryz.ntmps165 m0 (by with_unfolding_all rfl)) (nl W) ?_
 unfold Hm at h
 refine B4 (s0:=⟨T [(0,(.d _)),(1,(.d _))],G []⟩) (F3 W W) ?_
 refine lr<|fun u1 _=>sm W<|sm W<|sv W<|A1<|A4<|A9<|sq W<|sl W G_hit W<|sd W (D7 W)<|sv W<|A1<|cc W h (fun c1 h=> ?_)<|fun c1 h=> ?_
 refine A9<|sv W<|A1<|B0 ?_
 cases h
 exact A6 (.inr W) (B6 (B2 W) C1) (.refl _)
 refine A8<|A4<|A9<|sq W<|sl W G_hit W<|sd W (D7 W)<|sv W<|A1<|cc W h (fun c2 h=> ?_)<|fun c2 h=> ?_
 refine A9<|sv W<|A1<|B0 ?_
 cases h
 exact A6 (.inr W) (B6 (B2 W) C1) (.refl _)
 refine A8<|A9<|sq W<|sl W G_hit W<|bs h fun v1 hv1 h=>B1 W W A3 (Gy _ _ _ _ hv1) (.inl W) (sv W<|A1<|A4<|A9<|sv W<|A1<|bs h fun y1 hy1 h=>E0 (fun s=> ∃g1:Unit,Sb ⟨T [(2,(.ptr (2,u1) 0)),(3,(.ptr (3,u1) 0)),(5,(.d (bo y1)))],G [((2,u1),some<|.box 33 (M7 p1)),((3,u1),some<|.box 120 [(di p2.Offset),(dl Dg p2.Phases)])]⟩ s) ?_ ?_)
 refine A7<|E3 (Aw p2) (fun (x1:(Bool×Int)) (g2:Unit)=>⟨T [(2,(.ptr (2,u1) 0)),(3,(.ptr (3,u1) 0)),(5,(.d (bo x1.1))),(6,(di x1.2))],G [((2,u1),some<|.box 33 (M7 p1)),((3,u1),some<|.box 120 [(di p2.Offset),(dl Dg p2.Phases)])]⟩) (v1,0) () _ hy1 (F3 W W) ?_
 intro x1 g2 z1 hz1 ez1
 unfold Aw at hz1
 refine A4<|A9<|sv W<|sq W<|sl W (gq W) W (sd W (D7 W)<|sv W<|A1<|cc W hz1 (fun c3 hz1=> ?_)<|fun c3 hz1=> ?_)
 refine A8<|A4<|A7<|C0<|sv W<|sv W<|gp W (M8 W) (fun _=>W) (gt W (vl W (gq W) W)<|gt W (fun _=>W)<|bs hz1 fun v2 hv2 hz1=>gt W (fun w4=>(C8 (A2 w4) (A2 w4) (C2 w4 hv2) W)) ?_)
 refine gt W (fun w5=>(by simp only [A2 w5];rfl)) ?_
 refine gt W (fun w6=>(D6 (A2 w6) (C2 w6 hv2) W))<|bs hz1 fun v3 hv3 hz1=> ?_
 refine O3 x1.1 (bo v3) (M8 W) (fun w7=>⟨_,[(di v2.Ticks),(di 1),(di 10000)],_,_,(by simp only [A2 w7];rfl),W,A3,Gy _ _ _ _<|C2 w7 hv3,(.inl W)⟩) ?_
 refine sa W W W<|sv W<|A1<|E2<|C0<|sv W<|sv W<|sv W<|A1<|E5 ?_
 cases hz1
 exact ⟨W,(),(F3 W W)⟩
 refine C6 W ?_
 cases hz1
 obtain rfl:=ez1 _ rfl
 refine ⟨nofun,C4 W<|Aj ?_⟩
 exact ⟨(),(F3 W W)⟩
 rintro _ ⟨g1,q1⟩
 refine B4 q1<|A4<|A9<|sv W<|B9 (.d (bo (!y1))) W W (A1<|cc W h (fun c4 h=> ?_)<|fun c4 h=> ?_)
 refine A9<|sv W<|A1<|B0 ?_
 cases h
 exact A6 (.inr W) (B6 (B2 W) C1) (.refl _)
 refine A8<|A4<|A9<|sv W<|A1<|js h fun z2 hz2 h=>E0 (fun s=> ∃(y2:Unit) (g3:Unit),z2= .inl y2∧Sb ⟨T [],G []⟩ s) ?_ ?_
 refine A7<|E3 (Av p1 p2) (fun (x2:Int) (g4:Unit)=>⟨T [(2,(.ptr (2,u1) 0)),(3,(.ptr (3,u1) 0)),(7,(di x2))],G [((2,u1),some<|.box 33 (M7 p1)),((3,u1),some<|.box 120 [(di p2.Offset),(dl Dg p2.Phases)])]⟩) 0 () _ hz2 (F3 W W) ?_
 intro x2 g4 z3 hz3 ez3
 unfold Av at hz3
 refine A4<|A9<|sv W<|sq W<|sl W (gq W) W (sd W (D7 W)<|sv W<|A1<|cc W hz3 (fun c5 hz3=> ?_)<|fun c5 hz3=> ?_)
 refine A8<|A4<|A7<|A4<|F4 W<|sq W<|sl W (gq W) W (sv W<|bs hz3 fun _ hv4 hz3=>sd W (C8 W W hv4 W)<|sv W<|sd W (D6 W hv4 W)<|sq W<|sl W G_hit W<|sd W (D7 W)<|bs hz3 fun v5 hv5 hz3=>B1 W W A3 (Rp _ _ _ _ hv5) (.inl W) (B9 (.d (bo (!v5))) W W (A1<|cc W hz3 (fun c6 hz3=> ?_)<|fun c6 hz3=> ?_)))
 refine A9<|sv W<|A1<|B0 ?_
 cases hz3
 obtain rfl:=ez3 _ rfl
 refine ⟨nofun,F2 ?_⟩
 rw [bT]at h
 cases h
 exact A6 (.inr W) (B6 (B2 W) C1) (.refl _)
 refine A8<|E2<|C0<|sv W<|sv W<|sv W<|A1<|E5 ?_
 cases hz3
 exact ⟨W,(),(F3 W W)⟩
 refine C6 W ?_
 cases hz3
 obtain rfl:=ez3 _ rfl
 refine ⟨nofun,C4 W<|Aj ?_⟩
 exact ⟨_,(),W,(F3 W W)⟩
 rintro _ ⟨y2,g3,rfl,q2⟩
 rw [bS]at h
 refine B4 q2<|A9<|sv W<|A1<|B0 ?_
 cases h
 exact A6 (.inr W) (B6 (B2 W) C1) (.refl _)
def Ev (p1:Curve)(x1:((List Int)×Int)):Option (Stp ((List Int)×Int) (List Int)):=
  cond (decide ((C5 (x1.2+1))< (p1.Pts.length:Int))) ((B7 p1.Pts (C5 (x1.2+1))).bind fun v2=>(B7 p1.Pts x1.2).bind fun v3=>(Mz v2 v3).bind fun v4=>(Pt v4 v4).bind fun v5=>(Na v5).bind fun v6=>(Bo x1.1 [v6]).bind fun v7=>some (.go (v7,(C5 (x1.2+1))))) (some (.out x1.1))
def Qm (p1:Curve):Option (List Int):=
  (Pu p1).bind fun v1=>cond (v1 !=0) (some []) ((loop (Ev p1) ([],0)).bind fun y1=>some y1)
theorem LN(p1 r)(h:Qm p1=some r):PCall Tryz.prog 134 [(.agg [(.list (List.map Ek p1.Pts))])] (.list (List.map A5 r)):=by
 refine C3 (fk Tryz.func134 Tryz.ntmps134 (fun r=>if r==8 then [1005]else []) (by with_unfolding_all rfl)) (nl W) ?_
 unfold Qm at h
 refine B4 (s0:=⟨T [(0,(.d _))],G []⟩) (F3 W W) ?_
 refine lr<|fun u1 _=>sm W<|sv W<|A1<|A4<|A9<|sd W (B3 W G_hit W W)<|bs h fun _ hv1 h=>B1 W W A3 (DJ _ _ hv1) (.inl W) (sv W<|A1<|cc W h (fun c1 h=> ?_)<|fun c1 h=> ?_)
 refine A9<|sv W<|A1<|B0 ?_
 cases h
 exact A6 (.inr W) (B6 (B2 W) C1) DLe.nil
 refine A8<|A9<|sv W<|A1<|A4<|A9<|sv W<|A1<|bs h fun y1 hy1 h=>E0 (fun s=> ∃g1:Nat,Sb ⟨T [(3,(oS y1 (35,g1)))],G [((35,g1),oB 2 1 A5 y1)]⟩ s) ?_ ?_
 refine A7<|E3 (Ev p1) (fun (x1:((List Int)×Int)) (g2:Nat)=>⟨T [(1,(.ptr (1,u1) 0)),(3,(oS x1.1 (35,g2))),(4,(di x1.2))],G [((1,u1),some<|.box 61 [(dl Ek p1.Pts)]),((35,g2),oB 2 1 A5 x1.1)]⟩) ([],0) 0 _ hy1 (E1 (Ck W)<|B5 G_hit (.of W)<|X0 trivial) ?_
 intro x1 g2 z1 hz1 ez1
 unfold Ev at hz1
 refine A4<|A9<|sv W<|sv W<|sq W<|sl W G_hit W<|sd W (D7 W)<|sv W<|A1<|cc W hz1 (fun c2 hz1=> ?_)<|fun c2 hz1=> ?_
 refine A8<|A4<|A7<|A4<|F4 W<|sq W<|sl W G_hit W<|sv W<|sv W<|bs hz1 fun _ hv2 hz1=>sd W (C8 W W hv2 W)<|sd W (D2 W hv2 W W)<|sq W<|sl W G_hit W<|sv W<|bs hz1 fun _ hv3 hz1=>sd W (C8 W W hv3 W)<|sd W (D2 W hv3 W W)<|bs hz1 fun v4 hv4 hz1=>B1 W W A3 (Wc _ _ _ hv4) (.inl W) (sm W<|Bc W G_hit [(di v4.X),(di v4.Y)] W (A1<|Eh fun u8 _=>B9 (oS x1.1 (35,g2)) W W (sd W (B3 W G_hit W W)<|sd W (B3 W G_hit W W)<|bs hz1 fun _ hv5 hz1=>B1 W W A3 (Vb _ _ _ hv5) (.inl W) (bs hz1 fun v6 hv6 hz1=>B1 W W A3 (FI _ _ hv6) (.inl W) (B9 (dl A5 [v6]) W W (bs hz1 fun _ hv7 hz1=>V3 A5 (35,g2) x1.1 v6 [] _ (N3<|fun _=>W) W (gq W) hv7 (ss W<|A1<|E2<|C0<|sv W<|sv W<|sv W<|A1<|E5 ?_)))))))
 cases hz1
 exact ⟨W,u8,(E1 ⟨.of W,(.of (Aq<|Ba hv7).symm), .of W,trivial⟩<|sg W<|O6 G_hit trivial)⟩
 refine C6 W ?_
 cases hz1
 obtain rfl:=ez1 _ rfl
 refine ⟨nofun,C4 W<|Aj ?_⟩
 exact ⟨g2,(E1 ⟨.of W,trivial⟩<|B8 (gq W) trivial)⟩
 rintro _ ⟨g1,q1⟩
 refine B4 q1<|A9<|B9 (oS y1 (35,g1)) W W (B9 (oS y1 (35,g1)) W W (A1<|B0 ?_))
 cases h
 exact A6 (.inr W) (B6 (B2 W)<|Y3 G_hit) Y2
def Cy (v1:(List Int))(x1:(Int×Int)):Option (Stp (Int×Int) Int):=
  cond (decide (x1.2< (v1.length:Int))) ((B7 v1 x1.2).bind fun v2=>some (.go ((C5 (x1.1+v2)),(C5 (x1.2+1))))) (some (.out x1.1))
def Ho (p1:Curve):Option Int:=
  (Qm p1).bind fun v1=>(loop (Cy v1) (0,0)).bind fun y1=>some y1
theorem Ty(p1 r)(h:Ho p1=some r):PCall Tryz.prog 204 [(.agg [(.list (List.map Ek p1.Pts))])] (i64 r):=by
 refine C3 (fk Tryz.func204 Tryz.ntmps204 m0 (by with_unfolding_all rfl)) (nl W) ?_
 unfold Ho at h
 refine B4 (s0:=⟨T [(0,(.d _))],G []⟩) (F3 W W) ?_
 refine A9<|sm W<|sv W<|A1<|A9<|sv W<|A1<|A9<|sd W (B3 W G_hit W W)<|bs h fun v1 hv1 h=>B1 W W A3 (LN _ _ hv1) (.inl W) (sv W<|A1<|A4<|A9<|sv W<|A1<|bs h fun y1 hy1 h=>E0 (fun s=> ∃g1:Unit,Sb ⟨T [(3,(di y1))],G []⟩ s) ?_ ?_)
 refine A7<|E3 (Cy v1) (fun (x1:(Int×Int)) (g2:Unit)=>⟨T [(3,(di x1.1)),(4,(dl A5 v1)),(5,(di x1.2))],G []⟩) (0,0) () _ hy1 (F3 W W) ?_
 intro x1 g2 z1 hz1 ez1
 unfold Cy at hz1
 refine A4<|A9<|sv W<|sv W<|sd W (D7 W)<|sv W<|A1<|cc W hz1 (fun c1 hz1=> ?_)<|fun c1 hz1=> ?_
 refine A8<|A4<|A7<|C0<|sv W<|sv W<|sv W<|bs hz1 fun _ hv2 hz1=>sd W (C8 W W hv2 W)<|sd W (D6 W hv2 W)<|sv W<|sv W<|A1<|E2<|C0<|sv W<|sv W<|sv W<|A1<|E5 ?_
 cases hz1
 exact ⟨W,(),(F3 W W)⟩
 refine C6 W ?_
 cases hz1
 obtain rfl:=ez1 _ rfl
 refine ⟨nofun,C4 W<|Aj ?_⟩
 exact ⟨(),(F3 W W)⟩
 rintro _ ⟨g1,q1⟩
 refine B4 q1<|A9<|sv W<|sv W<|A1<|B0 ?_
 cases h
 exact A6 (.inr W) (B6 (B2 W) C1) (.refl _)
def Dl (p1:Map)(p2:Zone)(x2:Int):Option (Stp Int (Sum Unit Int)):=
  cond (decide (x2< (p2.Parts.length:Int))) ((B7 p2.Parts x2).bind fun v4=>((cond (!((decide (v4.From<0))||(decide (v4.From≥v4.To)))) (B7 p1.Lanes v4.Lane_) (some default))).bind fun v5=>((cond (!((decide (v4.From<0))||(decide (v4.From≥v4.To)))) (Ho v5.Curve_) (some default))).bind fun v6=>cond (((((decide (v4.From<0))||(decide (v4.From≥v4.To)))||(decide (v4.To>v6)))||(decide (v4.Rank<0)))||(decide (v4.Rank>100))) (some (.out (.inr 2))) (some (.go (C5 (x2+1))))) (some (.out (.inl ())))
def Kj (p2:Zone)(x1:((List Int)×Int)):Option (Stp ((List Int)×Int) (List Int)):=
  cond (decide (x1.2< (p2.Parts.length:Int))) ((B7 p2.Parts x1.2).bind fun v1=>(Bo x1.1 [v1.Lane_]).bind fun v2=>some (.go (v2,(C5 (x1.2+1))))) (some (.out x1.1))
def Lb (p1:Map)(p2:Zone):Option Int:=
  cond (decide ((p2.Parts.length:Int)<2)) (some 6) (cond (decide ((p2.Parts.length:Int)>6)) (some 8) (cond ((decide (p2.Signal_<0))||(decide (p2.Signal_>(p1.Signals.length:Int)))) (some 2) ((loop (Kj p2) ([],0)).bind fun y1=>(If y1 0 (p1.Lanes.length:Int)).bind fun v3=>cond (!v3) (some 11) (thenS (loop (Dl p1 p2) 0) (fun _=>some 0) (fun r=>some r)))))
theorem GL(p1 p2 r)(h:Lb p1 p2=some r):PCall Tryz.prog 166 [(.agg (U5 p1)),(.agg [(.list (List.map Dp p2.Parts)),(i64 p2.Signal_)])] (i64 r):=by
 refine C3 (fk Tryz.func166 Tryz.ntmps166 (fun r=>if r==11 then [1007]else []) (by with_unfolding_all rfl)) (nl W) ?_
 unfold Lb at h
 refine B4 (s0:=⟨T [(0,(.d _)),(1,(.d _))],G []⟩) (F3 W W) ?_
 refine lr<|fun u1 _=>sm W<|sm W<|sv W<|A1<|A4<|A9<|sq W<|sl W G_hit W<|sd W (D7 W)<|sv W<|A1<|cc W h (fun c1 h=> ?_)<|fun c1 h=> ?_
 refine A9<|sv W<|A1<|B0 ?_
 cases h
 exact A6 (.inr W) (B6 (B2 W) C1) (.refl _)
 refine A8<|A4<|A9<|sq W<|sl W G_hit W<|sd W (D7 W)<|sv W<|A1<|cc W h (fun c2 h=> ?_)<|fun c2 h=> ?_
 refine A9<|sv W<|A1<|B0 ?_
 cases h
 exact A6 (.inr W) (B6 (B2 W) C1) (.refl _)
 refine A8<|A4<|A9<|sq W<|sl W G_hit W<|sv W<|sv W<|gp W (K5 W) (fun _=>W) (gf W (vl W G_hit W)<|gp W (K5 W) (fun _=>W) (gf W (vl W (gq W) W)<|gf W (fun w5=>(D7<|A2 w5))<|gf W (fun w6=>(N1 (A2 w6) (A2 w6) W))<|sd W (O2 W W<|fun hc=>A2<|J7 hc)<|A1<|cc W h (fun c3 h=> ?_)<|fun c3 h=> ?_))
 refine A9<|sv W<|A1<|B0 ?_
 cases h
 exact A6 (.inr W) (B6 (B2 W) C1) (.refl _)
 refine A8<|A9<|sv W<|A1<|A4<|A9<|sv W<|A1<|bs h fun y1 hy1 h=>E0 (fun s=> ∃g1:Nat,Sb ⟨T [(2,(.ptr (2,u1) 0)),(3,(.ptr (3,u1) 0)),(5,(oS y1 (43,g1)))],G [((2,u1),some<|.box 33 (M7 p1)),((3,u1),some<|.box 117 [(dl Dp p2.Parts),(di p2.Signal_)]),((43,g1),oB 3 1 A5 y1)]⟩ s) ?_ ?_
 refine A7<|E3 (Kj p2) (fun (x1:((List Int)×Int)) (g2:Nat)=>⟨T [(2,(.ptr (2,u1) 0)),(3,(.ptr (3,u1) 0)),(5,(oS x1.1 (43,g2))),(6,(di x1.2))],G [((2,u1),some<|.box 33 (M7 p1)),((3,u1),some<|.box 117 [(dl Dp p2.Parts),(di p2.Signal_)]),((43,g2),oB 3 1 A5 x1.1)]⟩) ([],0) 0 _ hy1 (E1 (Ck W)<|sg W<|B5 G_hit (.of W)<|X0 trivial) ?_
 intro x1 g2 z1 hz1 ez1
 unfold Kj at hz1
 refine A4<|A9<|sv W<|sq W<|sl W (gq W) W (sd W (D7 W)<|sv W<|A1<|cc W hz1 (fun c4 hz1=> ?_)<|fun c4 hz1=> ?_)
 refine A8<|A4<|A7<|Eh fun u11 _=>B9 (oS x1.1 (43,g2)) W W (sq W<|sl W (gq W) W (sv W<|bs hz1 fun v1 hv1 hz1=>sd W (C8 W W hv1 W)<|sv W<|sd W (D6 W hv1 W)<|B9 (dl A5 [v1.Lane_]) W W (bs hz1 fun _ hv2 hz1=>V3 A5 (43,g2) x1.1 v1.Lane_ [] _ (N3<|fun _=>W) W (gq W) hv2 (ss W<|A1<|E2<|C0<|sv W<|sv W<|sv W<|A1<|E5 ?_))))
 cases hz1
 exact ⟨W,u11,(E1 ⟨.of W, .of W,(.of (Aq<|Ba hv2).symm), .of W,trivial⟩<|sg W<|sg W<|O6 G_hit trivial)⟩
 refine C6 W ?_
 cases hz1
 obtain rfl:=ez1 _ rfl
 refine ⟨nofun,C4 W<|Aj ?_⟩
 exact ⟨g2,(E1 (Ck W)<|B5 G_hit (.of W)<|sg W<|B8 (gq W) trivial)⟩
 rintro _ ⟨g1,q1⟩
 refine B4 q1<|A4<|A9<|B9 (oS y1 (43,g1)) W W (sq W<|sl W G_hit W<|sd W (D7 W)<|bs h fun v3 hv3 h=>B1 W (E7 (Y3<|gq W)<|rD<|rD G2) (.cons Y2 (.cons (.refl _) A3)) (Rp _ _ _ _ hv3) (.inr W) (B9 (.d (bo (!v3))) W W (A1<|cc W h (fun c5 h=> ?_)<|fun c5 h=> ?_)))
 refine A9<|sv W<|A1<|B0 ?_
 cases h
 exact A6 (.inr W) (B6 (B2 W) C1) (.refl _)
 refine A8<|A4<|A9<|sv W<|A1<|js h fun z2 hz2 h=>E0 (fun s=> ∃(y2:Unit) (g3:Unit),z2= .inl y2∧Sb ⟨T [],G []⟩ s) ?_ ?_
 refine A7<|E3 (Dl p1 p2) (fun (x2:Int) (g4:Unit)=>⟨T [(2,(.ptr (2,u1) 0)),(3,(.ptr (3,u1) 0)),(7,(di x2))],G [((2,u1),some<|.box 33 (M7 p1)),((3,u1),some<|.box 117 [(dl Dp p2.Parts),(di p2.Signal_)])]⟩) 0 () _ hz2 (F3 W W) ?_
 intro x2 g4 z3 hz3 ez3
 unfold Dl at hz3
 refine A4<|A9<|sv W<|sq W<|sl W (gq W) W (sd W (D7 W)<|sv W<|A1<|cc W hz3 (fun c6 hz3=> ?_)<|fun c6 hz3=> ?_)
 refine A8<|A4<|A7<|A9<|sq W<|sl W (gq W) W (sv W<|bs hz3 fun v4 hv4 hz3=>sd W (C8 W W hv4 W)<|sd W (D2 W hv4 W W)<|sm W<|Bc W G_hit (FA v4) W (A1<|A4<|F4 W<|sq W<|sl W G_hit W<|sv W<|sv W<|gp W (K5 W) (fun _=>W) (gf W (vl W G_hit W)<|gp W (K5 W) (fun _=>W) (gf W (vl W G_hit W)<|gf W (fun w11=>(N1 (A2 w11) (A2 w11) W))<|sd W (O2 W W<|fun hc=>A2<|J7 hc)<|sv W<|gp W (K5 W) (fun _=>W) (gf W (vl W G_hit W)<|gp W (K5 W) (fun _=>W) (gf W (vl W (gq W) W)<|gp W (K5 W) (fun _=>W) (gf W (vl W G_hit W)<|bs hz3 fun v5 hv5 hz3=>gf W (fun w18=>(C8 (A2 w18) (A2 w18) (C2 w18 hv5) W)) ?_)))))))
 refine gf W (fun w19=>(by simp only [A2 w19];rfl)) ?_
 refine gf W (fun w20=>(D2 (A2 w20) (C2 w20 hv5) W W))<|bs hz3 fun v6 hv6 hz3=> ?_
 refine O3 _ (i64 v6) (K5 W) (fun w21=>⟨_,[(.d (.agg [(.list (List.map Ek v5.Curve_.Pts))]))],_,_,(by simp only [A2 w21];rfl),W,A3,Ty _ _<|C2 w21 hv6,(.inl W)⟩) ?_
 refine gf W (fun w22=>(N1 (A2 w22) (A2 w22) W))<|sd W (O2 W W<|fun hc=>A2<|J7 hc)<|sv W<|gp W (K5 W) (fun _=>W) (gf W (vl W G_hit W)<|gf W (vb W W W)<|sd W (O2 W W<|fun hc=>A2<|J7 hc)<|sv W<|gp W (K5 W) (fun _=>W) (gf W (vl W G_hit W)<|gf W (vb W W W)<|sd W (O2 W W<|fun hc=>A2<|J7 hc)<|A1<|cc W hz3 (fun c7 hz3=> ?_)<|fun c7 hz3=> ?_))
 refine A9<|sv W<|A1<|B0 ?_
 cases hz3
 obtain rfl:=ez3 _ rfl
 refine ⟨nofun,F2 ?_⟩
 rw [bT]at h
 cases h
 exact A6 (.inr W) (B6 (B2 W) C1) (.refl _)
 refine A8<|E2<|C0<|sv W<|sv W<|sv W<|A1<|E5 ?_
 cases hz3
 exact ⟨W,(),(F3 W W)⟩
 refine C6 W ?_
 cases hz3
 obtain rfl:=ez3 _ rfl
 refine ⟨nofun,C4 W<|Aj ?_⟩
 exact ⟨_,(),W,(F3 W W)⟩
 rintro _ ⟨y2,g3,rfl,q2⟩
 rw [bS]at h
 refine B4 q2<|A9<|sv W<|A1<|B0 ?_
 cases h
 exact A6 (.inr W) (B6 (B2 W) C1) (.refl _)
def Lc (p1:Map)(p2:Work):Option Int:=
  cond ((decide (p2.Lane_<0))||(decide (p2.Lane_≥(p1.Lanes.length:Int)))) (some 7) ((B7 p1.Lanes p2.Lane_).bind fun v1=>(Ki v1.Kind).bind fun v2=>((cond (!((decide (p2.From<0))||(decide (p2.From>p2.To)))) (Ho v1.Curve_) (some default))).bind fun v3=>((cond (!((((((decide (p2.From<0))||(decide (p2.From>p2.To)))||(decide (p2.To>v3)))||(decide (p2.Begin<0)))||(decide (p2.Begin≥p2.End)))||(decide (p2.End>1099511627776)))) (Ff p2.Limit 0 v2.1) (some default))).bind fun v4=>cond (((((((decide (p2.From<0))||(decide (p2.From>p2.To)))||(decide (p2.To>v3)))||(decide (p2.Begin<0)))||(decide (p2.Begin≥p2.End)))||(decide (p2.End>1099511627776)))||(!v4)) (some 2) (some 0))
theorem GM(p1 p2 r)(h:Lc p1 p2=some r):PCall Tryz.prog 167 [(.agg (U5 p1)),(.agg (Ze p2))] (i64 r):=by
 refine C3 (fk Tryz.func167 Tryz.ntmps167 m0 (by with_unfolding_all rfl)) (nl W) ?_
 unfold Lc at h
 refine B4 (s0:=⟨T [(0,(.d _)),(1,(.d _))],G []⟩) (F3 W W) ?_
 refine A9<|sm W<|sn W W<|sv W<|A1<|A4<|A9<|sq W<|sl W G_hit W<|sv W<|sv W<|gp W (K5 W) (fun _=>W) (gf W (vl W G_hit W)<|gp W (K5 W) (fun _=>W) (gf W (vl W (gq W) W)<|gf W (fun w5=>(D7<|A2 w5))<|gf W (fun w6=>(N1 (A2 w6) (A2 w6) W))<|sd W (O2 W W<|fun hc=>A2<|J7 hc)<|A1<|cc W h (fun c1 h=> ?_)<|fun c1 h=> ?_))
 refine A9<|sv W<|A1<|B0 ?_
 cases h
 exact A6 (.inr W) (B6 (B2 W) C1) (.refl _)
 refine A8<|A9<|sq W<|sl W (gq W) W (sq W<|sl W G_hit W<|bs h fun v1 hv1 h=>sd W (C8 W W hv1 W)<|sd W (D2 W hv1 W W)<|sm W<|Bc W G_hit (IJ v1) W (A1<|A9<|sq W<|sl W G_hit W<|bs h fun v2 hv2 h=>B1 W W A3 (Tx _ _ hv2) (.inl W) (sv W<|sv W<|sv W<|sv W<|sv W<|sv W<|sv W<|A1<|A4<|A4<|F4 W<|sq W<|sl W (gq W) W (sv W<|sv W<|gp W (K5 W) (fun _=>W) (gf W (vl W (gq W) W)<|gp W (K5 W) (fun _=>W) (gf W (vl W (gq W) W)<|gf W (fun w11=>(N1 (A2 w11) (A2 w11) W))<|sd W (O2 W W<|fun hc=>A2<|J7 hc)<|sv W<|gp W (K5 W) (fun _=>W) (gf W (vl W (gq W) W)<|gp W (K5 W) (fun _=>W) (gf W (fun w15=>(B3 (A2 w15) G_hit W W))<|bs h fun v3 hv3 h=> ?_))))))))
 refine O3 _ (i64 v3) (K5 W) (fun w16=>⟨_,[(.d (.agg [(.list (List.map Ek v1.Curve_.Pts))]))],_,_,(by simp only [A2 w16];rfl),W,A3,Ty _ _<|C2 w16 hv3,(.inl W)⟩) ?_
 refine gf W (fun w17=>(N1 (A2 w17) (A2 w17) W))<|sd W (O2 W W<|fun hc=>A2<|J7 hc)<|sv W<|gp W (K5 W) (fun _=>W) (gf W (vl W (gq W) W)<|gf W (vb W W W)<|sd W (O2 W W<|fun hc=>A2<|J7 hc)<|sv W<|gp W (K5 W) (fun _=>W) (gf W (vl W (gq W) W)<|gp W (K5 W) (fun _=>W) (gf W (vl W (gq W) W)<|gf W (fun w25=>(N1 (A2 w25) (A2 w25) W))<|sd W (O2 W W<|fun hc=>A2<|J7 hc)<|sv W<|gp W (K5 W) (fun _=>W) (gf W (vl W (gq W) W)<|gf W (vb W W W)<|sd W (O2 W W<|fun hc=>A2<|J7 hc)<|sv W<|gp W (K5 W) (fun _=>W) (gf W (vl W (gq W) W)<|gf W (fun _=>W)<|bs h fun v4 hv4 h=> ?_)))))
 refine O3 _ (bo v4) (K5 W) (fun w32=>⟨_,[(di p2.Limit),(di 0),(di v2.1)],_,_,(by simp only [A2 w32];rfl),W,A3,Gy _ _ _ _<|C2 w32 hv4,(.inl W)⟩) ?_
 refine N2 _ (.d (bo (!v4))) W (K5 W) (fun w33=>(by simp only [A2 w33];rfl)) ?_
 refine sd W (O2 W W<|fun hc=>A2<|J7 hc)<|A1<|cc W h (fun c2 h=> ?_)<|fun c2 h=> ?_
 refine A9<|sv W<|A1<|B0 ?_
 cases h
 exact A6 (.inr W) (B6 (B2 W) C1) (.refl _)
 refine A8<|A9<|sv W<|A1<|B0 ?_
 cases h
 exact A6 (.inr W) (B6 (B2 W) C1) (.refl _)
def Jd (p1:Map)(x4:(Int×Int)):Option (Stp (Int×Int) Int):=
  cond ((decide (x4.2< (p1.Works.length:Int)))&& (x4.1==0)) ((B7 p1.Works x4.2).bind fun v8=>(Lc p1 v8).bind fun v9=>some (.go (v9,(C5 (x4.2+1))))) (some (.out x4.1))
def Je (p1:Map)(x3:(Int×Int)):Option (Stp (Int×Int) Int):=
  cond ((decide (x3.2< (p1.Zones.length:Int)))&& (x3.1==0)) ((B7 p1.Zones x3.2).bind fun v6=>(Lb p1 v6).bind fun v7=>some (.go (v7,(C5 (x3.2+1))))) (some (.out x3.1))
def Jf (p1:Map)(x2:(Int×Int)):Option (Stp (Int×Int) Int):=
  cond ((decide (x2.2< (p1.Signals.length:Int)))&& (x2.1==0)) ((B7 p1.Signals x2.2).bind fun v4=>(Hm p1 v4).bind fun v5=>some (.go (v5,(C5 (x2.2+1))))) (some (.out x2.1))
def Gh (p1:Map)(x1:Int):Option (Stp Int (Sum Unit Int)):=
  cond (decide (x1< (p1.Lanes.length:Int))) ((Kz p1 x1).bind fun v2=>cond (v2 !=0) (some (.out (.inr v2))) (some (.go (C5 (x1+1))))) (some (.out (.inl ())))
def Nb (p1:Map):Option Int:=
  (Ff p1.Version 0 1099511627776).bind fun v1=>cond (!v1) (some 2) (cond ((p1.Lanes.length:Int)==0) (some 6) (cond ((((decide ((p1.Lanes.length:Int)>12))||(decide ((p1.Zones.length:Int)>12)))||(decide ((p1.Signals.length:Int)>4)))||(decide ((p1.Works.length:Int)>8))) (some 8) (thenS (loop (Gh p1) 0) (fun _=>(La p1).bind fun v3=>(loop (Jf p1) (v3,0)).bind fun y2=>(loop (Je p1) (y2,0)).bind fun y3=>(loop (Jd p1) (y3,0)).bind fun y4=>some y4) (fun r=>some r))))
theorem Wd(p1 r)(h:Nb p1=some r):PCall Tryz.prog 76 [(.agg (U5 p1))] (i64 r):=by
 refine C3 (fk Tryz.func76 Tryz.ntmps76 m0 (by with_unfolding_all rfl)) (nl W) ?_
 unfold Nb at h
 refine B4 (s0:=⟨T [(0,(.d _))],G []⟩) (F3 W W) ?_
 refine lr<|fun u1 _=>sm W<|sv W<|A1<|A4<|A9<|sq W<|sl W G_hit W<|bs h fun v1 hv1 h=>B1 W W A3 (Gy _ _ _ _ hv1) (.inl W) (B9 (.d (bo (!v1))) W W (A1<|cc W h (fun c1 h=> ?_)<|fun c1 h=> ?_))
 refine A9<|sv W<|A1<|B0 ?_
 cases h
 exact A6 (.inr W) (B6 (B2 W) C1) (.refl _)
 refine A8<|A4<|A9<|sq W<|sl W G_hit W<|sd W (D7 W)<|sv W<|A1<|cc W h (fun c2 h=> ?_)<|fun c2 h=> ?_
 refine A9<|sv W<|A1<|B0 ?_
 cases h
 exact A6 (.inr W) (B6 (B2 W) C1) (.refl _)
 refine A8<|A4<|A9<|sq W<|sl W G_hit W<|sd W (D7 W)<|sv W<|sv W<|gp W (K5 W) (fun _=>W) (gf W (vl W G_hit W)<|gf W (fun w3=>(D7<|A2 w3))<|gf W (vb W W W)<|sd W (O2 W W<|fun hc=>A2<|J7 hc)<|sv W<|gp W (K5 W) (fun _=>W) (gf W (vl W G_hit W)<|gf W (fun w7=>(D7<|A2 w7))<|gf W (vb W W W)<|sd W (O2 W W<|fun hc=>A2<|J7 hc)<|sv W<|gp W (K5 W) (fun _=>W) (gf W (vl W G_hit W)<|gf W (fun w11=>(D7<|A2 w11))<|gf W (vb W W W)<|sd W (O2 W W<|fun hc=>A2<|J7 hc)<|A1<|cc W h (fun c3 h=> ?_)<|fun c3 h=> ?_)))
 refine A9<|sv W<|A1<|B0 ?_
 cases h
 exact A6 (.inr W) (B6 (B2 W) C1) (.refl _)
 refine A8<|A4<|A9<|sv W<|A1<|js h fun z1 hz1 h=>E0 (fun s=> ∃(y1:Unit) (g1:Unit),z1= .inl y1∧Sb ⟨T [(1,(.ptr (1,u1) 0))],G [((1,u1),some<|.box 33 (M7 p1))]⟩ s) ?_ ?_
 refine A7<|E3 (Gh p1) (fun (x1:Int) (g2:Unit)=>⟨T [(1,(.ptr (1,u1) 0)),(3,(di x1))],G [((1,u1),some<|.box 33 (M7 p1))]⟩) 0 () _ hz1 (F3 W W) ?_
 intro x1 g2 z2 hz2 ez2
 unfold Gh at hz2
 refine A4<|A9<|sv W<|sq W<|sl W G_hit W<|sd W (D7 W)<|sv W<|A1<|cc W hz2 (fun c4 hz2=> ?_)<|fun c4 hz2=> ?_
 refine A8<|A4<|A7<|A9<|sd W (B3 W G_hit W W)<|sv W<|bs hz2 fun _ hv2 hz2=>B1 W W A3 (GJ _ _ _ hv2) (.inl W) (sv W<|A1<|A9<|sv W<|sv W<|A1<|cc W hz2 (fun c5 hz2=> ?_)<|fun c5 hz2=> ?_)
 refine A9<|sv W<|sv W<|A1<|B0 ?_
 cases hz2
 obtain rfl:=ez2 _ rfl
 refine ⟨nofun,F2 ?_⟩
 rw [bT]at h
 cases h
 exact A6 (.inr W) (B6 (B2 W) C1) (.refl _)
 refine A8<|E2<|C0<|sv W<|sv W<|sv W<|A1<|E5 ?_
 cases hz2
 exact ⟨W,(),(F3 W W)⟩
 refine C6 W ?_
 cases hz2
 obtain rfl:=ez2 _ rfl
 refine ⟨nofun,C4 W<|Aj ?_⟩
 exact ⟨_,(),W,(F3 W W)⟩
 rintro _ ⟨y1,g1,rfl,q1⟩
 rw [bS]at h
 refine B4 q1<|A9<|sd W (B3 W G_hit W W)<|bs h fun v3 hv3 h=>B1 W W A3 (GK _ _ hv3) (.inl W) (sv W<|A1<|A4<|A9<|sv W<|A1<|bs h fun y2 hy2 h=>E0 (fun s=> ∃g3:Unit,Sb ⟨T [(1,(.ptr (1,u1) 0)),(5,(di y2))],G [((1,u1),some<|.box 33 (M7 p1))]⟩ s) ?_ ?_)
 refine A7<|E3 (Jf p1) (fun (x2:(Int×Int)) (g4:Unit)=>⟨T [(1,(.ptr (1,u1) 0)),(5,(di x2.1)),(6,(di x2.2))],G [((1,u1),some<|.box 33 (M7 p1))]⟩) (v3,0) () _ hy2 (F3 W W) ?_
 intro x2 g4 z3 hz3 ez3
 unfold Jf at hz3
 refine A4<|A9<|sv W<|sq W<|sl W G_hit W<|sd W (D7 W)<|sv W<|sv W<|gt W (fun _=>W)<|gt W (vb W W W)<|sa W W W<|A1<|cc W hz3 (fun c6 hz3=> ?_)<|fun c6 hz3=> ?_
 refine A8<|A4<|A7<|F4 W<|sd W (B3 W G_hit W W)<|sq W<|sl W G_hit W<|sv W<|bs hz3 fun _ hv4 hz3=>sd W (C8 W W hv4 W)<|sd W (D2 W hv4 W W)<|bs hz3 fun _ hv5 hz3=>B1 W W A3 (DK _ _ _ hv5) (.inl W) (sv W<|A1<|E2<|C0<|sv W<|sv W<|sv W<|A1<|E5 ?_)
 cases hz3
 exact ⟨W,(),(F3 W W)⟩
 refine C6 W ?_
 cases hz3
 obtain rfl:=ez3 _ rfl
 refine ⟨nofun,C4 W<|Aj ?_⟩
 exact ⟨(),(F3 W W)⟩
 rintro _ ⟨g3,q2⟩
 refine B4 q2<|A4<|A9<|sv W<|A1<|bs h fun y3 hy3 h=>E0 (fun s=> ∃g5:Unit,Sb ⟨T [(1,(.ptr (1,u1) 0)),(5,(di y3))],G [((1,u1),some<|.box 33 (M7 p1))]⟩ s) ?_ ?_
 refine A7<|E3 (Je p1) (fun (x3:(Int×Int)) (g6:Unit)=>⟨T [(1,(.ptr (1,u1) 0)),(5,(di x3.1)),(7,(di x3.2))],G [((1,u1),some<|.box 33 (M7 p1))]⟩) (y2,0) () _ hy3 (F3 W W) ?_
 intro x3 g6 z4 hz4 ez4
 unfold Je at hz4
 refine A4<|A9<|sv W<|sq W<|sl W G_hit W<|sd W (D7 W)<|sv W<|sv W<|gt W (fun _=>W)<|gt W (vb W W W)<|sa W W W<|A1<|cc W hz4 (fun c7 hz4=> ?_)<|fun c7 hz4=> ?_
 refine A8<|A4<|A7<|F4 W<|sd W (B3 W G_hit W W)<|sq W<|sl W G_hit W<|sv W<|bs hz4 fun _ hv6 hz4=>sd W (C8 W W hv6 W)<|sd W (D2 W hv6 W W)<|bs hz4 fun _ hv7 hz4=>B1 W W A3 (GL _ _ _ hv7) (.inl W) (sv W<|A1<|E2<|C0<|sv W<|sv W<|sv W<|A1<|E5 ?_)
 cases hz4
 exact ⟨W,(),(F3 W W)⟩
 refine C6 W ?_
 cases hz4
 obtain rfl:=ez4 _ rfl
 refine ⟨nofun,C4 W<|Aj ?_⟩
 exact ⟨(),(F3 W W)⟩
 rintro _ ⟨g5,q3⟩
 refine B4 q3<|A4<|A9<|sv W<|A1<|bs h fun y4 hy4 h=>E0 (fun s=> ∃g7:Unit,Sb ⟨T [(5,(di y4))],G []⟩ s) ?_ ?_
 refine A7<|E3 (Jd p1) (fun (x4:(Int×Int)) (g8:Unit)=>⟨T [(1,(.ptr (1,u1) 0)),(5,(di x4.1)),(8,(di x4.2))],G [((1,u1),some<|.box 33 (M7 p1))]⟩) (y3,0) () _ hy4 (F3 W W) ?_
 intro x4 g8 z5 hz5 ez5
 unfold Jd at hz5
 refine A4<|A9<|sv W<|sq W<|sl W G_hit W<|sd W (D7 W)<|sv W<|sv W<|gt W (fun _=>W)<|gt W (vb W W W)<|sa W W W<|A1<|cc W hz5 (fun c8 hz5=> ?_)<|fun c8 hz5=> ?_
 refine A8<|A4<|A7<|F4 W<|sd W (B3 W G_hit W W)<|sq W<|sl W G_hit W<|sv W<|bs hz5 fun _ hv8 hz5=>sd W (C8 W W hv8 W)<|sd W (D2 W hv8 W W)<|bs hz5 fun _ hv9 hz5=>B1 W W A3 (GM _ _ _ hv9) (.inl W) (sv W<|A1<|E2<|C0<|sv W<|sv W<|sv W<|A1<|E5 ?_)
 cases hz5
 exact ⟨W,(),(F3 W W)⟩
 refine C6 W ?_
 cases hz5
 obtain rfl:=ez5 _ rfl
 refine ⟨nofun,C4 W<|Aj ?_⟩
 exact ⟨(),(F3 W W)⟩
 rintro _ ⟨g7,q4⟩
 refine B4 q4<|A9<|sv W<|sv W<|A1<|B0 ?_
 cases h
 exact A6 (.inr W) (B6 (B2 W) C1) (.refl _)
def Qn (p1:(List Int))(p2:Int)(x1:Int):Option (Stp Int (Sum Unit Bool)):=
  cond (decide (x1< (p1.length:Int))) ((B7 p1 x1).bind fun v1=>cond (v1==p2) (some (.out (.inr true))) (some (.go (C5 (x1+1))))) (some (.out (.inl ())))
def Rr (p1:(List Int))(p2:Int):Option Bool:=
  thenS (loop (Qn p1 p2) 0) (fun _=>some false) (fun r=>some r)
theorem AP(p1 p2 r)(h:Rr p1 p2=some r):PCall Tryz.prog 190 [(.list (List.map A5 p1)),(i64 p2)] (bo r):=by
 refine C3 (fk Tryz.func190 Tryz.ntmps190 m0 (by with_unfolding_all rfl)) (nl W) ?_
 unfold Rr at h
 refine B4 (s0:=⟨T [(0,(.d _)),(1,(.d _))],G []⟩) (F3 W W) ?_
 refine A9<|sv W<|A1<|A4<|A9<|sv W<|A1<|js h fun z1 hz1 h=>E0 (fun s=> ∃(y1:Unit) (g1:Unit),z1= .inl y1∧Sb ⟨T [],G []⟩ s) ?_ ?_
 refine A7<|E3 (Qn p1 p2) (fun (x1:Int) (g2:Unit)=>⟨T [(0,(dl A5 p1)),(1,(di p2)),(5,(di x1))],G []⟩) 0 () _ hz1 (F3 W W) ?_
 intro x1 g2 z2 hz2 ez2
 unfold Qn at hz2
 refine A4<|A9<|sv W<|sv W<|sd W (D7 W)<|sv W<|A1<|cc W hz2 (fun c1 hz2=> ?_)<|fun c1 hz2=> ?_
 refine A8<|A4<|A7<|A9<|sv W<|sv W<|bs hz2 fun _ hv1 hz2=>sd W (C8 W W hv1 W)<|sd W (D6 W hv1 W)<|sv W<|sv W<|A1<|cc W hz2 (fun c2 hz2=> ?_)<|fun c2 hz2=> ?_
 refine A9<|sv W<|A1<|B0 ?_
 cases hz2
 obtain rfl:=ez2 _ rfl
 refine ⟨nofun,F2 ?_⟩
 rw [bT]at h
 cases h
 exact A6 (.inr W) (B6 (B2 W) C1) (.refl _)
 refine A8<|E2<|C0<|sv W<|sv W<|sv W<|A1<|E5 ?_
 cases hz2
 exact ⟨W,(),(F3 W W)⟩
 refine C6 W ?_
 cases hz2
 obtain rfl:=ez2 _ rfl
 refine ⟨nofun,C4 W<|Aj ?_⟩
 exact ⟨_,(),W,(F3 W W)⟩
 rintro _ ⟨y1,g1,rfl,q1⟩
 rw [bS]at h
 refine B4 q1<|A9<|sv W<|A1<|B0 ?_
 cases h
 exact A6 (.inr W) (B6 (B2 W) C1) (.refl _)
end
end Go.Abs.World
